/- What the functions that the law FnTables reaches return, and the law; it stands under no condition. -/
import Derived.Test.YtanpmilodaejpaaGreatYFnTablesb
import Derived.Shelf.SlSortCmp.NoneTotal
import Derived.Lib.QuietBelow
import Derived.Shelf.SortG.Plain
import Derived.Shelf.SortG.SortNone
namespace Go.Proofs.YtanpmilodaejpaaGreat.Gh
open Go Go.RowKit Go.Proofs
set_option linter.unusedVariables false
set_option linter.unusedSimpArgs false
set_option maxHeartbeats 4000000

theorem PutI.fin {G G' : GH} {Z Z0 : Option Addr} {z z0 : Nat} {hs : Nat → Option Addr × Nat} {xss : List (List Int)} {x : List Int} {E : List (Value × List Int)} (h : PutI G G' Z z hs xss x E) (ho : OwnR G Z0 z0 hs xss) (ha : Asc (E.map (·.2))) :
    ∃ hs', OwnR G' Z z hs' (E.map (·.2)) ∧ ∀ p, p < E.length → (∃ i, i < xss.length ∧ hs' p = hs i) ∨ Off G (hs' p).1 := by
  have hg : ∀ p, p < E.length → ∃ e, E[p]? = some e ∧ e ∈ E := fun p hp => ⟨E[p], List.getElem?_eq_getElem hp, List.getElem_mem hp⟩
  have hc : ∀ p, p < E.length → ∃ e, E[p]? = some e ∧ (E.map (·.2)).getD p [] = e.2 ∧ VB (E.getD p (.bool false, [])).1 = VB e.1 ∧ ((∃ i, i < xss.length ∧ e = old hs xss i) ∨ ∃ D d, e = (.slice D x.length d, x) ∧ Off G D ∧ Own (wz G' Z) D d (x.map I64) 1 x.length) := fun p hp => by
    obtain ⟨e, he, hm⟩ := hg p hp
    exact ⟨e, he, by rw [List.getD, List.getElem?_map, he]; rfl, by rw [List.getD, he]; rfl, h.ent e hm⟩
  refine ⟨fun p => VB (E.getD p (.bool false, [])).1, ⟨h.own.cast ?_ (by simp), fun p hp => ?_, fun p hp => ?_, fun p q hp hq hpq => ?_⟩, fun p hp => ?_⟩
  · apply List.ext_getElem?
    intro p
    rw [List.length_map, List.getElem?_map, List.getElem?_map]
    by_cases hp : p < E.length
    · obtain ⟨e, h1, h2, h3, h4⟩ := hc p hp
      rw [h1, List.getElem?_range hp, Option.map_some, Option.map_some, h2, h3]
      rcases h4 with ⟨i, _, rfl⟩ | ⟨D, d, rfl, _⟩ <;> rfl
    · rw [List.getElem?_eq_none (by omega), List.getElem?_eq_none (by simpa using hp)]; rfl
  · rw [List.length_map] at hp
    obtain ⟨e, h1, h2, h3, h4⟩ := hc p hp
    rw [h2, h3]
    rcases h4 with ⟨i, hi, rfl⟩ | ⟨D, d, rfl, _, hw⟩
    · exact (ho.row i hi).sub h.sub
    · exact hw.sub (Sub.wz _ _)
  · rw [List.length_map] at hp
    obtain ⟨e, h1, h2, h3, h4⟩ := hc p hp
    rw [h3]
    intro a b hA hB q
    rcases h4 with ⟨i, hi, rfl⟩ | ⟨D, d, rfl, _, hw⟩
    · have k1 := own_ne (ho.row i hi) a hA
      have k2 := h.off b hB
      rw [← q] at k2; exact k1 k2
    · have k1 := own_ne hw a hA
      have k2 := Off.wz G' Z b hB
      rw [← q] at k2; exact k1 k2
  · rw [List.length_map] at hp hq
    obtain ⟨e, h1, h2, h3, h4⟩ := hc p hp
    obtain ⟨f, k1, k2, k3, k4⟩ := hc q hq
    rw [h3, k3]
    have hne : e.2 ≠ f.2 := fun y => by
      have hP := List.pairwise_iff_getElem.1 ha
      have gp : (E.map (·.2)).getD p [] = (E.map (·.2))[p]'(by simpa using hp) := by simp [List.getD, hp]
      have gq : (E.map (·.2)).getD q [] = (E.map (·.2))[q]'(by simpa using hq) := by simp [List.getD, hq]
      rw [← h2, ← k2, gp, gq] at y
      rcases Nat.lt_or_gt_of_ne hpq with k | k
      · have := hP p q (by simpa using hp) (by simpa using hq) k; rw [y, lexC_self] at this; omega
      · have := hP q p (by simpa using hq) (by simpa using hp) k; rw [y, lexC_self] at this; omega
    intro a b hA hB r
    rcases h4 with ⟨i, hi, rfl⟩ | ⟨D, d, rfl, oD, hw⟩ <;> rcases k4 with ⟨j, hj, rfl⟩ | ⟨D', d', rfl, oD', hw'⟩
    · exact ho.inj i j hi hj (fun y => hne (by rw [y])) a b hA hB r
    · have := own_ne (ho.row i hi) a hA
      rw [r, oD' b hB] at this; exact this rfl
    · have := own_ne (ho.row j hj) b hB
      rw [← r, oD a hA] at this; exact this rfl
    · exact hne rfl
  · obtain ⟨e, h1, h2, h3, h4⟩ := hc p hp
    show (∃ i, i < xss.length ∧ VB (E.getD p (.bool false, [])).1 = hs i) ∨ Off G (VB (E.getD p (.bool false, [])).1).1
    rw [h3]
    rcases h4 with ⟨i, hi, rfl⟩ | ⟨D, d, rfl, oD, hw⟩
    · exact .inl ⟨i, hi, rfl⟩
    · exact .inr oD
theorem dropL {xss : List (List Int)} {k : Nat} (h : k < xss.length) : xss.drop k = xss.getD k [] :: xss.drop (k + 1) := by
  rw [List.drop_eq_getElem_cons h]; simp [List.getD, h]
theorem takeL {xss : List (List Int)} {k : Nat} (h : k < xss.length) : xss.take (k + 1) = xss.take k ++ [xss.getD k []] := by
  rw [List.take_succ_eq_append_getElem h]; simp [List.getD, h]
theorem spec_l20Put_ok {G : GH} {Z D : Option Addr} {z e : Nat} {hs : Nat → Option Addr × Nat} {xss : List (List Int)} {x : List Int} (h : OwnR G Z z hs xss) (ha : Asc xss) (hx : IntS G D e x) (hl : xss.length < 2 ^ 20) (hl2 : ∀ i, i < xss.length → (xss.getD i []).length < 2 ^ 30) (hxl : x.length < 2 ^ 30) {K : Value → GH → Prop}
    (hk : ∀ G' Z' z' hs', Sub G G' → OwnR G' Z' z' hs' (ins x xss) → Off G Z' → (∀ p, p < (ins x xss).length → (∃ i, i < xss.length ∧ hs' p = hs i) ∨ Off G (hs' p).1) → K (.slice Z' (ins x xss).length z') G') : GC Tryz.prog 179 [.slice Z xss.length z, .slice D x.length e] G K := by
  refine c_spec_l20Put_i (by simp) ?_
  have hR := h.rows
  simp (maxSteps := 300000) (disch := omega) only [gs, gs2, gs3, gs4, ↓reduceIte, Nat.reduceEqDiff, Int.reduceToNat, Nat.reduceMul, Nat.reduceAdd, Nat.reduceBEq, isLd, gBs]
  refine ⟨fun v hv => (by cases hv), fun bz hbz => ?_⟩
  refine gLoop_intro (fun m T G' => ∃ (k : Nat) (Zo : Option Addr) (zo : Nat) (E : List (Value × List Int)) (dn : Bool), T 0 = .slice Z xss.length z ∧ T 1 = .slice D x.length e ∧ T 5 = .slice Zo E.length zo ∧ T 6 = .bool dn ∧ T 7 = .int .i64 k ∧ m + k = xss.length ∧ k ≤ xss.length ∧ E.length ≤ k + 1 ∧ PutI G G' Zo zo hs xss x E ∧
      (dn = false → E.map (·.2) = xss.take k ∧ ins x xss = xss.take k ++ ins x (xss.drop k)) ∧ (dn = true → E.map (·.2) ++ xss.drop k = ins x xss)) xss.length
    ⟨0, some ⟨bz, 0, none⟩, 0, [], false, by simp (maxSteps := 300000) (disch := omega) only [gs, gs2, gs3, gs4, ↓reduceIte, Nat.reduceEqDiff, Int.reduceToNat, Nat.reduceMul, Nat.reduceAdd, Nat.reduceBEq, isLd], by simp (maxSteps := 300000) (disch := omega) only [gs, gs2, gs3, gs4, ↓reduceIte, Nat.reduceEqDiff, Int.reduceToNat, Nat.reduceMul, Nat.reduceAdd, Nat.reduceBEq, isLd], by simp (maxSteps := 300000) (disch := omega) only [gs, gs2, gs3, gs4, ↓reduceIte, Nat.reduceEqDiff, Int.reduceToNat, Nat.reduceMul, Nat.reduceAdd, Nat.reduceBEq, isLd] <;> rfl, by simp (maxSteps := 300000) (disch := omega) only [gs, gs2, gs3, gs4, ↓reduceIte, Nat.reduceEqDiff, Int.reduceToNat, Nat.reduceMul, Nat.reduceAdd, Nat.reduceBEq, isLd], by simp (maxSteps := 300000) (disch := omega) only [gs, gs2, gs3, gs4, ↓reduceIte, Nat.reduceEqDiff, Int.reduceToNat, Nat.reduceMul, Nat.reduceAdd, Nat.reduceBEq, isLd] <;> rfl, by omega, by omega, by simp, ⟨Sub.put hbz _, fun a ha => by cases ha; exact hbz, Own.blk (put_same _ _ _) rfl, fun e he => by cases he⟩, fun _ => by simp, fun y => by cases y⟩ ?_
  rintro m T G' ⟨k, Zo, zo, E, dn, t0, t1, t5, t6, t7, hm, hkl, hEl, hP, hF, hT⟩
  simp (maxSteps := 300000) (disch := omega) only [gs, gs2, gs3, gs4, ↓reduceIte, Nat.reduceEqDiff, Int.reduceToNat, Nat.reduceMul, Nat.reduceAdd, Nat.reduceBEq, isLd, t0, t1, t5, t6, t7]
  have hsn := hR.sn
  by_cases hkk : (k : Int) < xss.length
  · have rk : ∀ {G' : GH}, Sub G G' → rd G' (pa Z k) = some (.slice (hs k).1 (xss.getD k []).length (hs k).2) := fun s => rd_sub s (hR.r k (by omega))
    have hsk := hsn (by omega)
    have hd := dropL (show k < xss.length by omega)
    have ht := takeL (show k < xss.length by omega)
    simp (maxSteps := 300000) (disch := omega) only [gs, gs2, gs3, gs4, ↓reduceIte, Nat.reduceEqDiff, Int.reduceToNat, Nat.reduceMul, Nat.reduceAdd, Nat.reduceBEq, isLd, t0, t1, t5, t6, t7, hkk, rk hP.sub]
    refine spec_l00Same_ok ((hR.row k (by omega)).sub hP.sub) (hx.sub hP.sub) (by have := hl2 k (by omega); omega) ?_
    by_cases hq : xss.getD k [] = x
    · have hqT : (xss.getD k [] = x) = True := eq_true hq
      simp (maxSteps := 300000) (disch := omega) only [gs, gs2, gs3, gs4, ↓reduceIte, Nat.reduceEqDiff, Int.reduceToNat, Nat.reduceMul, Nat.reduceAdd, Nat.reduceBEq, isLd, t0, t1, t5, t6, t7, hkk, rk hP.sub, hqT, gBs]
      refine ⟨fun v hv => (by simp at hv; subst hv; rfl), fun bs hbs => ?_⟩
      refine PutI.push (e := old hs xss k) (hP.up (Sub.put hbs _)) (.inl ⟨k, by omega, rfl⟩) (put_same _ _ _) (by omega) fun G4 Z4 z4 hP4 => ?_
      simp (maxSteps := 300000) (disch := omega) only [gs, gs2, gs3, gs4, ↓reduceIte, Nat.reduceEqDiff, Int.reduceToNat, Nat.reduceMul, Nat.reduceAdd, Nat.reduceBEq, isLd, t0, t1, t5, t6, t7]
      refine ⟨m - 1, by omega, G4, Sub.refl _, k + 1, Z4, z4, E ++ [old hs xss k], true, by simp, rfl, rfl, by omega, by omega, by simp; omega, hP4, fun y => (by cases y), fun _ => ?_⟩
      rw [List.map_append]
      show E.map (·.2) ++ [xss.getD k []] ++ _ = _
      rw [List.append_assoc, List.singleton_append, ← hd]
      cases dn
      · obtain ⟨hF1, hF2⟩ := hF rfl
        rw [hF1, hF2, hd, hq, ins, if_pos (lexC_self x)]
      · exact hT rfl
    · have hqF : (xss.getD k [] = x) = False := eq_false hq
      cases dn
      · obtain ⟨hF1, hF2⟩ := hF rfl
        simp (maxSteps := 300000) (disch := omega) only [gs, gs2, gs3, gs4, ↓reduceIte, Nat.reduceEqDiff, Int.reduceToNat, Nat.reduceMul, Nat.reduceAdd, Nat.reduceBEq, isLd, t0, t1, t5, t6, t7, hkk, rk hP.sub, hqF, gBs]
        refine spec_l16Before_ok (hx.sub hP.sub) ((hR.row k (by omega)).sub hP.sub) (by omega) (by have := hl2 k (by omega); omega) fun w hw => ?_
        cases w
        · simp (maxSteps := 300000) (disch := omega) only [gs, gs2, gs3, gs4, ↓reduceIte, Nat.reduceEqDiff, Int.reduceToNat, Nat.reduceMul, Nat.reduceAdd, Nat.reduceBEq, isLd, t0, t1, t5, t6, t7, hkk, rk hP.sub, gBs]
          refine ⟨fun v hv => (by simp at hv; subst hv; rfl), fun bs hbs => ?_⟩
          refine PutI.push (e := old hs xss k) (hP.up (Sub.put hbs _)) (.inl ⟨k, by omega, rfl⟩) (put_same _ _ _) (by omega) fun G4 Z4 z4 hP4 => ?_
          simp (maxSteps := 300000) (disch := omega) only [gs, gs2, gs3, gs4, ↓reduceIte, Nat.reduceEqDiff, Int.reduceToNat, Nat.reduceMul, Nat.reduceAdd, Nat.reduceBEq, isLd, t0, t1, t5, t6, t7]
          refine ⟨m - 1, by omega, G4, Sub.refl _, k + 1, Z4, z4, E ++ [old hs xss k], false, by simp, rfl, rfl, by omega, by omega, by simp; omega, hP4, fun _ => ⟨?_, ?_⟩, fun y => (by cases y)⟩
          · rw [List.map_append, hF1, ht]; rfl
          · have hn : ¬ lexC x (xss.getD k []) < 0 := fun y => by have := hw.2 y; cases this
            have hz : ¬ lexC x (xss.getD k []) = 0 := fun y => hq (lexC_zero.1 y).symm
            rw [hF2, hd, ins, if_neg hz, if_neg hn, ht, List.append_assoc]; rfl
        · have hlt := hw.1 rfl
          simp (maxSteps := 300000) (disch := omega) only [gs, gs2, gs3, gs4, ↓reduceIte, Nat.reduceEqDiff, Int.reduceToNat, Nat.reduceMul, Nat.reduceAdd, Nat.reduceBEq, isLd, t0, t1, t5, t6, t7, hkk, rk hP.sub]
          refine spec_l00Own_ok (hx.sub hP.sub) hxl fun G5 D5 d5 hN => ?_
          have hDo : ∀ x, D5 = some x → G' x.block = none := hN.off
          simp (maxSteps := 300000) (disch := omega) only [gs, gs2, gs3, gs4, ↓reduceIte, Nat.reduceEqDiff, Int.reduceToNat, Nat.reduceMul, Nat.reduceAdd, Nat.reduceBEq, isLd, t0, t1, t5, t6, t7, gBs]
          refine ⟨fun v hv => (by simp at hv; subst hv; rfl), fun bs hbs => ?_⟩
          have s9 := Sub.put hbs ⟨[.slice D5 x.length d5], true⟩
          refine PutI.push (e := (.slice D5 x.length d5, x)) (hP.up (hN.sub.trans s9)) (.inr ⟨D5, d5, rfl, hN.off.mono hP.sub, hN.fresh.sub s9, fun a b ha hb q => ?_⟩) (put_same _ _ _) (by omega) fun G4 Z4 z4 hP4 => ?_
          · have := own_ne hP.own b hb
            rw [← q, hDo a ha] at this; exact this rfl
          simp (maxSteps := 300000) (disch := omega) only [gs, gs2, gs3, gs4, ↓reduceIte, Nat.reduceEqDiff, Int.reduceToNat, Nat.reduceMul, Nat.reduceAdd, Nat.reduceBEq, isLd, t0, t1, t5, t6, t7, rk hP4.sub, gBs]
          refine ⟨fun v hv => (by simp at hv; subst hv; rfl), fun bs hbs => ?_⟩
          rw [show E.length + 1 = (E ++ [(Value.slice D5 x.length d5, x)]).length by simp]
          refine PutI.push (e := old hs xss k) (hP4.up (Sub.put hbs _)) (.inl ⟨k, by omega, rfl⟩) (put_same _ _ _) (by simp; omega) fun G6 Z6 z6 hP6 => ?_
          simp (maxSteps := 300000) (disch := omega) only [gs, gs2, gs3, gs4, ↓reduceIte, Nat.reduceEqDiff, Int.reduceToNat, Nat.reduceMul, Nat.reduceAdd, Nat.reduceBEq, isLd, t0, t1, t5, t6, t7]
          refine ⟨m - 1, by omega, G6, Sub.refl _, k + 1, Z6, z6, (E ++ [(Value.slice D5 x.length d5, x)]) ++ [old hs xss k], true, by simp, rfl, rfl, by omega, by omega, ?_, hP6, fun y => (by cases y), fun _ => ?_⟩
          · have : E.length = k := by rw [← List.length_map (f := (·.2)), hF1, List.length_take]; omega
            simp; omega
          · have hz : ¬ lexC x (xss.getD k []) = 0 := fun y => hq (lexC_zero.1 y).symm
            rw [List.map_append, List.map_append, hF1, hF2, hd, ins, if_neg hz, if_pos hlt]
            simp [old]
      · simp (maxSteps := 300000) (disch := omega) only [gs, gs2, gs3, gs4, ↓reduceIte, Nat.reduceEqDiff, Int.reduceToNat, Nat.reduceMul, Nat.reduceAdd, Nat.reduceBEq, isLd, t0, t1, t5, t6, t7, hkk, rk hP.sub, hqF, gBs]
        refine ⟨fun v hv => (by simp at hv; subst hv; rfl), fun bs hbs => ?_⟩
        refine PutI.push (e := old hs xss k) (hP.up (Sub.put hbs _)) (.inl ⟨k, by omega, rfl⟩) (put_same _ _ _) (by omega) fun G4 Z4 z4 hP4 => ?_
        simp (maxSteps := 300000) (disch := omega) only [gs, gs2, gs3, gs4, ↓reduceIte, Nat.reduceEqDiff, Int.reduceToNat, Nat.reduceMul, Nat.reduceAdd, Nat.reduceBEq, isLd, t0, t1, t5, t6, t7]
        refine ⟨m - 1, by omega, G4, Sub.refl _, k + 1, Z4, z4, E ++ [old hs xss k], true, by simp, rfl, rfl, by omega, by omega, by simp; omega, hP4, fun y => (by cases y), fun _ => ?_⟩
        rw [List.map_append]
        show E.map (·.2) ++ [xss.getD k []] ++ _ = _
        rw [List.append_assoc, List.singleton_append, ← hd]
        exact hT rfl
  · obtain rfl : k = xss.length := by omega
    rw [List.take_length, List.drop_length] at hF
    rw [List.drop_length, List.append_nil] at hT
    cases dn
    · obtain ⟨hF1, hF2⟩ := hF rfl
      simp (maxSteps := 300000) (disch := omega) only [gs, gs2, gs3, gs4, ↓reduceIte, Nat.reduceEqDiff, Int.reduceToNat, Nat.reduceMul, Nat.reduceAdd, Nat.reduceBEq, isLd, t0, t1, t5, t6, t7, hkk]
      refine spec_l00Own_ok (hx.sub hP.sub) hxl fun G5 D5 d5 hN => ?_
      have hDo : ∀ x, D5 = some x → G' x.block = none := hN.off
      simp (maxSteps := 300000) (disch := omega) only [gs, gs2, gs3, gs4, ↓reduceIte, Nat.reduceEqDiff, Int.reduceToNat, Nat.reduceMul, Nat.reduceAdd, Nat.reduceBEq, isLd, t0, t1, t5, t6, t7, gBs]
      refine ⟨fun v hv => (by simp at hv; subst hv; rfl), fun bs hbs => ?_⟩
      have s9 := Sub.put hbs ⟨[.slice D5 x.length d5], true⟩
      refine PutI.push (e := (.slice D5 x.length d5, x)) (hP.up (hN.sub.trans s9)) (.inr ⟨D5, d5, rfl, hN.off.mono hP.sub, hN.fresh.sub s9, fun a b ha hb q => ?_⟩) (put_same _ _ _) (by omega) fun G4 Z4 z4 hP4 => ?_
      · have := own_ne hP.own b hb
        rw [← q, hDo a ha] at this; exact this rfl
      simp (maxSteps := 300000) (disch := omega) only [gs, gs2, gs3, gs4, ↓reduceIte, Nat.reduceEqDiff, Int.reduceToNat, Nat.reduceMul, Nat.reduceAdd, Nat.reduceBEq, isLd, t0, t1, t5, t6, t7]
      have hE : (E ++ [(Value.slice D5 x.length d5, x)]).map (·.2) = ins x xss := by
        rw [List.map_append, hF1, hF2]; rfl
      obtain ⟨hs', ho', hh⟩ := hP4.fin h (by rw [hE]; exact asc_ins ha)
      have hlen : (E ++ [(Value.slice D5 x.length d5, x)]).length = (ins x xss).length := by rw [← hE, List.length_map]
      rw [hE] at ho'
      rw [show E.length + 1 = (ins x xss).length by rw [← hlen]; simp]
      exact hk G4 Z4 z4 hs' hP4.sub ho' hP4.off fun p hp => hh p (by omega)
    · have hT := hT rfl
      simp (maxSteps := 300000) (disch := omega) only [gs, gs2, gs3, gs4, ↓reduceIte, Nat.reduceEqDiff, Int.reduceToNat, Nat.reduceMul, Nat.reduceAdd, Nat.reduceBEq, isLd, t0, t1, t5, t6, t7, hkk]
      obtain ⟨hs', ho', hh⟩ := hP.fin h (by rw [hT]; exact asc_ins ha)
      have hlen : E.length = (ins x xss).length := by rw [← hT, List.length_map]
      rw [hT] at ho'
      rw [hlen]
      exact hk G' Zo zo hs' hP.sub ho' hP.off fun p hp => hh p (by omega)
theorem NewT.offs {G G' : GH} {N : Tab} {A B : Option Addr} {c d : Nat} {hs : Nat → Option Addr × Nat} (h : NewT G G' N A c B d hs) : Off G A ∧ Off G B ∧ ∀ i, i < N.rows.length → Off G (hs i).1 :=
  ⟨fun a ha => h.off _ (.inl ⟨a, ha, rfl⟩), fun a ha => h.off _ (.inr (.inl ⟨a, ha, rfl⟩)), fun i hi a ha => h.off _ (.inr (.inr ⟨i, hi, a, ha, rfl⟩))⟩
theorem NewT.low {G G1 G' G'' : GH} {N : Tab} {A B : Option Addr} {c d : Nat} {hs : Nat → Option Addr × Nat} (h : NewT G1 G' N A c B d hs) (s : Sub G G1) (s'' : Sub G G'') {S : Nat → Prop} (u : Oth S G' G'') (uS : ∀ x, S x → G1 x ≠ none) : NewT G G'' N A c B d hs := by
  obtain ⟨oA, oB, oR⟩ := h.offs
  have hw := h.own.sub (Sub.rest _ _)
  have nS : ∀ {A : Option Addr}, Off G1 A → ∀ a, A = some a → ¬ S a.block := fun o a ha y => uS _ y (o a ha)
  exact ⟨s'', ⟨(hw.cols.oth u (nS oA)).rest (oA.mono s), (hw.rows.oth u (nS oB) fun i hi => nS (oR i hi)).rest (oB.mono s) fun i hi => (oR i hi).mono s, hw.nB, hw.nR⟩⟩
theorem NewT.nil (G : GH) (hs : Nat → Option Addr × Nat) : NewT G G ⟨[], []⟩ none 0 none 0 hs := ⟨Sub.refl _, ⟨Own.nil _ _, OwnR.nil _ _, fun a b h => (by cases h), fun i hi => (by simp at hi)⟩⟩
def TI (v : Tab × Int) (K : Value → GH → Prop) (G : GH) : Prop := ∀ G' X x Y y hs, NewT G G' v.1 X x Y y hs → K (.tuple [tabV v.1 X x Y y, .int .i64 v.2].toArray) G'
theorem TabOk.rowL {t : Tab} (h : TabOk t) : RowL t ∧ t.cols.length ≤ 8 ∧ t.rows.length ≤ 24 := by
  refine ⟨fun i hi => (h.2.2.2.1 i hi).1, ?_, h.2.2.1⟩
  apply Classical.byContradiction; intro c
  have hge : ∀ i, i < t.cols.length → (i : Int) ≤ t.cols.getD i 0 := by
    intro i
    induction i with
    | zero => intro hi; exact (h.2.1 0 hi).1
    | succ i ih => intro hi; have := ih (by omega); have := h.1 i hi; omega
  have := hge 8 (by omega)
  have := (h.2.1 8 (by omega)).2
  omega
theorem semiV_no {a b : Tab} (h : ¬ (TabOk a ∧ TabOk b)) : semiV a b = (⟨[], []⟩, 1) := by unfold semiV; rw [if_neg h]
theorem semiV_yes {a b : Tab} (h : TabOk a ∧ TabOk b) : semiV a b = (semiT a b, 0) := by unfold semiV; rw [if_pos h]
theorem impl_SemiJoin_ok {G : GH} {a b : Tab} {A B A' B' : Option Addr} {c d c' d' : Nat} {hs hs' : Nat → Option Addr × Nat} (h : IntS G A c a.cols) (hr : RowS G B d hs a.rows) (h' : IntS G A' c' b.cols) (hr' : RowS G B' d' hs' b.rows) (hl : a.cols.length < 2 ^ 40) (hl' : b.cols.length < 2 ^ 40) (ha : Sh a.rows) (hb : Sh b.rows)
    {K : Value → GH → Prop} (hk : TI (semiV a b) K G) : GC Tryz.prog 46 [tabV a A c B d, tabV b A' c' B' d'] G K := by
  refine GC_drop (c_impl_SemiJoin_i (by simp) ?_)
  have fb : ∀ {G' : GH} {q : Nat} {N : Tab} {A B : Option Addr} {c d : Nat} {hs : Nat → Option Addr × Nat}, TabP G' (some ⟨q, 0, none⟩) N A c B d hs → rd G' (some ⟨q, 1, none⟩) = some (.slice B N.rows.length d) := fun h => by
    have := h.f1; rwa [pa_mk] at this
  unfold tabV tabC
  simp (maxSteps := 300000) (disch := omega) only [gs, gs2, gs3, gs4, ↓reduceIte, Nat.reduceEqDiff, Int.reduceToNat, Nat.reduceMul, Nat.reduceAdd, Nat.reduceBEq, isLd]
  intro b2 hb2
  have p2 := TabP.box hb2 h hr
  have s2 := Sub.put hb2 ⟨tabC a A c B d, true⟩
  unfold tabC at p2 s2
  simp (maxSteps := 300000) (disch := omega) only [gs, gs2, gs3, gs4, ↓reduceIte, Nat.reduceEqDiff, Int.reduceToNat, Nat.reduceMul, Nat.reduceAdd, Nat.reduceBEq, isLd]
  intro b3 hb3
  have p3 := TabP.box hb3 (h'.sub s2) (hr'.sub s2)
  have s3 := Sub.put hb3 ⟨tabC b A' c' B' d', true⟩
  unfold tabC at p3 s3
  have p2 := p2.sub s3
  have s1 := s2.trans s3
  revert s1 p2 p3
  generalize put (put G b2 ⟨[.slice A a.cols.length c, .slice B a.rows.length d], true⟩) b3 ⟨[.slice A' b.cols.length c', .slice B' b.rows.length d'], true⟩ = G1
  intro p3 p2 s1
  clear hb2 hb3 s2 s3
  simp (maxSteps := 300000) (disch := omega) only [gs, gs2, gs3, gs4, ↓reduceIte, Nat.reduceEqDiff, Int.reduceToNat, Nat.reduceMul, Nat.reduceAdd, Nat.reduceBEq, isLd]
  intro b4 hb4
  have s4 := Sub.put hb4 ⟨[.slice none 0 0, .slice none 0 0], true⟩
  have g4 := put_same G1 b4 ⟨[.slice none 0 0, .slice none 0 0], true⟩
  have p2 := p2.sub s4
  have p3 := p3.sub s4
  have s1' := s1.trans s4
  have n4 : G b4 = none := s1.none hb4
  revert s1' p2 p3 g4
  generalize put G1 b4 ⟨[.slice none 0 0, .slice none 0 0], true⟩ = G2
  intro g4 p2 p3 s1'
  clear s4
  have k0 : ∀ {G' : GH} {x y : Value}, rd (put G' b4 ⟨[x, y], true⟩) (some ⟨b4, 0, none⟩) = some x := rd_box _ _ _ 0 _ rfl
  have k1 : ∀ {G' : GH} {x y : Value}, rd (put G' b4 ⟨[x, y], true⟩) (some ⟨b4, 1, none⟩) = some y := rd_box _ _ _ 1 _ rfl
  have hbz : bldV [Value.slice none 0 0, Value.slice none 0 0] [] = some [Value.slice none 0 0, Value.slice none 0 0] := rfl
  simp (maxSteps := 300000) (disch := omega) only [gs, gs2, gs3, gs4, ↓reduceIte, Nat.reduceEqDiff, Int.reduceToNat, Nat.reduceMul, Nat.reduceAdd, Nat.reduceBEq, isLd, p2.f0, fb p2]
  refine impl_ValidTable_ok p2.cols p2.rows hl ha fun z hz => ?_
  cases z
  · simp (maxSteps := 300000) (disch := omega) only [gs, gs2, gs3, gs4, ↓reduceIte, Nat.reduceEqDiff, Int.reduceToNat, Nat.reduceMul, Nat.reduceAdd, Nat.reduceBEq, isLd, p2.f0, fb p2, hbz]
    refine st_many (vs := [.slice none 0 0, .slice none 0 0]) rfl g4 rfl (by simp) (by intro v hv; simp at hv; subst hv; rfl) ?_
    simp only [over, List.set_cons_zero, List.set_cons_succ]
    simp (maxSteps := 300000) (disch := omega) only [gs, gs2, gs3, gs4, ↓reduceIte, Nat.reduceEqDiff, Int.reduceToNat, Nat.reduceMul, Nat.reduceAdd, Nat.reduceBEq, isLd, k0, k1]
    have hno : ¬ (TabOk a ∧ TabOk b) := fun y => by have := hz.2 y.1; simp at this
    rw [semiV_no hno] at hk
    exact ⟨G, s1'.skip n4, hk _ _ _ _ _ _ (NewT.nil G fun _ => (none, 0))⟩
  have hoa := hz.1 rfl
  simp (maxSteps := 300000) (disch := omega) only [gs, gs2, gs3, gs4, ↓reduceIte, Nat.reduceEqDiff, Int.reduceToNat, Nat.reduceMul, Nat.reduceAdd, Nat.reduceBEq, isLd, p2.f0, fb p2, p3.f0, fb p3]
  refine impl_ValidTable_ok p3.cols p3.rows hl' hb fun z hz => ?_
  cases z
  · simp (maxSteps := 300000) (disch := omega) only [gs, gs2, gs3, gs4, ↓reduceIte, Nat.reduceEqDiff, Int.reduceToNat, Nat.reduceMul, Nat.reduceAdd, Nat.reduceBEq, isLd, p2.f0, fb p2, hbz]
    refine st_many (vs := [.slice none 0 0, .slice none 0 0]) rfl g4 rfl (by simp) (by intro v hv; simp at hv; subst hv; rfl) ?_
    simp only [over, List.set_cons_zero, List.set_cons_succ]
    simp (maxSteps := 300000) (disch := omega) only [gs, gs2, gs3, gs4, ↓reduceIte, Nat.reduceEqDiff, Int.reduceToNat, Nat.reduceMul, Nat.reduceAdd, Nat.reduceBEq, isLd, k0, k1]
    have hno : ¬ (TabOk a ∧ TabOk b) := fun y => by have := hz.2 y.2; simp at this
    rw [semiV_no hno] at hk
    exact ⟨G, s1'.skip n4, hk _ _ _ _ _ _ (NewT.nil G fun _ => (none, 0))⟩
  have hob := hz.1 rfl
  obtain ⟨ra, ca, na⟩ := hoa.rowL
  obtain ⟨rb, cb, nb⟩ := hob.rowL
  rw [semiV_yes ⟨hoa, hob⟩] at hk
  simp (maxSteps := 300000) (disch := omega) only [gs, gs2, gs3, gs4, ↓reduceIte, Nat.reduceEqDiff, Int.reduceToNat, Nat.reduceMul, Nat.reduceAdd, Nat.reduceBEq, isLd, p2.f0, fb p2, p3.f0, fb p3]
  refine impl_semiJoin_ok p2.cols p2.rows p3.cols p3.rows (by omega) (by omega) ra rb (by omega) (by omega) fun G' X x Y y hs'' hN => ?_
  unfold tabV tabC
  simp (maxSteps := 300000) (disch := omega) only [gs, gs2, gs3, gs4, ↓reduceIte, Nat.reduceEqDiff, Int.reduceToNat, Nat.reduceMul, Nat.reduceAdd, Nat.reduceBEq, isLd]
  refine st_many (vs := [.slice X (semiT a b).cols.length x, .slice Y (semiT a b).rows.length y]) rfl (hN.sub _ _ g4) rfl (by simp) (by intro v hv; simp at hv; rcases hv with rfl | rfl <;> rfl) ?_
  simp only [over, List.set_cons_zero, List.set_cons_succ]
  simp (maxSteps := 300000) (disch := omega) only [gs, gs2, gs3, gs4, ↓reduceIte, Nat.reduceEqDiff, Int.reduceToNat, Nat.reduceMul, Nat.reduceAdd, Nat.reduceBEq, isLd, k0, k1]
  exact ⟨_, Sub.refl _, hk _ _ _ _ _ _ (hN.low s1' ((s1'.trans hN.sub).skip n4) (Oth.put _ _ _) fun x hx => by subst hx; rw [g4]; simp)⟩
theorem spec_l20Cell_ok {G : GH} {A B : Option Addr} {c d : Nat} {cols row : List Int} {v : Int} (h : IntS G A c cols) (h' : IntS G B d row) (hlen : row.length = cols.length) (hl : cols.length < 2 ^ 40) {K : Value → GH → Prop}
    (hk : ∀ w : Int, (v ∈ cols → w = cellAt cols row v) → (¬ v ∈ cols → w = -1) → K (.int .i64 w) G) : GC Tryz.prog 231 [.slice A cols.length c, .slice B row.length d, .int .i64 v] G K := by
  refine c_spec_l20Cell_i (by simp) ?_
  have hsn := h.sn
  have hrd := h.rd
  have hsr := h'.sn
  simp (maxSteps := 300000) (disch := omega) only [gs, gs2, gs3, gs4, ↓reduceIte, Nat.reduceEqDiff, Int.reduceToNat, Nat.reduceMul, Nat.reduceAdd, Nat.reduceBEq, isLd]
  refine gLoop_intro (fun m T G' => ∃ k : Nat, T 0 = .slice A cols.length c ∧ T 1 = .slice B row.length d ∧ T 2 = .int .i64 v ∧ T 7 = .int .i64 k ∧ m + k = cols.length ∧ k ≤ cols.length ∧ G' = G ∧ ∀ i, i < k → cols.getD i 0 ≠ v) cols.length
    ⟨0, by simp (maxSteps := 300000) (disch := omega) only [gs, gs2, gs3, gs4, ↓reduceIte, Nat.reduceEqDiff, Int.reduceToNat, Nat.reduceMul, Nat.reduceAdd, Nat.reduceBEq, isLd], by simp (maxSteps := 300000) (disch := omega) only [gs, gs2, gs3, gs4, ↓reduceIte, Nat.reduceEqDiff, Int.reduceToNat, Nat.reduceMul, Nat.reduceAdd, Nat.reduceBEq, isLd], by simp (maxSteps := 300000) (disch := omega) only [gs, gs2, gs3, gs4, ↓reduceIte, Nat.reduceEqDiff, Int.reduceToNat, Nat.reduceMul, Nat.reduceAdd, Nat.reduceBEq, isLd], by simp (maxSteps := 300000) (disch := omega) only [gs, gs2, gs3, gs4, ↓reduceIte, Nat.reduceEqDiff, Int.reduceToNat, Nat.reduceMul, Nat.reduceAdd, Nat.reduceBEq, isLd] <;> rfl, by omega, by omega, rfl, fun i hi => by omega⟩ ?_
  rintro m T G' ⟨k, e0, e1, e2, e7, hm, hkl, rfl, hin⟩
  simp (maxSteps := 300000) (disch := omega) only [gs, gs2, gs3, gs4, ↓reduceIte, Nat.reduceEqDiff, Int.reduceToNat, Nat.reduceMul, Nat.reduceAdd, Nat.reduceBEq, isLd, e0, e1, e2, e7]
  by_cases hkk : (k : Int) < cols.length
  · have rr := h'.rd k (by omega)
    have hkr : (k : Int) < row.length := by omega
    simp (maxSteps := 300000) (disch := omega) only [gs, gs2, gs3, gs4, ↓reduceIte, Nat.reduceEqDiff, Int.reduceToNat, Nat.reduceMul, Nat.reduceAdd, Nat.reduceBEq, isLd, e0, e1, e2, e7, hkk, hrd]
    by_cases g1 : cols.getD k 0 = v
    · have hsr := hsr (by omega)
      simp (maxSteps := 300000) (disch := omega) only [gs, gs2, gs3, gs4, ↓reduceIte, Nat.reduceEqDiff, Int.reduceToNat, Nat.reduceMul, Nat.reduceAdd, Nat.reduceBEq, isLd, eq_true g1, e0, e1, e2, e7, hkr, rr]
      have hmem : v ∈ cols := by rw [← g1]; simp [List.getD, show k < cols.length by omega]
      refine hk _ (fun _ => ?_) (fun hn => absurd hmem hn)
      unfold cellAt
      have : cols.idxOf v = k := by
        obtain ⟨hid, hlt⟩ := idxI_mem' hmem
        have := idxI_some (p := fun x => decide (x = v)) (xs := cols) (k := k) (by omega) (decide_eq_true g1) fun i hi => decide_eq_false (hin i hi)
        rw [hid] at this; omega
      rw [this]
    · simp (maxSteps := 300000) (disch := omega) only [gs, gs2, gs3, gs4, ↓reduceIte, Nat.reduceEqDiff, Int.reduceToNat, Nat.reduceMul, Nat.reduceAdd, Nat.reduceBEq, isLd, eq_false g1, e0, e1, e2, e7]
      refine ⟨m - 1, by omega, _, Sub.refl _, k + 1, rfl, by omega, by omega, rfl, fun i hi => ?_⟩
      by_cases hik : i = k
      · subst hik; exact g1
      · exact hin i (by omega)
  · simp (maxSteps := 300000) (disch := omega) only [gs, gs2, gs3, gs4, ↓reduceIte, Nat.reduceEqDiff, Int.reduceToNat, Nat.reduceMul, Nat.reduceAdd, Nat.reduceBEq, isLd, e0, e1, e2, e7, hkk]
    refine hk _ (fun hm' => ?_) (fun _ => rfl)
    obtain ⟨i, hi, rfl⟩ := List.mem_iff_getElem.1 hm'
    exact absurd (by simp [List.getD, hi]) (hin i (by omega))
theorem getD_memL {α : Type} {l : List α} {i : Nat} {d : α} (h : i < l.length) : l.getD i d ∈ l := by simp [List.getD, h]
theorem SemG.repl {H G G' : GH} {b5 n c1 z z' : Nat} {A1 Z Z' : Option Addr} {hs hs' : Nat → Option Addr × Nat} {xss yss : List (List Int)} (h : SemG H G b5 A1 n c1 Z z hs xss) (s : Sub G G') (ho : OwnR G' Z' z' hs' yss) (oZ : Off G Z')
    (oR : ∀ i, i < yss.length → (∃ j, j < xss.length ∧ hs' i = hs j) ∨ Off G (hs' i).1) {K : Value → GH → Prop} (hK : ∀ G5, SemG H G5 b5 A1 n c1 Z' z' hs' yss → K undef G5) : gSt 1 (.pointer (some ⟨b5, 1, none⟩)) (.slice Z' yss.length z') G' K := by
  have s5 := h.sub.trans s
  have hbox : G' b5 = some ⟨[.slice A1 n c1, .slice Z xss.length z], true⟩ := s5 _ _ (put_same _ _ _)
  have oZ' : Off (put H b5 ⟨[], true⟩) Z' := (oZ.mono h.sub).pute
  have oR' : ∀ i, i < yss.length → Off (put H b5 ⟨[], true⟩) (hs' i).1 := fun i hi => by
    rcases oR i hi with ⟨j, hj', e⟩ | o
    · rw [e]; exact h.oR j hj'
    · exact (o.mono h.sub).pute
  refine st_one hbox (by simp) rfl (hK _ ⟨h.nb, fun y f hy => ?_, ho.oth (Oth.put _ _ _) (oZ'.ne) fun i hi a ha => (oR' i hi).ne a ha, oZ', oR'⟩)
  by_cases c : y = b5
  · subst c
    rw [put_same] at hy ⊢
    rw [← hy]; rfl
  · rw [put_ne _ _ c] at hy ⊢
    exact s5 _ _ (by rw [put_ne _ _ c]; exact hy)
theorem spec_l20Project_ok {G : GH} {q : Option Addr} {t : Tab} {A B W : Option Addr} {c d w : Nat} {hs : Nat → Option Addr × Nat} {wanted : List Int} (p2 : TabP G q t A c B d hs) (hw : IntS G W w wanted) (hmem : ∀ v ∈ wanted, v ∈ t.cols) (hl : t.cols.length < 2 ^ 30) (hl2 : wanted.length < 2 ^ 30) (rt : RowL t) (nt : t.rows.length < 2 ^ 18)
    {K : Value → GH → Prop} (hk : ∀ G' X x Y y hs'', NewT G G' (projT t wanted) X x Y y hs'' → K (tabV (projT t wanted) X x Y y) G') : GC Tryz.prog 194 [.pointer q, .slice W wanted.length w] G K := by
  refine GC_drop (c_spec_l20Project_i (by simp) ?_)
  have hq := rd_some p2.f0
  simp (maxSteps := 300000) (disch := omega) only [gs, gs2, gs3, gs4, ↓reduceIte, Nat.reduceEqDiff, Int.reduceToNat, Nat.reduceMul, Nat.reduceAdd, Nat.reduceBEq, isLd]
  intro b4 hb4
  have s4 := Sub.put hb4 ⟨[.slice none 0 0, .slice none 0 0], true⟩
  have g4 := put_same G b4 ⟨[.slice none 0 0, .slice none 0 0], true⟩
  have p2 := p2.sub s4
  have hw := hw.sub s4
  revert s4 p2 hw g4
  generalize put G b4 ⟨[.slice none 0 0, .slice none 0 0], true⟩ = G2
  intro s4 g4 p2 hw
  simp (maxSteps := 300000) (disch := omega) only [gs, gs2, gs3, gs4, ↓reduceIte, Nat.reduceEqDiff, Int.reduceToNat, Nat.reduceMul, Nat.reduceAdd, Nat.reduceBEq, isLd, p2.f0]
  refine spec_l00Own_ok hw (by omega) fun H A1 c1 hN1 => ?_
  have p2 := p2.sub hN1.sub
  have hw := hw.sub hN1.sub
  have g4' := hN1.sub _ _ g4
  simp (maxSteps := 300000) (disch := omega) only [gs, gs2, gs3, gs4, ↓reduceIte, Nat.reduceEqDiff, Int.reduceToNat, Nat.reduceMul, Nat.reduceAdd, Nat.reduceBEq, isLd, p2.f0, gBs]
  refine ⟨fun v hv => (by cases hv), fun bz hbz => ?_⟩
  have hbl : bldV [Value.slice none 0 0, Value.slice none 0 0] [(0, 1, Value.slice A1 wanted.length c1), (1, 1, Value.slice (some ⟨bz, 0, none⟩) 0 0)] = some [Value.slice A1 wanted.length c1, .slice (some ⟨bz, 0, none⟩) 0 0] := rfl
  simp (maxSteps := 300000) (disch := omega) only [gs, gs2, gs3, gs4, ↓reduceIte, Nat.reduceEqDiff, Int.reduceToNat, Nat.reduceMul, Nat.reduceAdd, Nat.reduceBEq, isLd, hbl]
  intro b5 hb5
  simp (maxSteps := 300000) (disch := omega) only [gs, gs2, gs3, gs4, ↓reduceIte, Nat.reduceEqDiff, Int.reduceToNat, Nat.reduceMul, Nat.reduceAdd, Nat.reduceBEq, isLd]
  refine st_fresh (vs := [.slice A1 wanted.length c1, .slice (some ⟨bz, 0, none⟩) 0 0]) rfl rfl rfl (by intro v hv; simp at hv; rcases hv with rfl | rfl <;> rfl) ?_
  have n5z : b5 ≠ bz := (put_none.1 hb5).1
  have hb5' : H b5 = none := (put_none.1 hb5).2
  have hX0 : SemG H (put (put H bz ⟨[], true⟩) b5 ⟨[.slice A1 wanted.length c1, .slice (some ⟨bz, 0, none⟩) 0 0], true⟩) b5 A1 wanted.length c1 (some ⟨bz, 0, none⟩) 0 (fun _ => (none, 0)) [] := by
    refine ⟨hb5', fun x e hx => ?_, ⟨.inr ⟨bz, [], rfl, by rw [put_ne _ _ n5z.symm]; exact put_same _ _ _, rfl, rfl, Nat.le_refl _⟩, fun i hi => by simp at hi, fun i hi => by simp at hi, fun i j hi => by simp at hi⟩, fun a ha => by cases ha; rw [put_ne _ _ n5z.symm]; exact hbz, fun i hi => by simp at hi⟩
    by_cases c : x = b5
    · subst c; rw [put_same] at hx ⊢; exact hx
    · rw [put_ne _ _ c] at hx ⊢
      rw [put_ne _ _ (fun y => by subst y; rw [hbz] at hx; cases hx)]; exact hx
  have hA1 : Own H A1 c1 (wanted.map I64) 1 wanted.length := hN1.fresh
  have sH := s4.trans hN1.sub
  have oA1 : Off G A1 := hN1.off.mono s4
  have n41 : ∀ x, A1 = some x → x.block ≠ b4 := fun x hx y => by have := hN1.off x hx; rw [y, g4] at this; cases this
  clear hN1 g4
  have e0 : (put (put H bz ⟨List.flatMap (fun v : Value => v.cells.toList) [], true⟩) b5 ⟨[.slice A1 wanted.length c1, .slice (some ⟨bz, 0, none⟩) 0 0], true⟩) = (put (put H bz ⟨[], true⟩) b5 ⟨[.slice A1 wanted.length c1, .slice (some ⟨bz, 0, none⟩) 0 0], true⟩) := rfl
  try rw [e0]
  generalize put (put H bz ⟨[], true⟩) b5 ⟨[.slice A1 wanted.length c1, .slice (some ⟨bz, 0, none⟩) 0 0], true⟩ = G3 at hX0 ⊢
  simp (maxSteps := 300000) (disch := omega) only [gs, gs2, gs3, gs4, ↓reduceIte, Nat.reduceEqDiff, Int.reduceToNat, Nat.reduceMul, Nat.reduceAdd, Nat.reduceBEq, isLd]
  refine gLoop_intro (fun m T G' => ∃ (k : Nat) (Z : Option Addr) (z : Nat) (hz : Nat → Option Addr × Nat), T 0 = .pointer q ∧ T 1 = .slice W wanted.length w ∧ T 4 = .pointer (some ⟨b4, 0, none⟩) ∧ T 5 = .pointer (some ⟨b5, 0, none⟩) ∧ T 6 = .int .i64 k ∧ m + k = t.rows.length ∧ k ≤ t.rows.length ∧
      SemG H G' b5 A1 wanted.length c1 Z z hz (srt ((t.rows.take k).map (prj t.cols wanted)))) t.rows.length
    ⟨0, _, 0, _, by simp (maxSteps := 300000) (disch := omega) only [gs, gs2, gs3, gs4, ↓reduceIte, Nat.reduceEqDiff, Int.reduceToNat, Nat.reduceMul, Nat.reduceAdd, Nat.reduceBEq, isLd], by simp (maxSteps := 300000) (disch := omega) only [gs, gs2, gs3, gs4, ↓reduceIte, Nat.reduceEqDiff, Int.reduceToNat, Nat.reduceMul, Nat.reduceAdd, Nat.reduceBEq, isLd], by simp (maxSteps := 300000) (disch := omega) only [gs, gs2, gs3, gs4, ↓reduceIte, Nat.reduceEqDiff, Int.reduceToNat, Nat.reduceMul, Nat.reduceAdd, Nat.reduceBEq, isLd], by simp (maxSteps := 300000) (disch := omega) only [gs, gs2, gs3, gs4, ↓reduceIte, Nat.reduceEqDiff, Int.reduceToNat, Nat.reduceMul, Nat.reduceAdd, Nat.reduceBEq, isLd], by simp (maxSteps := 300000) (disch := omega) only [gs, gs2, gs3, gs4, ↓reduceIte, Nat.reduceEqDiff, Int.reduceToNat, Nat.reduceMul, Nat.reduceAdd, Nat.reduceBEq, isLd] <;> rfl, by omega, by omega, hX0⟩ ?_
  clear hX0
  rintro m T G' ⟨k, Z, z, hz, e0, e1, e4, e5, e6, hm, hkl, hX⟩
  have q2 := p2.sub hX.low
  have hw3 := hw.sub hX.low
  simp (maxSteps := 300000) (disch := omega) only [gs, gs2, gs3, gs4, ↓reduceIte, Nat.reduceEqDiff, Int.reduceToNat, Nat.reduceMul, Nat.reduceAdd, Nat.reduceBEq, isLd, e0, e1, e4, e5, e6, q2.f1]
  have hlen : (srt ((t.rows.take k).map (prj t.cols wanted))).length ≤ k := Nat.le_trans (srt_len _) (by rw [List.length_map, List.length_take]; omega)
  by_cases hkk : (k : Int) < t.rows.length
  · have rk := q2.rows.r k (by omega)
    have hsB := q2.rows.sn (by omega)
    have hxl := rt k (by omega)
    have htk : srt ((t.rows.take (k + 1)).map (prj t.cols wanted)) = ins (prj t.cols wanted (t.rows.getD k [])) (srt ((t.rows.take k).map (prj t.cols wanted))) := by
      rw [map_take (d := []) (by omega), srt_snoc]
    simp (maxSteps := 300000) (disch := omega) only [gs, gs2, gs3, gs4, ↓reduceIte, Nat.reduceEqDiff, Int.reduceToNat, Nat.reduceMul, Nat.reduceAdd, Nat.reduceBEq, isLd, e0, e1, e4, e5, e6, q2.f1, hkk, gBs]
    refine ⟨fun v hv => (by cases hv), fun by' hby => ?_⟩
    refine gLoop_intro (fun m' T' G'' => ∃ (j : Nat) (Zr : Option Addr) (zr : Nat), T' 0 = .pointer q ∧ T' 1 = .slice W wanted.length w ∧ T' 4 = .pointer (some ⟨b4, 0, none⟩) ∧ T' 5 = .pointer (some ⟨b5, 0, none⟩) ∧ T' 6 = .int .i64 k ∧ T' 7 = .slice Zr j zr ∧ T' 8 = .int .i64 j ∧ m' + j = wanted.length ∧ j ≤ wanted.length ∧ Sub G' G'' ∧ Off G' Zr ∧ Own G'' Zr zr (((wanted.take j).map (cellAt t.cols (t.rows.getD k []))).map I64) 1 j) wanted.length
      ⟨0, some ⟨by', 0, none⟩, 0, by simp (maxSteps := 300000) (disch := omega) only [gs, gs2, gs3, gs4, ↓reduceIte, Nat.reduceEqDiff, Int.reduceToNat, Nat.reduceMul, Nat.reduceAdd, Nat.reduceBEq, isLd, e0], by simp (maxSteps := 300000) (disch := omega) only [gs, gs2, gs3, gs4, ↓reduceIte, Nat.reduceEqDiff, Int.reduceToNat, Nat.reduceMul, Nat.reduceAdd, Nat.reduceBEq, isLd, e1], by simp (maxSteps := 300000) (disch := omega) only [gs, gs2, gs3, gs4, ↓reduceIte, Nat.reduceEqDiff, Int.reduceToNat, Nat.reduceMul, Nat.reduceAdd, Nat.reduceBEq, isLd, e4], by simp (maxSteps := 300000) (disch := omega) only [gs, gs2, gs3, gs4, ↓reduceIte, Nat.reduceEqDiff, Int.reduceToNat, Nat.reduceMul, Nat.reduceAdd, Nat.reduceBEq, isLd, e5], by simp (maxSteps := 300000) (disch := omega) only [gs, gs2, gs3, gs4, ↓reduceIte, Nat.reduceEqDiff, Int.reduceToNat, Nat.reduceMul, Nat.reduceAdd, Nat.reduceBEq, isLd, e6], by simp (maxSteps := 300000) (disch := omega) only [gs, gs2, gs3, gs4, ↓reduceIte, Nat.reduceEqDiff, Int.reduceToNat, Nat.reduceMul, Nat.reduceAdd, Nat.reduceBEq, isLd] <;> rfl, by simp (maxSteps := 300000) (disch := omega) only [gs, gs2, gs3, gs4, ↓reduceIte, Nat.reduceEqDiff, Int.reduceToNat, Nat.reduceMul, Nat.reduceAdd, Nat.reduceBEq, isLd] <;> rfl, by omega, by omega, Sub.put hby _, fun a ha => (by cases ha; exact hby), Own.blk (put_same _ _ _) rfl⟩ ?_
    clear e0 e1 e4 e5 e6
    rintro m' T' G'' ⟨j, Zr, zr, e0, e1, e4, e5, e6, e7, e8, hm', hjl, hS, hO, hW⟩
    simp (maxSteps := 300000) (disch := omega) only [gs, gs2, gs3, gs4, ↓reduceIte, Nat.reduceEqDiff, Int.reduceToNat, Nat.reduceMul, Nat.reduceAdd, Nat.reduceBEq, isLd, e0, e1, e4, e5, e6, e7, e8]
    by_cases hjj : (j : Int) < wanted.length
    · have q4 := q2.sub hS
      have rw' := (hw3.sub hS).rd j (by omega)
      have hsw := (hw3.sub hS).sn (by omega)
      have rk4 := q4.rows.r k (by omega)
      simp (maxSteps := 300000) (disch := omega) only [gs, gs2, gs3, gs4, ↓reduceIte, Nat.reduceEqDiff, Int.reduceToNat, Nat.reduceMul, Nat.reduceAdd, Nat.reduceBEq, isLd, e0, e1, e4, e5, e6, e7, e8, hjj, hkk, q4.f0, q4.f1, rk4, rw']
      refine spec_l20Cell_ok q4.cols (q4.rows.row k (by omega)) hxl (by omega) fun w hw1 hw2 => ?_
      obtain rfl := hw1 (hmem _ (by simp [List.getD, show j < wanted.length by omega]))
      simp (maxSteps := 300000) (disch := omega) only [gs, gs2, gs3, gs4, ↓reduceIte, Nat.reduceEqDiff, Int.reduceToNat, Nat.reduceMul, Nat.reduceAdd, Nat.reduceBEq, isLd, e0, e1, e4, e5, e6, e7, e8, hjj, hkk, q4.f0, q4.f1, rk4, rw', gBs]
      refine ⟨fun v hv => (by simp at hv; subst hv; rfl), fun bs hbs => ?_⟩
      have sy := Sub.put hbs ⟨[I64 (cellAt t.cols (t.rows.getD k []) (wanted.getD j 0))], true⟩
      refine ⟨⟨rd_sub sy rw', rd_sub sy rk4, rd_sub sy q4.f1, rd_sub sy q4.f0⟩, ?_⟩
      refine ap_own (hW.sub sy) (news := [I64 (cellAt t.cols (t.rows.getD k []) (wanted.getD j 0))]) (m := 1) (cells_one _ true) rfl (by intro v hv; simp at hv; subst hv; rfl) rfl (by omega) (by omega) (by omega) fun G6 A6 c6 hW6 keep => ?_
      obtain ⟨hS6, hO6⟩ := keep G' (hS.trans sy) hO
      have q6 := q2.sub hS6
      simp (maxSteps := 300000) (disch := omega) only [gs, gs2, gs3, gs4, ↓reduceIte, Nat.reduceEqDiff, Int.reduceToNat, Nat.reduceMul, Nat.reduceAdd, Nat.reduceBEq, isLd, e0, e1, e4, e5, e6, e7, e8, q6.f0, q6.f1, q6.rows.r k (by omega), (hw3.sub hS6).rd j (by omega)]
      refine ⟨m' - 1, by omega, G6, Sub.refl _, j + 1, A6, c6, rfl, rfl, by omega, by omega, hS6, hO6, ?_⟩
      refine hW6.cast ?_ rfl
      rw [map_take (d := 0) (show j < wanted.length by omega), List.map_append]
      rfl
    · simp (maxSteps := 300000) (disch := omega) only [gs, gs2, gs3, gs4, ↓reduceIte, Nat.reduceEqDiff, Int.reduceToNat, Nat.reduceMul, Nat.reduceAdd, Nat.reduceBEq, isLd, e0, e1, e4, e5, e6, e7, e8, hjj]
      obtain rfl : j = wanted.length := by omega
      rw [List.take_length] at hW
      have f50 : rd G'' (some ⟨b5, 1, none⟩) = some (.slice Z (srt ((t.rows.take k).map (prj t.cols wanted))).length z) := rd_sub (hX.sub.trans hS) (rd_box _ _ _ 1 _ rfl)
      simp (maxSteps := 300000) (disch := omega) only [gs, gs2, gs3, gs4, ↓reduceIte, Nat.reduceEqDiff, Int.reduceToNat, Nat.reduceMul, Nat.reduceAdd, Nat.reduceBEq, isLd, e0, e1, e4, e5, e6, e7, e8, f50]
      have hX' := hX.up hS
      have hP : IntS G'' Zr zr (prj t.cols wanted (t.rows.getD k [])) := hW.ints' (prj_len _ _ _).symm
      rw [show Value.slice Zr wanted.length zr = Value.slice Zr (prj t.cols wanted (t.rows.getD k [])).length zr by rw [prj_len]]
      refine spec_l20Put_ok hX'.own (srt_asc _) hP (by omega) (fun i hi => ?_) (by rw [prj_len]; omega) fun G4 Z' z' hs' s4' hO4 oZ4 oR4 => ?_
      · have hm : (srt ((t.rows.take k).map (prj t.cols wanted))).getD i [] ∈ srt ((t.rows.take k).map (prj t.cols wanted)) := getD_memL hi
        rw [srt_mem] at hm
        obtain ⟨r, _, hr⟩ := List.mem_map.1 hm
        rw [← hr, prj_len]; omega
      simp (maxSteps := 300000) (disch := omega) only [gs, gs2, gs3, gs4, ↓reduceIte, Nat.reduceEqDiff, Int.reduceToNat, Nat.reduceMul, Nat.reduceAdd, Nat.reduceBEq, isLd, e0, e1, e4, e5, e6, e7, e8]
      refine hX'.repl s4' hO4 oZ4 oR4 fun G5 hX5 => ?_
      simp (maxSteps := 300000) (disch := omega) only [gs, gs2, gs3, gs4, ↓reduceIte, Nat.reduceEqDiff, Int.reduceToNat, Nat.reduceMul, Nat.reduceAdd, Nat.reduceBEq, isLd, e0, e1, e4, e5, e6]
      exact ⟨m - 1, by omega, G5, Sub.refl _, k + 1, Z', z', hs', rfl, by omega, by omega, by rw [htk]; exact hX5⟩
  · obtain rfl : k = t.rows.length := by omega
    rw [List.take_length] at hX
    have f50 : rd G' (some ⟨b5, 0, none⟩) = some (.slice A1 wanted.length c1) := rd_sub hX.sub (rd_box _ _ _ 0 _ rfl)
    have f51 : rd G' (some ⟨b5, 1, none⟩) = some (.slice Z (srt (t.rows.map (prj t.cols wanted))).length z) := rd_sub hX.sub (rd_box _ _ _ 1 _ rfl)
    simp (maxSteps := 300000) (disch := omega) only [gs, gs2, gs3, gs4, ↓reduceIte, Nat.reduceEqDiff, Int.reduceToNat, Nat.reduceMul, Nat.reduceAdd, Nat.reduceBEq, isLd, e0, e1, e4, e5, e6, q2.f1, hkk, f50, f51]
    refine st_many (vs := [.slice A1 wanted.length c1, .slice Z (srt (t.rows.map (prj t.cols wanted))).length z]) rfl (hX.low _ _ g4') rfl (by simp) (by intro v hv; simp at hv; rcases hv with rfl | rfl <;> rfl) ?_
    simp only [over, List.set_cons_zero, List.set_cons_succ]
    have k0 : rd (put G' b4 ⟨[.slice A1 wanted.length c1, .slice Z (srt (t.rows.map (prj t.cols wanted))).length z], true⟩) (some ⟨b4, 0, none⟩) = some (.slice A1 wanted.length c1) := rd_box _ _ _ 0 _ rfl
    have k1 : rd (put G' b4 ⟨[.slice A1 wanted.length c1, .slice Z (srt (t.rows.map (prj t.cols wanted))).length z], true⟩) (some ⟨b4, 1, none⟩) = some (.slice Z (srt (t.rows.map (prj t.cols wanted))).length z) := rd_box _ _ _ 1 _ rfl
    simp (maxSteps := 300000) (disch := omega) only [gs, gs2, gs3, gs4, ↓reduceIte, Nat.reduceEqDiff, Int.reduceToNat, Nat.reduceMul, Nat.reduceAdd, Nat.reduceBEq, isLd, e4, k0, k1]
    exact ⟨_, Sub.refl _, hk _ _ _ _ _ _ (hX.newT (N := projT t wanted) sH hA1 oA1 ((sH.trans hX.low).skip hb4) (Oth.put _ _ _) n41 (fun x hx => by subst hx; rw [g4']; simp))⟩
theorem comm_mem {a b : List Int} {v : Int} (h : v ∈ comm a b) : v ∈ a ∧ v ∈ b := by
  unfold comm at h
  rw [List.mem_filter] at h
  exact ⟨h.1, by simpa using h.2⟩
theorem projT_sh {t : Tab} {w : List Int} (nt : t.rows.length < 2 ^ 20) (hl : w.length < 2 ^ 30) : Sh (projT t w).rows := by
  refine ⟨by have := srt_len (t.rows.map (prj t.cols w)); rw [List.length_map] at this; show (srt _).length < _; omega, fun i hi => ?_⟩
  have hm : (srt (t.rows.map (prj t.cols w))).getD i [] ∈ srt (t.rows.map (prj t.cols w)) := by
    have hi' : i < (srt (t.rows.map (prj t.cols w))).length := hi
    simp [List.getD, hi']
  rw [srt_mem] at hm
  obtain ⟨r, _, hr⟩ := List.mem_map.1 hm
  show ((srt (t.rows.map (prj t.cols w))).getD i []).length < _
  rw [← hr, prj_len]; omega
/-- two tables that agree on their common columns. -/
def AgreeP (a b : Tab) : Prop := projT a (comm a.cols b.cols) = projT b (comm a.cols b.cols)
theorem impl_agree_ok {G : GH} {a b : Tab} {A B A' B' : Option Addr} {c d c' d' : Nat} {hs hs' : Nat → Option Addr × Nat} (h : IntS G A c a.cols) (hr : RowS G B d hs a.rows) (h' : IntS G A' c' b.cols) (hr' : RowS G B' d' hs' b.rows) (hl : a.cols.length < 2 ^ 30) (hl' : b.cols.length < 2 ^ 30) (ra : RowL a) (rb : RowL b) (na : a.rows.length < 2 ^ 20) (nb : b.rows.length < 2 ^ 20)
    {K : Value → GH → Prop} (hk : ∀ z : Bool, (z = true ↔ AgreeP a b) → K (.bool z) G) : GC Tryz.prog 197 [tabV a A c B d, tabV b A' c' B' d'] G K := by
  refine GC_drop (c_impl_agree_i (by simp) ?_)
  have fb : ∀ {G' : GH} {q : Nat} {N : Tab} {A B : Option Addr} {c d : Nat} {hs : Nat → Option Addr × Nat}, TabP G' (some ⟨q, 0, none⟩) N A c B d hs → rd G' (some ⟨q, 1, none⟩) = some (.slice B N.rows.length d) := fun h => by
    have := h.f1; rwa [pa_mk] at this
  unfold tabV tabC
  simp (maxSteps := 300000) (disch := omega) only [gs, gs2, gs3, gs4, ↓reduceIte, Nat.reduceEqDiff, Int.reduceToNat, Nat.reduceMul, Nat.reduceAdd, Nat.reduceBEq, isLd]
  intro b2 hb2
  have p2 := TabP.box hb2 h hr
  have s2 := Sub.put hb2 ⟨tabC a A c B d, true⟩
  unfold tabC at p2 s2
  simp (maxSteps := 300000) (disch := omega) only [gs, gs2, gs3, gs4, ↓reduceIte, Nat.reduceEqDiff, Int.reduceToNat, Nat.reduceMul, Nat.reduceAdd, Nat.reduceBEq, isLd]
  intro b3 hb3
  have p3 := TabP.box hb3 (h'.sub s2) (hr'.sub s2)
  have s3 := Sub.put hb3 ⟨tabC b A' c' B' d', true⟩
  unfold tabC at p3 s3
  have p2 := p2.sub s3
  have s1 := s2.trans s3
  revert s1 p2 p3
  generalize put (put G b2 ⟨[.slice A a.cols.length c, .slice B a.rows.length d], true⟩) b3 ⟨[.slice A' b.cols.length c', .slice B' b.rows.length d'], true⟩ = G1
  intro p3 p2 s1
  clear hb2 hb3 s2 s3
  simp (maxSteps := 300000) (disch := omega) only [gs, gs2, gs3, gs4, ↓reduceIte, Nat.reduceEqDiff, Int.reduceToNat, Nat.reduceMul, Nat.reduceAdd, Nat.reduceBEq, isLd, p2.f0, fb p2, p3.f0, fb p3]
  refine impl_commonColumns_ok p2.cols p3.cols hl hl' fun G2 D e hN => ?_
  have hcl := comm_len a.cols b.cols
  have hD := hN.ints
  have p2 := p2.sub hN.sub
  have p3 := p3.sub hN.sub
  have s1 := s1.trans hN.sub
  simp (maxSteps := 300000) (disch := omega) only [gs, gs2, gs3, gs4, ↓reduceIte, Nat.reduceEqDiff, Int.reduceToNat, Nat.reduceMul, Nat.reduceAdd, Nat.reduceBEq, isLd, p2.f0, fb p2, p3.f0, fb p3]
  refine impl_projected_ok p2.cols p2.rows hD (fun v hv => (comm_mem hv).1) hl (by omega) ra na fun G3 X x Y y hs3 h3 => ?_
  have p3' := p3.sub h3.sub
  have p2' := p2.sub h3.sub
  simp (maxSteps := 300000) (disch := omega) only [gs, gs2, gs3, gs4, ↓reduceIte, Nat.reduceEqDiff, Int.reduceToNat, Nat.reduceMul, Nat.reduceAdd, Nat.reduceBEq, isLd, p2'.f0, fb p2', p3'.f0, fb p3']
  refine impl_projected_ok p3'.cols p3'.rows (hD.sub h3.sub) (fun v hv => (comm_mem hv).2) hl' (by omega) rb nb fun G4 X' x' Y' y' hs4 h4 => ?_
  have p3' := p3'.sub h4.sub
  have p2' := p2'.sub h4.sub
  have o3 := (h3.own.sub (Sub.rest _ _)).sub h4.sub
  have o4 := h4.own.sub (Sub.rest _ _)
  simp (maxSteps := 300000) (disch := omega) only [gs, gs2, gs3, gs4, ↓reduceIte, Nat.reduceEqDiff, Int.reduceToNat, Nat.reduceMul, Nat.reduceAdd, Nat.reduceBEq, isLd, p2'.f0, fb p2', p3'.f0, fb p3']
  refine impl_SameTable_ok o3.cols.ints o3.rows.rows o4.cols.ints o4.rows.rows (by show (comm a.cols b.cols).length < _; omega) (projT_sh na (by omega)) fun z hz => ?_
  simp (maxSteps := 300000) (disch := omega) only [gs, gs2, gs3, gs4, ↓reduceIte, Nat.reduceEqDiff, Int.reduceToNat, Nat.reduceMul, Nat.reduceAdd, Nat.reduceBEq, isLd, p2'.f0, fb p2', p3'.f0, fb p3']
  exact ⟨G, s1.trans (h3.sub.trans h4.sub), hk z hz⟩
theorem riseP {xs : List Int} : Rise xs ↔ xs.Pairwise (· < ·) := by
  constructor
  · intro h
    rw [List.pairwise_iff_getElem]
    intro i j hi hj hij
    have key : ∀ d, i + d + 1 < xs.length → xs.getD i 0 < xs.getD (i + d + 1) 0 := by
      intro d
      induction d with
      | zero => intro hd; exact h i hd
      | succ d ih => intro hd; exact Int.lt_trans (ih (by omega)) (h (i + d + 1) (by omega))
    have := key (j - i - 1) (by omega)
    rw [show i + (j - i - 1) + 1 = j by omega] at this
    simpa [List.getD, hi, hj] using this
  · intro h i hi
    have := List.pairwise_iff_getElem.1 h i (i + 1) (by omega) hi (by omega)
    simpa [List.getD, hi, show i < xs.length by omega] using this
theorem rise_unique : ∀ {xs ys : List Int}, xs.Pairwise (· < ·) → ys.Pairwise (· < ·) → (∀ z, z ∈ xs ↔ z ∈ ys) → xs = ys
  | [], [], _, _, _ => rfl
  | [], y :: ys, _, _, h => absurd ((h y).2 (by simp)) (by simp)
  | x :: xs, [], _, _, h => absurd ((h x).1 (by simp)) (by simp)
  | x :: xs, y :: ys, hx, hy, h => by
    obtain ⟨hx1, hx2⟩ := List.pairwise_cons.1 hx
    obtain ⟨hy1, hy2⟩ := List.pairwise_cons.1 hy
    have e : x = y := by
      rcases List.mem_cons.1 ((h x).1 (by simp)) with e | e
      · exact e
      · rcases List.mem_cons.1 ((h y).2 (by simp)) with e' | e'
        · exact e'.symm
        · have := hy1 x e; have := hx1 y e'; omega
    subst e
    rw [rise_unique hx2 hy2 fun z => ?_]
    constructor
    · intro hz
      rcases List.mem_cons.1 ((h z).1 (List.mem_cons_of_mem _ hz)) with e | e
      · have := hx1 z hz; omega
      · exact e
    · intro hz
      rcases List.mem_cons.1 ((h z).2 (List.mem_cons_of_mem _ hz)) with e | e
      · have := hy1 z hz; omega
      · exact e
/-- a number put into a rising list. -/
def insI (n : Int) : List Int → List Int
  | [] => [n]
  | x :: xs => if n ≤ x then (if n < x then n :: x :: xs else x :: xs) else x :: insI n xs
theorem insI_mem {n z : Int} : ∀ {xs : List Int}, z ∈ insI n xs ↔ z = n ∨ z ∈ xs
  | [] => by simp [insI]
  | x :: xs => by
    rw [insI]
    split
    · split
      · simp
      · have : n = x := by omega
        subst this; simp
    · rw [List.mem_cons, insI_mem, List.mem_cons]
      constructor
      · rintro (h | h | h)
        · exact .inr (.inl h)
        · exact .inl h
        · exact .inr (.inr h)
      · rintro (h | h | h)
        · exact .inr (.inl h)
        · exact .inl h
        · exact .inr (.inr h)
theorem insI_pw {n : Int} : ∀ {xs : List Int}, xs.Pairwise (· < ·) → (insI n xs).Pairwise (· < ·)
  | [], _ => by simp [insI]
  | x :: xs, h => by
    obtain ⟨h1, h2⟩ := List.pairwise_cons.1 h
    rw [insI]
    split
    · split
      · refine List.pairwise_cons.2 ⟨fun z hz => ?_, h⟩
        rcases List.mem_cons.1 hz with rfl | hz
        · omega
        · have := h1 z hz; omega
      · exact h
    · refine List.pairwise_cons.2 ⟨fun z hz => ?_, insI_pw h2⟩
      rw [insI_mem] at hz
      rcases hz with rfl | hz
      · omega
      · exact h1 z hz
theorem insI_len (n : Int) : ∀ xs : List Int, (insI n xs).length ≤ xs.length + 1
  | [] => by simp [insI]
  | x :: xs => by
    have := insI_len n xs
    rw [insI]
    split
    · split <;> simp
    · simp; omega
def uniL (a b : List Int) : List Int := b.foldl (fun l n => insI n l) a
theorem uniL_spec : ∀ (b : List Int) {a : List Int}, a.Pairwise (· < ·) → (uniL a b).Pairwise (· < ·) ∧ (∀ z, z ∈ uniL a b ↔ z ∈ a ∨ z ∈ b) ∧ (uniL a b).length ≤ a.length + b.length
  | [], a, h => ⟨h, by simp [uniL], by simp [uniL]⟩
  | n :: b, a, h => by
    obtain ⟨h1, h2, h3⟩ := uniL_spec b (insI_pw (n := n) h)
    refine ⟨h1, fun z => ?_, ?_⟩
    · show z ∈ uniL (insI n a) b ↔ _
      rw [h2, insI_mem, List.mem_cons]
      constructor
      · rintro ((h | h) | h)
        · exact .inr (.inl h)
        · exact .inl h
        · exact .inr (.inr h)
      · rintro (h | h | h)
        · exact .inl (.inr h)
        · exact .inl (.inl h)
        · exact .inr h
    · have := insI_len n a
      show (uniL (insI n a) b).length ≤ _
      simp; omega
/-- numbers of which each equals not the one ahead. -/
def ddpI : Int → List Int → List Int
  | _, [] => []
  | p, x :: xs => if x = p then ddpI x xs else x :: ddpI x xs
def ddI : List Int → List Int
  | [] => []
  | x :: xs => x :: ddpI x xs
def encI (v : Int) : Value × List Int := (I64 v, [v])
theorem ddpE_enc : ∀ (p : Int) (xs : List Int), ddpE [p] (xs.map encI) = (ddpI p xs).map encI
  | _, [] => rfl
  | p, x :: xs => by
    rw [List.map_cons, ddpE, ddpI]
    have e : ((encI x).2 = [p]) ↔ x = p := by simp [encI]
    by_cases h : x = p
    · rw [if_pos (e.2 h), if_pos h]; exact ddpE_enc x xs
    · rw [if_neg fun y => h (e.1 y), if_neg h, List.map_cons]
      congr 1
      exact ddpE_enc x xs
theorem ddE_enc (xs : List Int) : ddE (xs.map encI) = (ddI xs).map encI := by
  cases xs with
  | nil => rfl
  | cons x xs => rw [List.map_cons, ddE, ddI, List.map_cons]; congr 1; exact ddpE_enc x xs
theorem ddpI_spec : ∀ {p : Int} {xs : List Int}, (p :: xs).Pairwise (· ≤ ·) → (p :: ddpI p xs).Pairwise (· < ·) ∧ ∀ z, z ∈ p :: ddpI p xs ↔ z ∈ p :: xs
  | p, [], _ => by simp [ddpI]
  | p, x :: xs, h => by
    obtain ⟨h1, h2⟩ := List.pairwise_cons.1 h
    obtain ⟨k1, k2⟩ := ddpI_spec h2
    rw [ddpI]
    by_cases e : x = p
    · subst e
      rw [if_pos rfl]
      refine ⟨k1, fun z => ?_⟩
      rw [k2]; simp
    · rw [if_neg e]
      have hx := h1 x (by simp)
      refine ⟨List.pairwise_cons.2 ⟨fun z hz => ?_, k1⟩, fun z => ?_⟩
      · have hz' := (k2 z).1 hz
        rcases List.mem_cons.1 hz' with rfl | hz'
        · omega
        · have := (List.pairwise_cons.1 h2).1 z hz'; omega
      · rw [List.mem_cons, k2]; simp
theorem ddI_spec {xs : List Int} (h : xs.Pairwise (· ≤ ·)) : (ddI xs).Pairwise (· < ·) ∧ ∀ z, z ∈ ddI xs ↔ z ∈ xs := by
  cases xs with
  | nil => simp [ddI]
  | cons x xs => exact ddpI_spec h
theorem ddI_len (xs : List Int) : (ddI xs).length ≤ xs.length := by
  have := ddE_len (xs.map encI)
  rw [ddE_enc, List.length_map, List.length_map] at this
  exact this
/-- numbers in order, each once. -/
def ord (xs : List Int) : List Int := ddI (xs.mergeSort fun x y => decide (x ≤ y))
theorem ord_spec (xs : List Int) : (ord xs).Pairwise (· < ·) ∧ ∀ z, z ∈ ord xs ↔ z ∈ xs := by
  have h := List.pairwise_mergeSort (le := fun x y : Int => decide (x ≤ y)) (by intro a b c; simp; omega) (by intro a b; simp; omega) xs
  have h' : (xs.mergeSort fun x y => decide (x ≤ y)).Pairwise (· ≤ ·) := h.imp (by intro a b; simp)
  obtain ⟨h1, h2⟩ := ddI_spec h'
  exact ⟨h1, fun z => by rw [ord, h2, List.mem_mergeSort]⟩
theorem ord_uni {a b : List Int} (h : Rise a) : ord (a ++ b) = uniL a b := by
  obtain ⟨h1, h2⟩ := ord_spec (a ++ b)
  obtain ⟨k1, k2, _⟩ := uniL_spec b (riseP.1 h)
  exact rise_unique h1 k1 fun z => by rw [h2, k2, List.mem_append]
theorem ord_len (xs : List Int) : (ord xs).length ≤ xs.length := by
  have := ddI_len (xs.mergeSort fun x y => decide (x ≤ y))
  rw [List.length_mergeSort] at this
  exact this
theorem enc_get {xs : List Int} {i : Nat} {e0 : Value × List Int} (hi : i < xs.length) : (xs.map encI).getD i e0 = encI (xs.getD i 0) := by simp [List.getD, hi]
theorem enc_map (xs : List Int) : (xs.map encI).map (·.1) = xs.map I64 := by simp [encI, Function.comp_def]
theorem encI_eq {a b : Int} : ((encI a).2 = (encI b).2) ↔ a = b := by simp [encI]
theorem Compact_some_ok {H G : GH} {b c : Nat} {xs : List Int} {r : List Value} (hb : G b = some ⟨xs.map I64 ++ r, true⟩) (hs : Sub H G) (hHb : H b = none) (hl : xs.length < 2 ^ 30) (hc : xs.length + r.length = c) {K : Value → GH → Prop}
    (hk : ∀ G' r', Sub H G' → G' b = some ⟨(ddI xs).map I64 ++ r', true⟩ → (ddI xs).length + r'.length = c → K (.slice (some ⟨b, 0, none⟩) (ddI xs).length c) G') : GC Tryz.prog 182 [.slice (some ⟨b, 0, none⟩) xs.length c] G K := by
  refine c_slices_Compact_int64_int64_i (by simp) ?_
  obtain ⟨E, hE⟩ : ∃ E : List (Value × List Int), E = xs.map encI := ⟨_, rfl⟩
  have hEl : E.length = xs.length := by rw [hE, List.length_map]
  have hdl : (ddE E).length = (ddI xs).length := by rw [hE, ddE_enc, List.length_map]
  have hdm : (ddE E).map (·.1) = (ddI xs).map I64 := by rw [hE, ddE_enc, enc_map]
  rw [← enc_map, ← hE] at hb
  have hg : ∀ {e0 : Value × List Int} {i}, i < xs.length → E.getD i e0 = encI (xs.getD i 0) := fun hi => by rw [hE]; exact enc_get hi
  simp (maxSteps := 300000) (disch := omega) only [gs, gs2, gs3, gs4, ↓reduceIte, Nat.reduceEqDiff, Int.reduceToNat, Nat.reduceMul, Nat.reduceAdd, Nat.reduceBEq, isLd]
  by_cases h2 : (xs.length : Int) < 2
  · simp (maxSteps := 300000) (disch := omega) only [gs, gs2, gs3, gs4, ↓reduceIte, Nat.reduceEqDiff, Int.reduceToNat, Nat.reduceMul, Nat.reduceAdd, Nat.reduceBEq, isLd, h2]
    have hd : ddI xs = xs := by
      rcases xs with _ | ⟨e, _ | ⟨e', es⟩⟩
      · rfl
      · rfl
      · simp at h2; omega
    rw [hd] at hk
    exact hk G r hs (by rw [hb, hE, enc_map]) hc
  · simp (maxSteps := 300000) (disch := omega) only [gs, gs2, gs3, gs4, ↓reduceIte, Nat.reduceEqDiff, Int.reduceToNat, Nat.reduceMul, Nat.reduceAdd, Nat.reduceBEq, isLd, h2]
    obtain ⟨e0, he0⟩ : ∃ e0 : Value × List Int, e0 = encI 0 := ⟨_, rfl⟩
    refine gLoop_intro (fun m T G' => ∃ j : Nat, T 0 = .slice (some ⟨b, 0, none⟩) xs.length c ∧ T 3 = .int .i64 j ∧ m + j = xs.length ∧ 1 ≤ j ∧ j ≤ xs.length ∧ G' = G ∧ ddE (E.take j) = E.take j) (xs.length - 1)
      ⟨1, by simp (maxSteps := 300000) (disch := omega) only [gs, gs2, gs3, gs4, ↓reduceIte, Nat.reduceEqDiff, Int.reduceToNat, Nat.reduceMul, Nat.reduceAdd, Nat.reduceBEq, isLd], by simp (maxSteps := 300000) (disch := omega) only [gs, gs2, gs3, gs4, ↓reduceIte, Nat.reduceEqDiff, Int.reduceToNat, Nat.reduceMul, Nat.reduceAdd, Nat.reduceBEq, isLd] <;> rfl, by omega, by omega, by omega, rfl, by
        cases E with
        | nil => simp at hEl; omega
        | cons e es => simp [ddE, ddpE]⟩ ?_
    rintro m T G' ⟨j, t0, t3, hm, hj1, hj, rfl, hinv⟩
    simp (maxSteps := 300000) (disch := omega) only [gs, gs2, gs3, gs4, ↓reduceIte, Nat.reduceEqDiff, Int.reduceToNat, Nat.reduceMul, Nat.reduceAdd, Nat.reduceBEq, isLd, t0, t3]
    by_cases hjj : (j : Int) < xs.length
    · have hr : ∀ i, i < xs.length → rd G' (some ⟨b, i, none⟩) = some (.int .i64 (xs.getD i 0)) := fun i hi => by
        simp only [rd, hb, Option.bind_some]
        rw [List.getElem?_append_left (by rw [List.length_map]; omega), hE, enc_map]
        exact ints_get _ i hi
      have w1 : IntKind.i64.wrap ((j : Int) - 1) = ((j - 1 : Nat) : Int) := by rw [w64 (n := (j : Int) - 1) (by omega) (by omega)]; omega
      simp (maxSteps := 300000) (disch := omega) only [gs, gs2, gs3, gs4, ↓reduceIte, Nat.reduceEqDiff, Int.reduceToNat, Nat.reduceMul, Nat.reduceAdd, Nat.reduceBEq, isLd, t0, t3, hjj, w1, hr j (by omega), hr (j - 1) (by omega)]
      by_cases hq : xs.getD j 0 = xs.getD (j - 1) 0
      · have hq' : (E.getD j e0).2 = (E.getD (j - 1) e0).2 := by rw [hg (by omega), hg (by omega)]; exact encI_eq.2 hq
        have hkk0 : ddE (E.take (j + 1)) = E.take j := by rw [ddE_snoc (e0 := e0) hj1 (by omega), if_pos hq', hinv]
        have hlk0 : (E.take j).length = j := by rw [List.length_take, Nat.min_eq_left (by omega)]
        simp (maxSteps := 300000) (disch := omega) only [gs, gs2, gs3, gs4, ↓reduceIte, Nat.reduceEqDiff, Int.reduceToNat, Nat.reduceMul, Nat.reduceAdd, Nat.reduceBEq, isLd, t0, t3, hjj, eq_true hq, sl_rest (show j < xs.length by omega) (show xs.length ≤ c by omega), Option.map_some, Option.map_none]
        refine gLoop_intro (fun m T G' => ∃ (q : Nat) (m0 : List Value), T 0 = .slice (some ⟨b, 0, none⟩) xs.length c ∧ T 3 = .int .i64 (ddE (E.take (j + q))).length ∧ T 4 = .slice (some ⟨b, j, none⟩) (xs.length - j) (c - j) ∧ T 5 = .int .i64 q ∧ m + (j + q) = xs.length ∧ 1 ≤ q ∧ j + q ≤ xs.length ∧
            (ddE (E.take (j + q))).length + m0.length + 1 = j + q ∧ Sub H G' ∧ G' b = some ⟨(ddE (E.take (j + q))).map (·.1) ++ (m0 ++ ((E.getD (j + q - 1) e0).1 :: ((E.drop (j + q)).map (·.1) ++ r))), true⟩) (xs.length - (j + 1))
          ⟨1, [], by simp (maxSteps := 300000) (disch := omega) only [gs, gs2, gs3, gs4, ↓reduceIte, Nat.reduceEqDiff, Int.reduceToNat, Nat.reduceMul, Nat.reduceAdd, Nat.reduceBEq, isLd, t0], by rw [hkk0, hlk0]; simp (maxSteps := 300000) (disch := omega) only [gs, gs2, gs3, gs4, ↓reduceIte, Nat.reduceEqDiff, Int.reduceToNat, Nat.reduceMul, Nat.reduceAdd, Nat.reduceBEq, isLd, t3], by simp (maxSteps := 300000) (disch := omega) only [gs, gs2, gs3, gs4, ↓reduceIte, Nat.reduceEqDiff, Int.reduceToNat, Nat.reduceMul, Nat.reduceAdd, Nat.reduceBEq, isLd], by simp (maxSteps := 300000) (disch := omega) only [gs, gs2, gs3, gs4, ↓reduceIte, Nat.reduceEqDiff, Int.reduceToNat, Nat.reduceMul, Nat.reduceAdd, Nat.reduceBEq, isLd] <;> rfl, by omega, by omega, by omega, by rw [hkk0, hlk0]; simp, hs, by
            rw [hkk0, hb]
            have e1 : E.take j ++ (E.getD j e0 :: E.drop (j + 1)) = E := by rw [← dropE (e0 := e0) (by omega), List.take_append_drop]
            have e2 : (E.take j).map (·.1) ++ ([] ++ ((E.getD (j + 1 - 1) e0).1 :: ((E.drop (j + 1)).map (·.1) ++ r))) = E.map (·.1) ++ r := by
              rw [← congrArg (List.map (·.1)) e1]
              simp only [List.map_append, List.map_cons, List.append_assoc, List.cons_append, List.nil_append, Nat.add_sub_cancel]
            rw [e2]⟩ ?_
        rintro m T G'' ⟨q, m0, t0, t3, t4, t5, hm, hq1, hqj, hkm, hS, hB⟩
        simp (maxSteps := 300000) (disch := omega) only [gs, gs2, gs3, gs4, ↓reduceIte, Nat.reduceEqDiff, Int.reduceToNat, Nat.reduceMul, Nat.reduceAdd, Nat.reduceBEq, isLd, t0, t3, t4, t5]
        by_cases hqq : (q : Int) < ((xs.length - j : Nat) : Int)
        · have hd : E.drop (j + q) = E.getD (j + q) e0 :: E.drop (j + (q + 1)) := dropE (by omega)
          have hr1 : rd G'' (some ⟨b, j + q, none⟩) = some (.int .i64 (xs.getD (j + q) 0)) := by
            have : rd G'' (some ⟨b, j + q, none⟩) = some (E.getD (j + q) e0).1 := by
              simp only [rd, hB, Option.bind_some]
              rw [List.getElem?_append_right (by rw [List.length_map]; omega), List.length_map, List.getElem?_append_right (by omega), hd]
              rw [show j + q - (ddE (E.take (j + q))).length - m0.length = 1 by omega]
              rfl
            rw [this, hg (by omega)]; rfl
          have hr0 : rd G'' (some ⟨b, j + (q - 1), none⟩) = some (.int .i64 (xs.getD (j + q - 1) 0)) := by
            have : rd G'' (some ⟨b, j + (q - 1), none⟩) = some (E.getD (j + q - 1) e0).1 := by
              simp only [rd, hB, Option.bind_some]
              rw [List.getElem?_append_right (by rw [List.length_map]; omega), List.length_map, List.getElem?_append_right (by omega)]
              rw [show j + (q - 1) - (ddE (E.take (j + q))).length - m0.length = 0 by omega]
              rfl
            rw [this, hg (by omega)]; rfl
          have w2 : IntKind.i64.wrap ((q : Int) - 1) = ((q - 1 : Nat) : Int) := by rw [w64 (n := (q : Int) - 1) (by omega) (by omega)]; omega
          simp (maxSteps := 300000) (disch := omega) only [gs, gs2, gs3, gs4, ↓reduceIte, Nat.reduceEqDiff, Int.reduceToNat, Nat.reduceMul, Nat.reduceAdd, Nat.reduceBEq, isLd, t0, t3, t4, t5, hqq, w2, hr1, hr0]
          have hsn := ddE_snoc (E := E) (e0 := e0) (show 1 ≤ j + q by omega) (by omega)
          by_cases hp : xs.getD (j + q) 0 = xs.getD (j + q - 1) 0
          · have hp' : (E.getD (j + q) e0).2 = (E.getD (j + q - 1) e0).2 := by rw [hg (by omega), hg (by omega)]; exact encI_eq.2 hp
            rw [if_pos hp'] at hsn
            simp (maxSteps := 300000) (disch := omega) only [gs, gs2, gs3, gs4, ↓reduceIte, Nat.reduceEqDiff, Int.reduceToNat, Nat.reduceMul, Nat.reduceAdd, Nat.reduceBEq, isLd, t0, t3, t4, t5, eq_true hp, hr1]
            refine ⟨m - 1, by omega, G'', Sub.refl _, q + 1, m0 ++ [(E.getD (j + q - 1) e0).1], by rw [← Nat.add_assoc, hsn], rfl, by omega, by omega, by omega, by rw [← Nat.add_assoc, hsn, List.length_append]; simp; omega, hS, ?_⟩
            rw [hB, ← Nat.add_assoc, hsn, hd]
            simp [← Nat.add_assoc]
          · have hp' : ¬ (E.getD (j + q) e0).2 = (E.getD (j + q - 1) e0).2 := by rw [hg (by omega), hg (by omega)]; exact fun y => hp (encI_eq.1 y)
            rw [if_neg hp'] at hsn
            simp (maxSteps := 300000) (disch := omega) only [gs, gs2, gs3, gs4, ↓reduceIte, Nat.reduceEqDiff, Int.reduceToNat, Nat.reduceMul, Nat.reduceAdd, Nat.reduceBEq, isLd, t0, t3, t4, t5, eq_false hp, hqq, hr1]
            have hkl : (((ddE (E.take (j + q))).length : Nat) : Int) < xs.length := by omega
            refine st_one hB (by simp; omega) rfl ?_
            simp (maxSteps := 300000) (disch := omega) only [gs, gs2, gs3, gs4, ↓reduceIte, Nat.reduceEqDiff, Int.reduceToNat, Nat.reduceMul, Nat.reduceAdd, Nat.reduceBEq, isLd, t0, t3, t4, t5]
            obtain ⟨y, m2, hm2, hm2l⟩ : ∃ y m2, m0 ++ [(E.getD (j + q - 1) e0).1] = y :: m2 ∧ m2.length = m0.length := by
              cases m0 with
              | nil => exact ⟨_, _, rfl, rfl⟩
              | cons y m2 => exact ⟨y, m2 ++ [(E.getD (j + q - 1) e0).1], rfl, by simp⟩
            refine ⟨m - 1, by omega, _, Sub.refl _, q + 1, m2, by rw [← Nat.add_assoc, hsn, List.length_append]; rfl, rfl, by omega, by omega, by omega, by rw [← Nat.add_assoc, hsn, List.length_append]; simp; omega, hS.skip hHb, ?_⟩
            rw [put_same, ← Nat.add_assoc, hsn, hd]
            have e3 : m0 ++ ((E.getD (j + q - 1) e0).1 :: ((E.getD (j + q) e0 :: E.drop (j + (q + 1))).map (·.1) ++ r)) = y :: (m2 ++ ((E.getD (j + q) e0).1 :: ((E.drop (j + (q + 1))).map (·.1) ++ r))) := by
              have e4 : ∀ X : List Value, m0 ++ ((E.getD (j + q - 1) e0).1 :: X) = y :: (m2 ++ X) := fun X => by
                rw [← List.cons_append, ← hm2, List.append_assoc]; rfl
              exact e4 _
            rw [e3]
            congr 2
            rw [List.set_append_right _ _ (by rw [List.length_map]; exact Nat.le_refl _), List.length_map, Nat.sub_self, List.set_cons_zero]
            have e5 : (E.getD (j + q) e0).1 = .int .i64 (xs.getD (j + q) 0) := by rw [hg (by omega)]; rfl
            rw [← e5]
            simp [← Nat.add_assoc]
        · have hjn : j + q = E.length := by omega
          rw [hjn, List.take_length] at t3 hkm hB
          rw [List.drop_length, List.map_nil, List.nil_append] at hB
          rw [hdl] at t3 hkm
          rw [hdm] at hB
          have hkl : (ddI xs).length < xs.length := by omega
          have hnc : xs.length ≤ c := by omega
          simp (maxSteps := 300000) (disch := omega) only [gs, gs2, gs3, gs4, ↓reduceIte, Nat.reduceEqDiff, Int.reduceToNat, Nat.reduceMul, Nat.reduceAdd, Nat.reduceBEq, isLd, t0, t3, t4, t5, hqq, sl_rest hkl hnc, Option.map_none]
          have ho' := over_app (zc [Value.int .i64 0] (xs.length - (ddI xs).length)) ((ddI xs).map I64) ((m0 ++ [(E.getD (E.length - 1) e0).1]) ++ r)
          have hzl : (zc [Value.int .i64 0] (xs.length - (ddI xs).length)).length = xs.length - (ddI xs).length := by rw [zc_one, List.length_replicate]
          rw [hzl, if_pos (by simp; omega), List.length_map, show ((m0 ++ [(E.getD (E.length - 1) e0).1]) ++ r).drop (xs.length - (ddI xs).length) = r by rw [← show (m0 ++ [(E.getD (E.length - 1) e0).1]).length = xs.length - (ddI xs).length by simp; omega]; simp] at ho'
          have hBB : G'' b = some ⟨(ddI xs).map I64 ++ ((m0 ++ [(E.getD (E.length - 1) e0).1]) ++ r), true⟩ := by rw [hB]; simp
          refine ⟨_, _, _, rfl, .inr ⟨b, _, _, rfl, hBB, by simp; omega, fun v hv => by rw [zc_one] at hv; rw [List.eq_of_mem_replicate hv]; rfl, ?_⟩⟩
          rw [ho']
          simp (maxSteps := 300000) (disch := omega) only [gs, gs2, gs3, gs4, ↓reduceIte, Nat.reduceEqDiff, Int.reduceToNat, Nat.reduceMul, Nat.reduceAdd, Nat.reduceBEq, isLd, t0, t3, t4, t5, Option.map_none, sl_init (A := some ⟨b, 0, none⟩) (Nat.le_of_lt hkl) hnc]
          refine hk _ (zc [Value.int .i64 0] (xs.length - (ddI xs).length) ++ r) (hS.skip hHb) ?_ ?_
          · rw [put_same, List.append_assoc]
          · rw [List.length_append, hzl]; omega
      · have hq' : ¬ (E.getD j e0).2 = (E.getD (j - 1) e0).2 := by rw [hg (by omega), hg (by omega)]; exact fun y => hq (encI_eq.1 y)
        simp (maxSteps := 300000) (disch := omega) only [gs, gs2, gs3, gs4, ↓reduceIte, Nat.reduceEqDiff, Int.reduceToNat, Nat.reduceMul, Nat.reduceAdd, Nat.reduceBEq, isLd, t0, t3, hjj, eq_false hq]
        have hsn := ddE_snoc (E := E) (e0 := e0) hj1 (show j < E.length by omega)
        rw [if_neg hq', hinv] at hsn
        refine ⟨m - 1, by omega, G', Sub.refl _, j + 1, rfl, by omega, by omega, by omega, rfl, ?_⟩
        rw [hsn, List.take_succ_eq_append_getElem (show j < E.length by omega)]
        simp [List.getD, show j < E.length by omega]
    · obtain rfl : j = xs.length := by omega
      simp (maxSteps := 300000) (disch := omega) only [gs, gs2, gs3, gs4, ↓reduceIte, Nat.reduceEqDiff, Int.reduceToNat, Nat.reduceMul, Nat.reduceAdd, Nat.reduceBEq, isLd, t0, t3, hjj]
      rw [← hEl, List.take_length] at hinv
      have hd : ddI xs = xs := by
        rw [hE, ddE_enc] at hinv
        have := congrArg (List.map fun e : Value × List Int => e.2.headD 0) hinv
        simpa [encI, Function.comp_def] using this
      rw [hd] at hk
      exact hk G' r hs (by rw [hb, hE, enc_map]) hc
theorem slices_Compact_ok {H G : GH} {A : Option Addr} {c : Nat} {xs : List Int} (hO : Own G A c (xs.map I64) 1 xs.length) (hs : Sub H G) (ho : Off H A) (hl : xs.length < 2 ^ 30) {K : Value → GH → Prop}
    (hk : ∀ G', Sub H G' → Own G' A c ((ddI xs).map I64) 1 (ddI xs).length → K (.slice A (ddI xs).length c) G') : GC Tryz.prog 182 [.slice A xs.length c] G K := by
  rcases hO with ⟨rfl, rfl, hz, _⟩ | ⟨b, r, rfl, hb, hlen, hc, hnc⟩
  · have hx : xs = [] := List.length_eq_zero_iff.1 hz
    subst hx
    refine c_slices_Compact_int64_int64_i (by simp) ?_
    simp (maxSteps := 300000) (disch := omega) only [gs, gs2, gs3, gs4, ↓reduceIte, Nat.reduceEqDiff, Int.reduceToNat, Nat.reduceMul, Nat.reduceAdd, Nat.reduceBEq, isLd, show (((0 : Nat) : Int) < 2) = True from eq_true (by decide)]
    exact hk G hs (Own.nil _ _)
  · have hcl : xs.length + r.length = c := by rw [List.length_append, List.length_map] at hc; omega
    refine Compact_some_ok hb hs (ho _ rfl) hl hcl fun G' r' hS hB hC => ?_
    exact hk G' hS (.inr ⟨b, r', rfl, hB, by simp, by simp; omega, by omega⟩)
theorem flat_take {xss : List (List Int)} {k : Nat} (hk : k < xss.length) : (xss.take (k + 1)).flatten = (xss.take k).flatten ++ xss.getD k [] := by
  rw [List.take_succ_eq_append_getElem hk, List.flatten_append]
  simp [List.getD, hk]
theorem flat_le (xss : List (List Int)) (k : Nat) : (xss.take k).flatten.length ≤ xss.flatten.length := by
  have := congrArg (fun l : List (List Int) => l.flatten.length) (List.take_append_drop k xss)
  simp only [List.flatten_append, List.length_append] at this
  omega
theorem Grow0_ok {G : GH} {n : Nat} (hn : n < 2 ^ 40) {K : Value → GH → Prop} (hk : ∀ G' A c, New G G' A c [] 1 0 → K (.slice A 0 c) G') : GC Tryz.prog 183 [.slice none 0 0, .int .i64 n] G K := by
  refine c_slices_Grow_int64_int64_i (by simp) ?_
  have w1 := w64 (((0 : Nat) : Int) - ((0 : Nat) : Int)) (by omega) (by omega)
  have w2 := w64 ((n : Int) - (((0 : Nat) : Int) - ((0 : Nat) : Int))) (by omega) (by omega)
  have l1 : decide ((n : Int) < 0) = false := decide_eq_false (by omega)
  by_cases h0 : n = 0
  · subst h0
    have l2 : decide (0 < ((0 : Nat) : Int) - (((0 : Nat) : Int) - ((0 : Nat) : Int))) = false := rfl
    simp (maxSteps := 300000) (disch := omega) only [gs, gs2, gs3, gs4, ↓reduceIte, Nat.reduceEqDiff, Int.reduceToNat, Nat.reduceMul, Nat.reduceAdd, Nat.reduceBEq, isLd, w1, w2, l1, l2]
    exact hk G none 0 (New.nil _ _)
  have l2 : decide (0 < (n : Int) - (((0 : Nat) : Int) - ((0 : Nat) : Int))) = true := decide_eq_true (by omega)
  have e1 : slV 1 (.slice none 0 0) none (some (.int .i64 ((0 : Nat) : Int))) = some (.slice none 0 0) := rfl
  simp (maxSteps := 300000) (disch := omega) only [gs, gs2, gs3, gs4, ↓reduceIte, Nat.reduceEqDiff, Int.reduceToNat, Nat.reduceMul, Nat.reduceAdd, Nat.reduceBEq, isLd, w1, w2, l1, l2, e1, Option.map_none]
  refine ⟨none, 0, 0, n, [], rfl, by rw [show ((n : Int) - (((0 : Nat) : Int) - ((0 : Nat) : Int))) = n by omega], rfl, fun j v hj => by simp at hj, by omega, by omega, by omega, by omega, fun b c' hb hc => ⟨put G b ⟨zc [.int .i64 0] n ++ zc [.int .i64 0] (c' - n), true⟩, by rw [Nat.zero_add]; exact Sub.refl _, ?_⟩⟩
  have e2 : slV 1 (.slice (some ⟨b, 0, none⟩) n c') none (some (.int .i64 ((0 : Nat) : Int))) = some (.slice (some ⟨b, 0, none⟩) 0 c') := by
    simp only [slV, onSl, bndV, onInt]
    rw [if_pos ⟨by omega, by omega⟩]
    simp only [Option.bind_some, Int.toNat_natCast]
    rw [if_pos (by omega)]
    simp only [Nat.zero_mul, pa_mk, Nat.add_zero, Nat.sub_zero, ite_self]
  simp only [Nat.zero_add]
  simp (maxSteps := 300000) (disch := omega) only [gs, gs2, gs3, gs4, ↓reduceIte, Nat.reduceEqDiff, Int.reduceToNat, Nat.reduceMul, Nat.reduceAdd, Nat.reduceBEq, isLd, e2, Option.map_none]
  refine hk _ _ _ (.inr ⟨b, zc [.int .i64 0] n ++ zc [.int .i64 0] (c' - n), rfl, hb, rfl, rfl, ?_, by omega⟩)
  simp only [List.nil_append, List.length_append]
  simp only [zc, List.length_map, List.length_range, List.length_singleton, Nat.mul_one]
  omega
theorem ConcatR_ok {G : GH} {Y : Option Addr} {cy : Nat} {hs : Nat → Option Addr × Nat} {xss : List (List Int)} (h : RowS G Y cy hs xss) (hl : xss.length < 2 ^ 20) (hf : xss.flatten.length < 2 ^ 30) {K : Value → GH → Prop}
    (hk : ∀ G' A c, New G G' A c (xss.flatten.map I64) 1 xss.flatten.length → K (.slice A xss.flatten.length c) G') : GC Tryz.prog 105 [.slice Y xss.length cy] G K := by
  refine c_slices_Concat_int64_int64_i (by simp) ?_
  have hsn := h.sn
  have r := h.r
  simp (maxSteps := 300000) (disch := omega) only [gs, gs2, gs3, gs4, ↓reduceIte, Nat.reduceEqDiff, Int.reduceToNat, Nat.reduceMul, Nat.reduceAdd, Nat.reduceBEq, isLd]
  refine gLoop_intro (fun m T G' => ∃ k : Nat, T 0 = .slice Y xss.length cy ∧ T 3 = .int .i64 (((xss.take k).flatten.length : Nat) : Int) ∧ T 9 = .slice Y xss.length cy ∧ T 10 = .int .i64 xss.length ∧ T 11 = .int .i64 k ∧ m + k = xss.length ∧ k ≤ xss.length ∧ G' = G) xss.length
    ⟨0, by simp (maxSteps := 300000) (disch := omega) only [gs, gs2, gs3, gs4, ↓reduceIte, Nat.reduceEqDiff, Int.reduceToNat, Nat.reduceMul, Nat.reduceAdd, Nat.reduceBEq, isLd], by simp (maxSteps := 300000) (disch := omega) only [gs, gs2, gs3, gs4, ↓reduceIte, Nat.reduceEqDiff, Int.reduceToNat, Nat.reduceMul, Nat.reduceAdd, Nat.reduceBEq, isLd] <;> rfl, by simp (maxSteps := 300000) (disch := omega) only [gs, gs2, gs3, gs4, ↓reduceIte, Nat.reduceEqDiff, Int.reduceToNat, Nat.reduceMul, Nat.reduceAdd, Nat.reduceBEq, isLd], by simp (maxSteps := 300000) (disch := omega) only [gs, gs2, gs3, gs4, ↓reduceIte, Nat.reduceEqDiff, Int.reduceToNat, Nat.reduceMul, Nat.reduceAdd, Nat.reduceBEq, isLd], by simp (maxSteps := 300000) (disch := omega) only [gs, gs2, gs3, gs4, ↓reduceIte, Nat.reduceEqDiff, Int.reduceToNat, Nat.reduceMul, Nat.reduceAdd, Nat.reduceBEq, isLd] <;> rfl, by omega, by omega, rfl⟩ ?_
  rintro m T G' ⟨k, e0, e3, e9, e10, e11, hm, hkl, rfl⟩
  simp (maxSteps := 300000) (disch := omega) only [gs, gs2, gs3, gs4, ↓reduceIte, Nat.reduceEqDiff, Int.reduceToNat, Nat.reduceMul, Nat.reduceAdd, Nat.reduceBEq, isLd, e0, e3, e9, e10, e11]
  by_cases hkk : (k : Int) < xss.length
  · have hf1 := flat_take (show k < xss.length by omega)
    have hle := flat_le xss (k + 1)
    have hsum : (xss.take (k + 1)).flatten.length = (xss.take k).flatten.length + (xss.getD k []).length := by rw [hf1, List.length_append]
    have w1 := w64 ((((xss.take k).flatten.length : Nat) : Int) + ((xss.getD k []).length : Int)) (by omega) (by omega)
    have l1 : decide ((((xss.take k).flatten.length : Nat) : Int) + ((xss.getD k []).length : Int) < 0) = false := decide_eq_false (by omega)
    simp (maxSteps := 300000) (disch := omega) only [gs, gs2, gs3, gs4, ↓reduceIte, Nat.reduceEqDiff, Int.reduceToNat, Nat.reduceMul, Nat.reduceAdd, Nat.reduceBEq, isLd, e0, e3, e9, e10, e11, hkk, r k (by omega), w1, l1]
    exact ⟨m - 1, by omega, G', Sub.refl _, k + 1, by rw [hsum]; push_cast; rfl, rfl, by omega, by omega, rfl⟩
  · simp (maxSteps := 300000) (disch := omega) only [gs, gs2, gs3, gs4, ↓reduceIte, Nat.reduceEqDiff, Int.reduceToNat, Nat.reduceMul, Nat.reduceAdd, Nat.reduceBEq, isLd, e0, e3, e9, e10, e11, hkk]
    obtain rfl : k = xss.length := by omega
    rw [List.take_length]
    refine Grow0_ok (by omega) fun G2 A2 c2 hN => ?_
    simp (maxSteps := 300000) (disch := omega) only [gs, gs2, gs3, gs4, ↓reduceIte, Nat.reduceEqDiff, Int.reduceToNat, Nat.reduceMul, Nat.reduceAdd, Nat.reduceBEq, isLd, e0, e3, e9, e10, e11]
    refine gLoop_intro (fun m T Gx => ∃ (i : Nat) (B : Option Addr) (cB : Nat), T 6 = .slice B (xss.take i).flatten.length cB ∧ T 25 = .slice Y xss.length cy ∧ T 26 = .int .i64 xss.length ∧ T 27 = .int .i64 i ∧ m + i = xss.length ∧ i ≤ xss.length ∧ New G' Gx B cB ((xss.take i).flatten.map I64) 1 (xss.take i).flatten.length) xss.length
      ⟨0, A2, c2, by simp (maxSteps := 300000) (disch := omega) only [gs, gs2, gs3, gs4, ↓reduceIte, Nat.reduceEqDiff, Int.reduceToNat, Nat.reduceMul, Nat.reduceAdd, Nat.reduceBEq, isLd] <;> rfl, by simp (maxSteps := 300000) (disch := omega) only [gs, gs2, gs3, gs4, ↓reduceIte, Nat.reduceEqDiff, Int.reduceToNat, Nat.reduceMul, Nat.reduceAdd, Nat.reduceBEq, isLd], by simp (maxSteps := 300000) (disch := omega) only [gs, gs2, gs3, gs4, ↓reduceIte, Nat.reduceEqDiff, Int.reduceToNat, Nat.reduceMul, Nat.reduceAdd, Nat.reduceBEq, isLd], by simp (maxSteps := 300000) (disch := omega) only [gs, gs2, gs3, gs4, ↓reduceIte, Nat.reduceEqDiff, Int.reduceToNat, Nat.reduceMul, Nat.reduceAdd, Nat.reduceBEq, isLd] <;> rfl, by omega, by omega, hN⟩ ?_
    clear e0 e3 e9 e10 e11 hm hkl hN
    rintro m' T' G3 ⟨i, B, cB, e6, e25, e26, e27, hm, hkl, hN⟩
    simp (maxSteps := 300000) (disch := omega) only [gs, gs2, gs3, gs4, ↓reduceIte, Nat.reduceEqDiff, Int.reduceToNat, Nat.reduceMul, Nat.reduceAdd, Nat.reduceBEq, isLd, e6, e25, e26, e27]
    by_cases hii : (i : Int) < xss.length
    · have hri := rd_sub hN.sub (r i (by omega))
      have hrow := (h.row i (by omega)).sub hN.sub
      have hf1 := flat_take (show i < xss.length by omega)
      have hle := flat_le xss (i + 1)
      have hsum : (xss.take (i + 1)).flatten.length = (xss.take i).flatten.length + (xss.getD i []).length := by rw [hf1, List.length_append]
      simp (maxSteps := 300000) (disch := omega) only [gs, gs2, gs3, gs4, ↓reduceIte, Nat.reduceEqDiff, Int.reduceToNat, Nat.reduceMul, Nat.reduceAdd, Nat.reduceBEq, isLd, e6, e25, e26, e27, hii, hri]
      refine ap_new hN (Sub.refl _) (news := (xss.getD i []).map I64) (m := (xss.getD i []).length) (fun j v hj => ?_) (by simp) (by intro v hv; obtain ⟨x, _, rfl⟩ := List.mem_map.1 hv; rfl) rfl (by omega) (by omega) (by omega) fun G4 B4 c4 hN4 => ?_
      · have hj' : j < (xss.getD i []).length := by
          have := (List.getElem?_eq_some_iff.1 hj).1
          simpa using this
        rw [ints_get _ j hj'] at hj
        rw [← hj]; exact hrow.rd j hj'
      simp (maxSteps := 300000) (disch := omega) only [gs, gs2, gs3, gs4, ↓reduceIte, Nat.reduceEqDiff, Int.reduceToNat, Nat.reduceMul, Nat.reduceAdd, Nat.reduceBEq, isLd, e6, e25, e26, e27]
      exact ⟨m' - 1, by omega, G4, Sub.refl _, i + 1, B4, c4, by rw [hsum], rfl, by omega, by omega, hN4.cast (by rw [hf1, List.map_append]) hsum.symm⟩
    · simp (maxSteps := 300000) (disch := omega) only [gs, gs2, gs3, gs4, ↓reduceIte, Nat.reduceEqDiff, Int.reduceToNat, Nat.reduceMul, Nat.reduceAdd, Nat.reduceBEq, isLd, e6, e25, e26, e27, hii]
      obtain rfl : i = xss.length := by omega
      rw [List.take_length] at hN ⊢
      exact hk _ _ _ hN
/-- the columns of all tables, one behind the other. -/
def colsL (ts : List Tab) : List Int := (ts.map (·.cols)).flatten
theorem cols_take {ts : List Tab} {k : Nat} (hk : k < ts.length) : colsL (ts.take (k + 1)) = colsL (ts.take k) ++ (ts.getD k t0).cols := by
  unfold colsL
  rw [List.take_succ_eq_append_getElem hk, List.map_append, List.flatten_append]
  simp [List.getD, hk]
theorem cols_le (ts : List Tab) (k : Nat) : (colsL (ts.take k)).length ≤ (colsL ts).length := by
  have := congrArg (fun l : List Tab => (colsL l).length) (List.take_append_drop k ts)
  simp only [colsL, List.map_append, List.flatten_append, List.length_append] at this ⊢
  omega
theorem impl_allColumns_ok {G : GH} {Y : Option Addr} {cy : Nat} {H : Nat → TH} {ts : List Tab} (h : TabsS G Y cy H ts) (hl : ts.length < 2 ^ 20) (hf : (colsL ts).length < 2 ^ 30) {K : Value → GH → Prop}
    (hk : ∀ G' A c, New G G' A c ((ord (colsL ts)).map I64) 1 (ord (colsL ts)).length → K (.slice A (ord (colsL ts)).length c) G') : GC Tryz.prog 104 [.slice Y ts.length cy] G K := by
  refine GC_drop (c_impl_allColumns_i (by simp) ?_)
  have hsn := h.sn
  simp (maxSteps := 300000) (disch := omega) only [gs, gs2, gs3, gs4, ↓reduceIte, Nat.reduceEqDiff, Int.reduceToNat, Nat.reduceMul, Nat.reduceAdd, Nat.reduceBEq, isLd]
  refine gLoop_intro (fun m T G' => ∃ (k : Nat) (Z : Option Addr) (z : Nat), T 3 = .slice Z (colsL (ts.take k)).length z ∧ T 6 = .slice Y ts.length cy ∧ T 7 = .int .i64 ts.length ∧ T 8 = .int .i64 k ∧ m + k = ts.length ∧ k ≤ ts.length ∧ Sub G G' ∧ Off G Z ∧ Own G' Z z ((colsL (ts.take k)).map I64) 1 (colsL (ts.take k)).length) ts.length
    ⟨0, none, 0, by simp (maxSteps := 300000) (disch := omega) only [gs, gs2, gs3, gs4, ↓reduceIte, Nat.reduceEqDiff, Int.reduceToNat, Nat.reduceMul, Nat.reduceAdd, Nat.reduceBEq, isLd] <;> rfl, by simp (maxSteps := 300000) (disch := omega) only [gs, gs2, gs3, gs4, ↓reduceIte, Nat.reduceEqDiff, Int.reduceToNat, Nat.reduceMul, Nat.reduceAdd, Nat.reduceBEq, isLd], by simp (maxSteps := 300000) (disch := omega) only [gs, gs2, gs3, gs4, ↓reduceIte, Nat.reduceEqDiff, Int.reduceToNat, Nat.reduceMul, Nat.reduceAdd, Nat.reduceBEq, isLd], by simp (maxSteps := 300000) (disch := omega) only [gs, gs2, gs3, gs4, ↓reduceIte, Nat.reduceEqDiff, Int.reduceToNat, Nat.reduceMul, Nat.reduceAdd, Nat.reduceBEq, isLd] <;> rfl, by omega, by omega, Sub.refl _, Off.nil _, Own.nil _ _⟩ ?_
  rintro m T G' ⟨k, Z, z, e3, e6, e7, e8, hm, hkl, hS, hO, hW⟩
  simp (maxSteps := 300000) (disch := omega) only [gs, gs2, gs3, gs4, ↓reduceIte, Nat.reduceEqDiff, Int.reduceToNat, Nat.reduceMul, Nat.reduceAdd, Nat.reduceBEq, isLd, e3, e6, e7, e8]
  by_cases hkk : (k : Int) < ts.length
  · have hh := h.sub hS
    have q0 := hh.r0 k (by omega)
    have q1 := hh.r1 k (by omega)
    have hct := cols_take (show k < ts.length by omega)
    have hcl := cols_le ts (k + 1)
    have hsum : (colsL (ts.take (k + 1))).length = (colsL (ts.take k)).length + (ts.getD k t0).cols.length := by rw [hct, List.length_append]
    simp (maxSteps := 300000) (disch := omega) only [gs, gs2, gs3, gs4, ↓reduceIte, Nat.reduceEqDiff, Int.reduceToNat, Nat.reduceMul, Nat.reduceAdd, Nat.reduceBEq, isLd, e3, e6, e7, e8, hkk, q0, q1]
    intro b5 hb5
    simp (maxSteps := 300000) (disch := omega) only [gs, gs2, gs3, gs4, ↓reduceIte, Nat.reduceEqDiff, Int.reduceToNat, Nat.reduceMul, Nat.reduceAdd, Nat.reduceBEq, isLd, e3, e6, e7, e8]
    refine st_fresh (vs := [.slice (H k).A (ts.getD k t0).cols.length (H k).c, .slice (H k).B (ts.getD k t0).rows.length (H k).d]) rfl rfl rfl (by intro v hv; simp at hv; rcases hv with rfl | rfl <;> rfl) ?_
    have p5 := TabP.box hb5 (hh.cols k (by omega)) (hh.rows k (by omega))
    have s5 := Sub.put hb5 ⟨tabC (ts.getD k t0) (H k).A (H k).c (H k).B (H k).d, true⟩
    unfold tabC at p5 s5
    have hW5 := hW.sub s5
    have hS5 := hS.trans s5
    revert p5 s5 hW5 hS5
    generalize put G' b5 ⟨[.slice (H k).A (ts.getD k t0).cols.length (H k).c, .slice (H k).B (ts.getD k t0).rows.length (H k).d], true⟩ = G5
    intro p5 s5 hW5 hS5
    simp (maxSteps := 300000) (disch := omega) only [gs, gs2, gs3, gs4, ↓reduceIte, Nat.reduceEqDiff, Int.reduceToNat, Nat.reduceMul, Nat.reduceAdd, Nat.reduceBEq, isLd, e3, e6, e7, e8, p5.f0]
    refine ap_own hW5 (news := (ts.getD k t0).cols.map I64) (m := (ts.getD k t0).cols.length) (fun j v hj => ?_) (by simp) (by intro v hv; obtain ⟨x, _, rfl⟩ := List.mem_map.1 hv; rfl) rfl (by omega) (by omega) (by omega) fun G6 A6 c6 hW6 keep => ?_
    · have hj' : j < (ts.getD k t0).cols.length := by
        have := (List.getElem?_eq_some_iff.1 hj).1
        simpa using this
      rw [ints_get _ j hj'] at hj
      rw [← hj]; exact p5.cols.rd j hj'
    obtain ⟨hS6, hO6⟩ := keep G hS5 hO
    simp (maxSteps := 300000) (disch := omega) only [gs, gs2, gs3, gs4, ↓reduceIte, Nat.reduceEqDiff, Int.reduceToNat, Nat.reduceMul, Nat.reduceAdd, Nat.reduceBEq, isLd, e3, e6, e7, e8]
    exact ⟨m - 1, by omega, G6, Sub.refl _, k + 1, A6, c6, by rw [hsum], rfl, by omega, by omega, hS6, hO6, hW6.cast (by rw [hct, List.map_append]) hsum.symm⟩
  · simp (maxSteps := 300000) (disch := omega) only [gs, gs2, gs3, gs4, ↓reduceIte, Nat.reduceEqDiff, Int.reduceToNat, Nat.reduceMul, Nat.reduceAdd, Nat.reduceBEq, isLd, e3, e6, e7, e8, hkk]
    obtain rfl : k = ts.length := by omega
    rw [List.take_length] at e3 hW ⊢
    have hol := ord_len (colsL ts)
    have fin : ∀ {G'' : GH} {c : Nat}, Sub G G'' → Own G'' Z c ((ord (colsL ts)).map I64) 1 (ord (colsL ts)).length → ∃ G3, Sub G3 G'' ∧ K (.slice Z (ord (colsL ts)).length c) G3 := fun s w => by
      obtain ⟨G4, s4, hN4⟩ := w.new s hO
      exact ⟨G4, s4, hk _ _ _ hN4⟩
    rcases hW with ⟨rfl, rfl, hz, _⟩ | ⟨b, r, rfl, hb, hlen, hc, hnc⟩
    · have hnil : colsL ts = [] := List.length_eq_zero_iff.1 hz
      rw [hnil, show ord ([] : List Int) = [] by simp [ord, ddI]] at fin
      rw [hnil] at e3 ⊢
      refine Sort_int_none_ok ?_
      simp (maxSteps := 300000) (disch := omega) only [gs, gs2, gs3, gs4, ↓reduceIte, Nat.reduceEqDiff, Int.reduceToNat, Nat.reduceMul, Nat.reduceAdd, Nat.reduceBEq, isLd, e3, e6, e7, e8]
      refine slices_Compact_ok (H := G) (xs := []) (Own.nil _ _) hS (Off.nil _) (by simp) fun G'' s'' w'' => ?_
      simp (maxSteps := 300000) (disch := omega) only [gs, gs2, gs3, gs4, ↓reduceIte, Nat.reduceEqDiff, Int.reduceToNat, Nat.reduceMul, Nat.reduceAdd, Nat.reduceBEq, isLd]
      exact fin s'' w''
    · by_cases h0 : (colsL ts).length = 0
      · have hnil : colsL ts = [] := List.length_eq_zero_iff.1 h0
        rw [hnil, show ord ([] : List Int) = [] by simp [ord, ddI]] at fin
        rw [hnil] at e3 ⊢
        refine Sort_int_none_ok ?_
        simp (maxSteps := 300000) (disch := omega) only [gs, gs2, gs3, gs4, ↓reduceIte, Nat.reduceEqDiff, Int.reduceToNat, Nat.reduceMul, Nat.reduceAdd, Nat.reduceBEq, isLd, e3, e6, e7, e8]
        refine slices_Compact_ok (H := G) (xs := []) (.inr ⟨b, r, rfl, by rw [hb, hnil], by simp, by rw [hnil] at hc; exact hc, by simp⟩) hS hO (by simp) fun G'' s'' w'' => ?_
        simp (maxSteps := 300000) (disch := omega) only [gs, gs2, gs3, gs4, ↓reduceIte, Nat.reduceEqDiff, Int.reduceToNat, Nat.reduceMul, Nat.reduceAdd, Nat.reduceBEq, isLd]
        exact fin s'' w''
      · refine Sort_int_some_ok (by omega) hb (by omega) ?_
        simp (maxSteps := 300000) (disch := omega) only [gs, gs2, gs3, gs4, ↓reduceIte, Nat.reduceEqDiff, Int.reduceToNat, Nat.reduceMul, Nat.reduceAdd, Nat.reduceBEq, isLd, e3, e6, e7, e8]
        have hml : ((colsL ts).mergeSort fun x y => decide (x ≤ y)).length = (colsL ts).length := List.length_mergeSort _
        rw [← hml]
        refine slices_Compact_ok (H := G) (.inr ⟨b, r, rfl, put_same _ _ _, by simp, by simpa using hc, by omega⟩) (hS.skip (hO _ rfl)) hO (by omega) fun G'' s'' w'' => ?_
        simp (maxSteps := 300000) (disch := omega) only [gs, gs2, gs3, gs4, ↓reduceIte, Nat.reduceEqDiff, Int.reduceToNat, Nat.reduceMul, Nat.reduceAdd, Nat.reduceBEq, isLd]
        exact fin s'' w''
open Classical in
noncomputable def projV (t : Tab) (w : List Int) : Tab × Int := if TabOk t then (if Rise w ∧ ∀ v ∈ w, v ∈ t.cols then (projT t w, 0) else (⟨[], []⟩, 2)) else (⟨[], []⟩, 1)
theorem projV_no {t : Tab} {w : List Int} (h : ¬ TabOk t) : projV t w = (⟨[], []⟩, 1) := by unfold projV; rw [if_neg h]
theorem projV_off {t : Tab} {w : List Int} (h : TabOk t) (k : ¬ (Rise w ∧ ∀ v ∈ w, v ∈ t.cols)) : projV t w = (⟨[], []⟩, 2) := by unfold projV; rw [if_pos h, if_neg k]
theorem projV_yes {t : Tab} {w : List Int} (h : TabOk t) (k : Rise w ∧ ∀ v ∈ w, v ∈ t.cols) : projV t w = (projT t w, 0) := by unfold projV; rw [if_pos h, if_pos k]
theorem impl_hasColumns_fn1_ok {G : GH} {q A : Option Addr} {c : Nat} {xs : List Int} {v : Int} (hq : rd G q = some (.slice A xs.length c)) (h : IntS G A c xs) (hl : xs.length < 2 ^ 40) {K : Value → GH → Prop} (hk : K (.bool (!decide (v ∈ xs))) G) :
    GC Tryz.prog 190 [.int .i64 v, .pointer q] G K := by
  refine c_impl_hasColumns_fn1_i (by simp) ?_
  have hs := rd_some hq
  simp (maxSteps := 300000) (disch := omega) only [gs, gs2, gs3, gs4, ↓reduceIte, Nat.reduceEqDiff, Int.reduceToNat, Nat.reduceMul, Nat.reduceAdd, Nat.reduceBEq, isLd, hq, pa_zero]
  refine slices_Contains_ok h hl fun b hb => ?_
  have : b = decide (v ∈ xs) := Bool.eq_iff_iff.2 (by rw [hb, decide_eq_true_eq])
  subst this
  simp (maxSteps := 300000) (disch := omega) only [gs, gs2, gs3, gs4, ↓reduceIte, Nat.reduceEqDiff, Int.reduceToNat, Nat.reduceMul, Nat.reduceAdd, Nat.reduceBEq, isLd]
  exact hk
theorem impl_hasColumns_ok {G : GH} {t : Tab} {A B W : Option Addr} {c d w : Nat} {ws : List Int} (h : IntS G A c t.cols) (hw : IntS G W w ws) (hl : t.cols.length < 2 ^ 30) (hl' : ws.length < 2 ^ 30) {K : Value → GH → Prop}
    (hk : ∀ z : Bool, (z = true ↔ ∀ v ∈ ws, v ∈ t.cols) → K (.bool z) G) : GC Tryz.prog 111 [tabV t A c B d, .slice W ws.length w] G K := by
  refine GC_drop (c_impl_hasColumns_i (by simp) ?_)
  unfold tabV tabC
  simp (maxSteps := 300000) (disch := omega) only [gs, gs2, gs3, gs4, ↓reduceIte, Nat.reduceEqDiff, Int.reduceToNat, Nat.reduceMul, Nat.reduceAdd, Nat.reduceBEq, isLd]
  intro b2 hb2
  have s2 := Sub.put hb2 ⟨[.slice A t.cols.length c, .slice B t.rows.length d], true⟩
  have f2 : rd (put G b2 ⟨[.slice A t.cols.length c, .slice B t.rows.length d], true⟩) (some ⟨b2, 0, none⟩) = some (.slice A t.cols.length c) := rd_box _ _ _ 0 _ rfl
  revert s2 f2
  generalize put G b2 ⟨[.slice A t.cols.length c, .slice B t.rows.length d], true⟩ = G1
  intro s2 f2
  simp (maxSteps := 300000) (disch := omega) only [gs, gs2, gs3, gs4, ↓reduceIte, Nat.reduceEqDiff, Int.reduceToNat, Nat.reduceMul, Nat.reduceAdd, Nat.reduceBEq, isLd]
  refine slices_ContainsFunc_ok (fun v => !decide (v ∈ t.cols)) (hw.sub s2) (by omega) (fun i hi K' hK' => ?_) ?_
  · simp (maxSteps := 300000) (disch := omega) only [gs, gs2, gs3, gs4, ↓reduceIte, Nat.reduceEqDiff, Int.reduceToNat, Nat.reduceMul, Nat.reduceAdd, Nat.reduceBEq, isLd]
    exact impl_hasColumns_fn1_ok f2 (h.sub s2) (by omega) hK'
  · generalize hany : (ws.any fun v => !decide (v ∈ t.cols)) = bb
    simp (maxSteps := 300000) (disch := omega) only [gs, gs2, gs3, gs4, ↓reduceIte, Nat.reduceEqDiff, Int.reduceToNat, Nat.reduceMul, Nat.reduceAdd, Nat.reduceBEq, isLd]
    refine ⟨G, s2, hk _ ?_⟩
    cases bb
    · rw [List.any_eq_false] at hany
      simp
      exact fun x hx => by simpa using hany x hx
    · rw [List.any_eq_true] at hany
      obtain ⟨x, hx, hy⟩ := hany
      simp
      exact ⟨x, hx, by simpa using hy⟩
theorem impl_ProjectTable_ok {G : GH} {t : Tab} {A B W : Option Addr} {c d w : Nat} {hs : Nat → Option Addr × Nat} {ws : List Int} (h : IntS G A c t.cols) (hr : RowS G B d hs t.rows) (hw : IntS G W w ws) (hl : t.cols.length < 2 ^ 40) (ht : Sh t.rows) (hl' : ws.length < 2 ^ 30)
    {K : Value → GH → Prop} (hk : TI (projV t ws) K G) : GC Tryz.prog 47 [tabV t A c B d, .slice W ws.length w] G K := by
  refine GC_drop (c_impl_ProjectTable_i (by simp) ?_)
  have fb : ∀ {G' : GH} {q : Nat} {N : Tab} {A B : Option Addr} {c d : Nat} {hs : Nat → Option Addr × Nat}, TabP G' (some ⟨q, 0, none⟩) N A c B d hs → rd G' (some ⟨q, 1, none⟩) = some (.slice B N.rows.length d) := fun h => by
    have := h.f1; rwa [pa_mk] at this
  unfold tabV tabC
  simp (maxSteps := 300000) (disch := omega) only [gs, gs2, gs3, gs4, ↓reduceIte, Nat.reduceEqDiff, Int.reduceToNat, Nat.reduceMul, Nat.reduceAdd, Nat.reduceBEq, isLd]
  intro b2 hb2
  have p2 := TabP.box hb2 h hr
  have s2 := Sub.put hb2 ⟨tabC t A c B d, true⟩
  unfold tabC at p2 s2
  have hw2 := hw.sub s2
  revert s2 p2 hw2
  generalize put G b2 ⟨[.slice A t.cols.length c, .slice B t.rows.length d], true⟩ = G1
  intro p2 s1 hw2
  clear hb2
  simp (maxSteps := 300000) (disch := omega) only [gs, gs2, gs3, gs4, ↓reduceIte, Nat.reduceEqDiff, Int.reduceToNat, Nat.reduceMul, Nat.reduceAdd, Nat.reduceBEq, isLd]
  intro b4 hb4
  have s4 := Sub.put hb4 ⟨[.slice none 0 0, .slice none 0 0], true⟩
  have g4 := put_same G1 b4 ⟨[.slice none 0 0, .slice none 0 0], true⟩
  have p2 := p2.sub s4
  have hw2 := hw2.sub s4
  have s1' := s1.trans s4
  have n4 : G b4 = none := s1.none hb4
  revert s1' p2 hw2 g4
  generalize put G1 b4 ⟨[.slice none 0 0, .slice none 0 0], true⟩ = G2
  intro g4 p2 hw2 s1'
  clear s4
  have k0 : ∀ {G' : GH} {x y : Value}, rd (put G' b4 ⟨[x, y], true⟩) (some ⟨b4, 0, none⟩) = some x := rd_box _ _ _ 0 _ rfl
  have k1 : ∀ {G' : GH} {x y : Value}, rd (put G' b4 ⟨[x, y], true⟩) (some ⟨b4, 1, none⟩) = some y := rd_box _ _ _ 1 _ rfl
  have hbz : bldV [Value.slice none 0 0, Value.slice none 0 0] [] = some [Value.slice none 0 0, Value.slice none 0 0] := rfl
  simp (maxSteps := 300000) (disch := omega) only [gs, gs2, gs3, gs4, ↓reduceIte, Nat.reduceEqDiff, Int.reduceToNat, Nat.reduceMul, Nat.reduceAdd, Nat.reduceBEq, isLd, p2.f0, fb p2]
  refine impl_ValidTable_ok p2.cols p2.rows hl ht fun z hz => ?_
  cases z
  · simp (maxSteps := 300000) (disch := omega) only [gs, gs2, gs3, gs4, ↓reduceIte, Nat.reduceEqDiff, Int.reduceToNat, Nat.reduceMul, Nat.reduceAdd, Nat.reduceBEq, isLd, p2.f0, fb p2, hbz]
    refine st_many (vs := [.slice none 0 0, .slice none 0 0]) rfl g4 rfl (by simp) (by intro v hv; simp at hv; subst hv; rfl) ?_
    simp only [over, List.set_cons_zero, List.set_cons_succ]
    simp (maxSteps := 300000) (disch := omega) only [gs, gs2, gs3, gs4, ↓reduceIte, Nat.reduceEqDiff, Int.reduceToNat, Nat.reduceMul, Nat.reduceAdd, Nat.reduceBEq, isLd, k0, k1]
    rw [projV_no fun y => by have := hz.2 y; cases this] at hk
    exact ⟨G, s1'.skip n4, hk _ _ _ _ _ _ (NewT.nil G fun _ => (none, 0))⟩
  have hot := hz.1 rfl
  obtain ⟨rt, ct, nt⟩ := hot.rowL
  simp (maxSteps := 300000) (disch := omega) only [gs, gs2, gs3, gs4, ↓reduceIte, Nat.reduceEqDiff, Int.reduceToNat, Nat.reduceMul, Nat.reduceAdd, Nat.reduceBEq, isLd, p2.f0, fb p2]
  refine impl_isRising_ok hw2 (by omega) fun z hz => ?_
  cases z
  · simp (maxSteps := 300000) (disch := omega) only [gs, gs2, gs3, gs4, ↓reduceIte, Nat.reduceEqDiff, Int.reduceToNat, Nat.reduceMul, Nat.reduceAdd, Nat.reduceBEq, isLd, p2.f0, fb p2, hbz]
    refine st_many (vs := [.slice none 0 0, .slice none 0 0]) rfl g4 rfl (by simp) (by intro v hv; simp at hv; subst hv; rfl) ?_
    simp only [over, List.set_cons_zero, List.set_cons_succ]
    simp (maxSteps := 300000) (disch := omega) only [gs, gs2, gs3, gs4, ↓reduceIte, Nat.reduceEqDiff, Int.reduceToNat, Nat.reduceMul, Nat.reduceAdd, Nat.reduceBEq, isLd, k0, k1]
    rw [projV_off hot fun y => by have := hz.2 y.1; cases this] at hk
    exact ⟨G, s1'.skip n4, hk _ _ _ _ _ _ (NewT.nil G fun _ => (none, 0))⟩
  have hrise := hz.1 rfl
  simp (maxSteps := 300000) (disch := omega) only [gs, gs2, gs3, gs4, ↓reduceIte, Nat.reduceEqDiff, Int.reduceToNat, Nat.reduceMul, Nat.reduceAdd, Nat.reduceBEq, isLd, p2.f0, fb p2]
  refine impl_hasColumns_ok p2.cols hw2 (by omega) hl' fun z hz => ?_
  cases z
  · simp (maxSteps := 300000) (disch := omega) only [gs, gs2, gs3, gs4, ↓reduceIte, Nat.reduceEqDiff, Int.reduceToNat, Nat.reduceMul, Nat.reduceAdd, Nat.reduceBEq, isLd, p2.f0, fb p2, hbz]
    refine st_many (vs := [.slice none 0 0, .slice none 0 0]) rfl g4 rfl (by simp) (by intro v hv; simp at hv; subst hv; rfl) ?_
    simp only [over, List.set_cons_zero, List.set_cons_succ]
    simp (maxSteps := 300000) (disch := omega) only [gs, gs2, gs3, gs4, ↓reduceIte, Nat.reduceEqDiff, Int.reduceToNat, Nat.reduceMul, Nat.reduceAdd, Nat.reduceBEq, isLd, k0, k1]
    rw [projV_off hot fun y => by have := hz.2 y.2; cases this] at hk
    exact ⟨G, s1'.skip n4, hk _ _ _ _ _ _ (NewT.nil G fun _ => (none, 0))⟩
  have hmem := hz.1 rfl
  rw [projV_yes hot ⟨hrise, hmem⟩] at hk
  simp (maxSteps := 300000) (disch := omega) only [gs, gs2, gs3, gs4, ↓reduceIte, Nat.reduceEqDiff, Int.reduceToNat, Nat.reduceMul, Nat.reduceAdd, Nat.reduceBEq, isLd, p2.f0, fb p2]
  refine impl_projected_ok p2.cols p2.rows hw2 hmem (by omega) hl' rt (by omega) fun G' X x Y y hs'' hN => ?_
  unfold tabV tabC
  simp (maxSteps := 300000) (disch := omega) only [gs, gs2, gs3, gs4, ↓reduceIte, Nat.reduceEqDiff, Int.reduceToNat, Nat.reduceMul, Nat.reduceAdd, Nat.reduceBEq, isLd]
  refine st_many (vs := [.slice X (projT t ws).cols.length x, .slice Y (projT t ws).rows.length y]) rfl (hN.sub _ _ g4) rfl (by simp) (by intro v hv; simp at hv; rcases hv with rfl | rfl <;> rfl) ?_
  simp only [over, List.set_cons_zero, List.set_cons_succ]
  simp (maxSteps := 300000) (disch := omega) only [gs, gs2, gs3, gs4, ↓reduceIte, Nat.reduceEqDiff, Int.reduceToNat, Nat.reduceMul, Nat.reduceAdd, Nat.reduceBEq, isLd, k0, k1]
  exact ⟨_, Sub.refl _, hk _ _ _ _ _ _ (hN.low s1' ((s1'.trans hN.sub).skip n4) (Oth.put _ _ _) fun x hx => by subst hx; rw [g4]; simp)⟩
def jcols (a b : Tab) : List Int := uniL a.cols b.cols
def joinRow (a b : Tab) (x y : List Int) : List Int := (jcols a b).map (cellAt (a.cols ++ b.cols) (x ++ y))
open Classical in
noncomputable def joinP (a b : Tab) (x : List Int) (ys : List (List Int)) : List (List Int) := (ys.filter fun y => decide (FitP a.cols b.cols x y)).map (joinRow a b x)
noncomputable def joinR (a b : Tab) (xs : List (List Int)) : List (List Int) := xs.flatMap fun x => joinP a b x b.rows
noncomputable def joinT (a b : Tab) : Tab := ⟨jcols a b, srt (joinR a b a.rows)⟩
open Classical in
noncomputable def joinV (a b : Tab) : Tab × Int := if TabOk a ∧ TabOk b then (if 24 < (joinR a b a.rows).length then (⟨[], []⟩, 5) else (joinT a b, 0)) else (⟨[], []⟩, 1)
theorem joinV_no {a b : Tab} (h : ¬ (TabOk a ∧ TabOk b)) : joinV a b = (⟨[], []⟩, 1) := by unfold joinV; rw [if_neg h]
theorem joinV_full {a b : Tab} (h : TabOk a ∧ TabOk b) (k : 24 < (joinR a b a.rows).length) : joinV a b = (⟨[], []⟩, 5) := by unfold joinV; rw [if_pos h, if_pos k]
theorem joinV_yes {a b : Tab} (h : TabOk a ∧ TabOk b) (k : ¬ 24 < (joinR a b a.rows).length) : joinV a b = (joinT a b, 0) := by unfold joinV; rw [if_pos h, if_neg k]
theorem joinRow_len (a b : Tab) (x y : List Int) : (joinRow a b x y).length = (jcols a b).length := by simp [joinRow]
theorem joinP_snoc {a b : Tab} {x : List Int} {k : Nat} (hk : k < b.rows.length) : (FitP a.cols b.cols x (b.rows.getD k []) → joinP a b x (b.rows.take (k + 1)) = joinP a b x (b.rows.take k) ++ [joinRow a b x (b.rows.getD k [])]) ∧ (¬ FitP a.cols b.cols x (b.rows.getD k []) → joinP a b x (b.rows.take (k + 1)) = joinP a b x (b.rows.take k)) := by
  unfold joinP
  rw [takeL hk, List.filter_append, List.map_append]
  generalize b.rows.getD k [] = r
  constructor
  · intro h; simp [h]
  · intro h; simp [h]
theorem joinR_snoc {a b : Tab} {k : Nat} (hk : k < a.rows.length) : joinR a b (a.rows.take (k + 1)) = joinR a b (a.rows.take k) ++ joinP a b (a.rows.getD k []) b.rows := by
  unfold joinR
  rw [takeL hk, List.flatMap_append]; simp
theorem joinP_len (a b : Tab) (x : List Int) (ys : List (List Int)) : (joinP a b x ys).length ≤ ys.length := by
  unfold joinP; rw [List.length_map]; exact List.length_filter_le _ _
theorem joinR_len (a b : Tab) (xs : List (List Int)) : (joinR a b xs).length ≤ xs.length * b.rows.length := by
  induction xs with
  | nil => simp [joinR]
  | cons x xs ih =>
    have h1 := joinP_len a b x b.rows
    have : joinR a b (x :: xs) = joinP a b x b.rows ++ joinR a b xs := by simp [joinR]
    rw [this, List.length_append, List.length_cons, Nat.add_mul, Nat.one_mul]; omega
theorem joinP_row {a b : Tab} {x r : List Int} {ys : List (List Int)} (h : r ∈ joinP a b x ys) : r.length = (jcols a b).length := by
  unfold joinP at h
  obtain ⟨y, _, rfl⟩ := List.mem_map.1 h
  exact joinRow_len _ _ _ _
theorem joinR_row {a b : Tab} {r : List Int} {xs : List (List Int)} (h : r ∈ joinR a b xs) : r.length = (jcols a b).length := by
  unfold joinR at h
  obtain ⟨x, _, hx⟩ := List.mem_flatMap.1 h
  exact joinP_row hx
theorem rowS_two {G : GH} {b : Nat} {A B : Option Addr} {c d : Nat} {x y : List Int} (hx : IntS G A c x) (hy : IntS G B d y) (hb : G b = some ⟨[.slice A x.length c, .slice B y.length d], true⟩) :
    RowS G (some ⟨b, 0, none⟩) 2 (fun i => if i = 0 then (A, c) else (B, d)) [x, y] := by
  refine ⟨Nat.le_refl _, fun i hi => ?_, fun i hi => ?_⟩
  · have : i = 0 ∨ i = 1 := by simp at hi; omega
    rcases this with rfl | rfl
    · rw [pa_mk]; simp only [rd, hb]; rfl
    · rw [pa_mk]; simp only [rd, hb]; rfl
  · have : i = 0 ∨ i = 1 := by simp at hi; omega
    rcases this with rfl | rfl
    · exact hx
    · exact hy
theorem tabsS_two {G : GH} {q : Nat} {a b : Tab} {A B A' B' : Option Addr} {c d c' d' : Nat} {hs hs' : Nat → Option Addr × Nat} (ha : IntS G A c a.cols) (ra : RowS G B d hs a.rows) (hb : IntS G A' c' b.cols) (rb : RowS G B' d' hs' b.rows)
    (hq : G q = some ⟨[.slice A a.cols.length c, .slice B a.rows.length d, .slice A' b.cols.length c', .slice B' b.rows.length d'], true⟩) :
    TabsS G (some ⟨q, 0, none⟩) 2 (fun i => if i = 0 then ⟨A, c, B, d, hs⟩ else ⟨A', c', B', d', hs'⟩) [a, b] := by
  refine ⟨Nat.le_refl _, fun i hi => ?_, fun i hi => ?_, fun i hi => ?_, fun i hi => ?_⟩ <;>
  · have : i = 0 ∨ i = 1 := by simp at hi; omega
    rcases this with rfl | rfl <;> first | (rw [pa_mk]; simp only [rd, hq]; rfl) | assumption
theorem jcols_mem {a b : Tab} (ha : Rise a.cols) : ∀ v ∈ jcols a b, v ∈ a.cols ++ b.cols := fun v hv => by
  rw [List.mem_append]
  exact ((uniL_spec b.cols (riseP.1 ha)).2.1 v).1 hv
theorem jcols_len {a b : Tab} (ha : Rise a.cols) : (jcols a b).length ≤ a.cols.length + b.cols.length := (uniL_spec b.cols (riseP.1 ha)).2.2
theorem impl_JoinTables_ok {G : GH} {a b : Tab} {A B A' B' : Option Addr} {c d c' d' : Nat} {hs hs' : Nat → Option Addr × Nat} (h : IntS G A c a.cols) (hr : RowS G B d hs a.rows) (h' : IntS G A' c' b.cols) (hr' : RowS G B' d' hs' b.rows) (hl : a.cols.length < 2 ^ 40) (hl' : b.cols.length < 2 ^ 40) (ha : Sh a.rows) (hb : Sh b.rows)
    {K : Value → GH → Prop} (hk : TI (joinV a b) K G) : GC Tryz.prog 45 [tabV a A c B d, tabV b A' c' B' d'] G K := by
  refine GC_drop (c_impl_JoinTables_i (by simp) ?_)
  have fb : ∀ {G' : GH} {q : Nat} {N : Tab} {A B : Option Addr} {c d : Nat} {hs : Nat → Option Addr × Nat}, TabP G' (some ⟨q, 0, none⟩) N A c B d hs → rd G' (some ⟨q, 1, none⟩) = some (.slice B N.rows.length d) := fun h => by
    have := h.f1; rwa [pa_mk] at this
  have one2 : ∀ {X Y : Option Addr} {a b x y : Nat}, ∀ v ∈ [Value.slice X a x, Value.slice Y b y], oneB v = true := fun v hv => by simp at hv; rcases hv with rfl | rfl <;> rfl
  unfold tabV tabC
  simp (maxSteps := 300000) (disch := omega) only [gs, gs2, gs3, gs4, ↓reduceIte, Nat.reduceEqDiff, Int.reduceToNat, Nat.reduceMul, Nat.reduceAdd, Nat.reduceBEq, isLd]
  intro b2 hb2
  have p2 := TabP.box hb2 h hr
  have s2 := Sub.put hb2 ⟨tabC a A c B d, true⟩
  unfold tabC at p2 s2
  simp (maxSteps := 300000) (disch := omega) only [gs, gs2, gs3, gs4, ↓reduceIte, Nat.reduceEqDiff, Int.reduceToNat, Nat.reduceMul, Nat.reduceAdd, Nat.reduceBEq, isLd]
  intro b3 hb3
  have p3 := TabP.box hb3 (h'.sub s2) (hr'.sub s2)
  have s3 := Sub.put hb3 ⟨tabC b A' c' B' d', true⟩
  unfold tabC at p3 s3
  have p2 := p2.sub s3
  have s1 := s2.trans s3
  revert s1 p2 p3
  generalize put (put G b2 ⟨[.slice A a.cols.length c, .slice B a.rows.length d], true⟩) b3 ⟨[.slice A' b.cols.length c', .slice B' b.rows.length d'], true⟩ = G1
  intro p3 p2 s1
  clear hb2 hb3 s2 s3
  simp (maxSteps := 300000) (disch := omega) only [gs, gs2, gs3, gs4, ↓reduceIte, Nat.reduceEqDiff, Int.reduceToNat, Nat.reduceMul, Nat.reduceAdd, Nat.reduceBEq, isLd]
  intro b4 hb4
  have s4 := Sub.put hb4 ⟨[.slice none 0 0, .slice none 0 0], true⟩
  have g4 := put_same G1 b4 ⟨[.slice none 0 0, .slice none 0 0], true⟩
  have p2 := p2.sub s4
  have p3 := p3.sub s4
  have s1' := s1.trans s4
  have n4 : G b4 = none := s1.none hb4
  revert s1' p2 p3 g4
  generalize put G1 b4 ⟨[.slice none 0 0, .slice none 0 0], true⟩ = G2
  intro g4 p2 p3 s1'
  clear s4
  have k0 : ∀ {G' : GH} {x y : Value}, rd (put G' b4 ⟨[x, y], true⟩) (some ⟨b4, 0, none⟩) = some x := rd_box _ _ _ 0 _ rfl
  have k1 : ∀ {G' : GH} {x y : Value}, rd (put G' b4 ⟨[x, y], true⟩) (some ⟨b4, 1, none⟩) = some y := rd_box _ _ _ 1 _ rfl
  have hbz : bldV [Value.slice none 0 0, Value.slice none 0 0] [] = some [Value.slice none 0 0, Value.slice none 0 0] := rfl
  simp (maxSteps := 300000) (disch := omega) only [gs, gs2, gs3, gs4, ↓reduceIte, Nat.reduceEqDiff, Int.reduceToNat, Nat.reduceMul, Nat.reduceAdd, Nat.reduceBEq, isLd, p2.f0, fb p2]
  refine impl_ValidTable_ok p2.cols p2.rows hl ha fun z hz => ?_
  cases z
  · simp (maxSteps := 300000) (disch := omega) only [gs, gs2, gs3, gs4, ↓reduceIte, Nat.reduceEqDiff, Int.reduceToNat, Nat.reduceMul, Nat.reduceAdd, Nat.reduceBEq, isLd, p2.f0, fb p2, hbz]
    refine st_many (vs := [.slice none 0 0, .slice none 0 0]) rfl g4 rfl (by simp) (by intro v hv; simp at hv; subst hv; rfl) ?_
    simp only [over, List.set_cons_zero, List.set_cons_succ]
    simp (maxSteps := 300000) (disch := omega) only [gs, gs2, gs3, gs4, ↓reduceIte, Nat.reduceEqDiff, Int.reduceToNat, Nat.reduceMul, Nat.reduceAdd, Nat.reduceBEq, isLd, k0, k1]
    have hno : ¬ (TabOk a ∧ TabOk b) := fun y => by have := hz.2 y.1; simp at this
    rw [joinV_no hno] at hk
    exact ⟨G, s1'.skip n4, hk _ _ _ _ _ _ (NewT.nil G fun _ => (none, 0))⟩
  have hoa := hz.1 rfl
  simp (maxSteps := 300000) (disch := omega) only [gs, gs2, gs3, gs4, ↓reduceIte, Nat.reduceEqDiff, Int.reduceToNat, Nat.reduceMul, Nat.reduceAdd, Nat.reduceBEq, isLd, p2.f0, fb p2, p3.f0, fb p3]
  refine impl_ValidTable_ok p3.cols p3.rows hl' hb fun z hz => ?_
  cases z
  · simp (maxSteps := 300000) (disch := omega) only [gs, gs2, gs3, gs4, ↓reduceIte, Nat.reduceEqDiff, Int.reduceToNat, Nat.reduceMul, Nat.reduceAdd, Nat.reduceBEq, isLd, p2.f0, fb p2, hbz]
    refine st_many (vs := [.slice none 0 0, .slice none 0 0]) rfl g4 rfl (by simp) (by intro v hv; simp at hv; subst hv; rfl) ?_
    simp only [over, List.set_cons_zero, List.set_cons_succ]
    simp (maxSteps := 300000) (disch := omega) only [gs, gs2, gs3, gs4, ↓reduceIte, Nat.reduceEqDiff, Int.reduceToNat, Nat.reduceMul, Nat.reduceAdd, Nat.reduceBEq, isLd, k0, k1]
    have hno : ¬ (TabOk a ∧ TabOk b) := fun y => by have := hz.2 y.2; simp at this
    rw [joinV_no hno] at hk
    exact ⟨G, s1'.skip n4, hk _ _ _ _ _ _ (NewT.nil G fun _ => (none, 0))⟩
  have hob := hz.1 rfl
  obtain ⟨ra, ca, na⟩ := hoa.rowL
  obtain ⟨rb, cb, nb⟩ := hob.rowL
  have hjl := jcols_len (b := b) hoa.1
  have hjm := jcols_mem (b := b) hoa.1
  simp (maxSteps := 300000) (disch := omega) only [gs, gs2, gs3, gs4, ↓reduceIte, Nat.reduceEqDiff, Int.reduceToNat, Nat.reduceMul, Nat.reduceAdd, Nat.reduceBEq, isLd, p2.f0, fb p2, p3.f0, fb p3, gBs]
  refine ⟨fun v hv => (by simp at hv; rcases hv with rfl | rfl <;> rfl), fun bs hbs => ?_⟩
  have ss := Sub.put hbs ⟨[.slice A a.cols.length c, .slice B a.rows.length d, .slice A' b.cols.length c', .slice B' b.rows.length d'], true⟩
  have tt2 := tabsS_two (p2.cols.sub ss) (p2.rows.sub ss) (p3.cols.sub ss) (p3.rows.sub ss) (put_same _ _ _)
  have p2 := p2.sub ss
  have p3 := p3.sub ss
  have g4 := ss _ _ g4
  have s1' := s1'.trans ss
  have e0 : (put G2 bs ⟨List.flatMap (fun v : Value => v.cells.toList) [Value.agg [.slice A a.cols.length c, .slice B a.rows.length d].toArray, Value.agg [.slice A' b.cols.length c', .slice B' b.rows.length d'].toArray], true⟩) = put G2 bs ⟨[.slice A a.cols.length c, .slice B a.rows.length d, .slice A' b.cols.length c', .slice B' b.rows.length d'], true⟩ := rfl
  try rw [e0]
  revert tt2 p2 p3 g4 s1'
  generalize put G2 bs ⟨[.slice A a.cols.length c, .slice B a.rows.length d, .slice A' b.cols.length c', .slice B' b.rows.length d'], true⟩ = G3
  intro tt2 p2 p3 g4 s1'
  clear ss hbs
  have hcl : colsL [a, b] = a.cols ++ b.cols := by simp [colsL]
  refine impl_allColumns_ok tt2 (by simp) (by rw [hcl, List.length_append]; omega) fun H A1 c1 hN1 => ?_
  rw [hcl, ord_uni hoa.1] at hN1 ⊢
  have ejc : uniL a.cols b.cols = jcols a b := rfl
  rw [ejc] at hN1 ⊢
  have p2 := p2.sub hN1.sub
  have p3 := p3.sub hN1.sub
  have g4' := hN1.sub _ _ g4
  have hbl : bldV [Value.slice none 0 0, Value.slice none 0 0] [(0, 1, Value.slice A1 (jcols a b).length c1)] = some [Value.slice A1 (jcols a b).length c1, .slice none 0 0] := rfl
  simp (maxSteps := 300000) (disch := omega) only [gs, gs2, gs3, gs4, ↓reduceIte, Nat.reduceEqDiff, Int.reduceToNat, Nat.reduceMul, Nat.reduceAdd, Nat.reduceBEq, isLd, hbl]
  intro b5 hb5
  simp (maxSteps := 300000) (disch := omega) only [gs, gs2, gs3, gs4, ↓reduceIte, Nat.reduceEqDiff, Int.reduceToNat, Nat.reduceMul, Nat.reduceAdd, Nat.reduceBEq, isLd]
  refine st_fresh (vs := [.slice A1 (jcols a b).length c1, .slice none 0 0]) rfl rfl rfl one2 ?_
  have hX0 : SemG H (put H b5 ⟨[.slice A1 (jcols a b).length c1, .slice none 0 0], true⟩) b5 A1 (jcols a b).length c1 none 0 (fun _ => (none, 0)) [] := ⟨hb5, Sub.refl _, OwnR.nil _ _, Off.nil _, fun i hi => by simp at hi⟩
  have sH := s1'.trans hN1.sub
  have hA1 : Own H A1 c1 ((jcols a b).map I64) 1 (jcols a b).length := hN1.fresh
  have oA1 : Off G A1 := hN1.off.mono s1'
  have n41 : ∀ x, A1 = some x → x.block ≠ b4 := fun x hx y => by have := hN1.off x hx; rw [y, g4] at this; cases this
  have iA1 := hN1.ints
  clear hN1 g4 tt2
  generalize put H b5 ⟨[.slice A1 (jcols a b).length c1, .slice none 0 0], true⟩ = G4 at hX0 ⊢
  have q2 := p2.sub hX0.low
  have q3 := p3.sub hX0.low
  have hs2 := rd_some q2.f0
  simp (maxSteps := 300000) (disch := omega) only [gs, gs2, gs3, gs4, ↓reduceIte, Nat.reduceEqDiff, Int.reduceToNat, Nat.reduceMul, Nat.reduceAdd, Nat.reduceBEq, isLd, q2.f0, q3.f0, gBs]
  refine ⟨fun v hv => (by simp at hv; rcases hv with rfl | rfl <;> rfl), fun bt hbt => ?_⟩
  have st := Sub.put hbt ⟨[.slice A a.cols.length c, .slice A' b.cols.length c'], true⟩
  have e1 : (put G4 bt ⟨List.flatMap (fun v : Value => v.cells.toList) [Value.slice A a.cols.length c, Value.slice A' b.cols.length c'], true⟩) = put G4 bt ⟨[.slice A a.cols.length c, .slice A' b.cols.length c'], true⟩ := rfl
  try rw [e1]
  refine ConcatR_ok (rowS_two (q2.cols.sub st) (q3.cols.sub st) (put_same _ _ _)) (by simp) (by simp; omega) fun Gb D e hD => ?_
  have hfl : ([a.cols, b.cols] : List (List Int)).flatten = a.cols ++ b.cols := by simp
  rw [hfl] at hD ⊢
  have hX1 := hX0.up (st.trans hD.sub)
  have nD : ∀ x y, D = some x → (some ⟨b5, 0, none⟩ : Option Addr) = some y → x.block ≠ y.block := fun x y hx hy q => by
    cases hy
    have := hD.off x hx
    rw [q, st _ _ (hX0.sub _ _ (put_same _ _ _))] at this; cases this
  have hHH : Sub H (wz Gb (some ⟨b5, 0, none⟩)) := fun y f hy => by
    rw [wz_ne fun x hx => by cases hx; exact fun q => by rw [← q] at hy; rw [hX0.nb] at hy; cases hy]
    exact hX1.low _ _ hy
  have iD : IntS (wz Gb (some ⟨b5, 0, none⟩)) D e (a.cols ++ b.cols) := (hD.fresh.wz nD).ints
  have hX1 : SemG (wz Gb (some ⟨b5, 0, none⟩)) Gb b5 A1 (jcols a b).length c1 none 0 (fun _ => (none, 0)) [] := by
    refine ⟨Off.wz Gb _ _ rfl, fun y f hy => ?_, OwnR.nil _ _, Off.nil _, fun i hi => by simp at hi⟩
    by_cases q : y = b5
    · subst q
      rw [put_same] at hy
      rw [← hy]
      exact hX1.sub _ _ (put_same _ _ _)
    · rw [put_ne _ _ q] at hy
      exact Sub.wz _ _ _ _ hy
  have p2 := p2.sub hHH
  have p3 := p3.sub hHH
  have sH := sH.trans hHH
  have hA1 := hA1.sub hHH
  have iA1 := iA1.sub hHH
  have g4' := hHH _ _ g4'
  revert iD hX1 p2 p3 sH hA1 iA1 g4'
  generalize wz Gb (some ⟨b5, 0, none⟩) = H2
  intro iD hX1 p2 p3 sH hA1 iA1 g4'
  clear hX0 hbt st hD q2 q3 nD hHH hb5
  have q2 := p2.sub hX1.low
  have q3 := p3.sub hX1.low
  simp (maxSteps := 300000) (disch := omega) only [gs, gs2, gs3, gs4, ↓reduceIte, Nat.reduceEqDiff, Int.reduceToNat, Nat.reduceMul, Nat.reduceAdd, Nat.reduceBEq, isLd, q2.f0, fb q2]
  refine gLoop_intro (fun m T G' => ∃ (k : Nat) (Z : Option Addr) (z : Nat) (hz : Nat → Option Addr × Nat), T 2 = .pointer (some ⟨b2, 0, none⟩) ∧ T 3 = .pointer (some ⟨b3, 0, none⟩) ∧ T 4 = .pointer (some ⟨b4, 0, none⟩) ∧ T 6 = .pointer (some ⟨b5, 0, none⟩) ∧ T 7 = .slice D (a.cols ++ b.cols).length e ∧ T 33 = .slice B a.rows.length d ∧ T 34 = .int .i64 a.rows.length ∧ T 35 = .int .i64 k ∧ m + k = a.rows.length ∧ k ≤ a.rows.length ∧ SemG H2 G' b5 A1 (jcols a b).length c1 Z z hz (joinR a b (a.rows.take k))) a.rows.length
    ⟨0, none, 0, _, by simp (maxSteps := 300000) (disch := omega) only [gs, gs2, gs3, gs4, ↓reduceIte, Nat.reduceEqDiff, Int.reduceToNat, Nat.reduceMul, Nat.reduceAdd, Nat.reduceBEq, isLd], by simp (maxSteps := 300000) (disch := omega) only [gs, gs2, gs3, gs4, ↓reduceIte, Nat.reduceEqDiff, Int.reduceToNat, Nat.reduceMul, Nat.reduceAdd, Nat.reduceBEq, isLd], by simp (maxSteps := 300000) (disch := omega) only [gs, gs2, gs3, gs4, ↓reduceIte, Nat.reduceEqDiff, Int.reduceToNat, Nat.reduceMul, Nat.reduceAdd, Nat.reduceBEq, isLd], by simp (maxSteps := 300000) (disch := omega) only [gs, gs2, gs3, gs4, ↓reduceIte, Nat.reduceEqDiff, Int.reduceToNat, Nat.reduceMul, Nat.reduceAdd, Nat.reduceBEq, isLd], by simp (maxSteps := 300000) (disch := omega) only [gs, gs2, gs3, gs4, ↓reduceIte, Nat.reduceEqDiff, Int.reduceToNat, Nat.reduceMul, Nat.reduceAdd, Nat.reduceBEq, isLd], by simp (maxSteps := 300000) (disch := omega) only [gs, gs2, gs3, gs4, ↓reduceIte, Nat.reduceEqDiff, Int.reduceToNat, Nat.reduceMul, Nat.reduceAdd, Nat.reduceBEq, isLd], by simp (maxSteps := 300000) (disch := omega) only [gs, gs2, gs3, gs4, ↓reduceIte, Nat.reduceEqDiff, Int.reduceToNat, Nat.reduceMul, Nat.reduceAdd, Nat.reduceBEq, isLd], by simp (maxSteps := 300000) (disch := omega) only [gs, gs2, gs3, gs4, ↓reduceIte, Nat.reduceEqDiff, Int.reduceToNat, Nat.reduceMul, Nat.reduceAdd, Nat.reduceBEq, isLd] <;> rfl, by omega, by omega, hX1⟩ ?_
  clear hX1 q2 q3
  rintro m T G' ⟨k, Z, z, hz, e2, e3, e4, e6, e7, e33, e34, e35, hm, hkl, hX⟩
  simp (maxSteps := 300000) (disch := omega) only [gs, gs2, gs3, gs4, ↓reduceIte, Nat.reduceEqDiff, Int.reduceToNat, Nat.reduceMul, Nat.reduceAdd, Nat.reduceBEq, isLd, e2, e3, e4, e6, e7, e33, e34, e35]
  have hlenR : (joinR a b (a.rows.take k)).length ≤ k * 24 := Nat.le_trans (joinR_len _ _ _) (by rw [List.length_take]; exact Nat.mul_le_mul (Nat.min_le_left _ _) nb)
  by_cases hkk : (k : Int) < a.rows.length
  · have q2 := p2.sub hX.low
    have q3 := p3.sub hX.low
    have rk := q2.rows.r k (by omega)
    have hsB := q2.rows.sn (by omega)
    simp (maxSteps := 300000) (disch := omega) only [gs, gs2, gs3, gs4, ↓reduceIte, Nat.reduceEqDiff, Int.reduceToNat, Nat.reduceMul, Nat.reduceAdd, Nat.reduceBEq, isLd, e2, e3, e4, e6, e7, e33, e34, e35, hkk, rk, q3.f0, fb q3]
    refine gLoop_intro (fun m' T' G'' => ∃ (j : Nat) (Z : Option Addr) (z : Nat) (hz : Nat → Option Addr × Nat), T' 2 = .pointer (some ⟨b2, 0, none⟩) ∧ T' 3 = .pointer (some ⟨b3, 0, none⟩) ∧ T' 4 = .pointer (some ⟨b4, 0, none⟩) ∧ T' 6 = .pointer (some ⟨b5, 0, none⟩) ∧ T' 7 = .slice D (a.cols ++ b.cols).length e ∧ T' 9 = .slice (hs k).1 (a.rows.getD k []).length (hs k).2 ∧ T' 33 = .slice B a.rows.length d ∧ T' 34 = .int .i64 a.rows.length ∧ T' 35 = .int .i64 k ∧
        T' 40 = .slice B' b.rows.length d' ∧ T' 41 = .int .i64 b.rows.length ∧ T' 42 = .int .i64 j ∧ m' + j = b.rows.length ∧ j ≤ b.rows.length ∧ SemG H2 G'' b5 A1 (jcols a b).length c1 Z z hz (joinR a b (a.rows.take k) ++ joinP a b (a.rows.getD k []) (b.rows.take j))) b.rows.length
      ⟨0, Z, z, hz, by simp (maxSteps := 300000) (disch := omega) only [gs, gs2, gs3, gs4, ↓reduceIte, Nat.reduceEqDiff, Int.reduceToNat, Nat.reduceMul, Nat.reduceAdd, Nat.reduceBEq, isLd, e2], by simp (maxSteps := 300000) (disch := omega) only [gs, gs2, gs3, gs4, ↓reduceIte, Nat.reduceEqDiff, Int.reduceToNat, Nat.reduceMul, Nat.reduceAdd, Nat.reduceBEq, isLd, e3], by simp (maxSteps := 300000) (disch := omega) only [gs, gs2, gs3, gs4, ↓reduceIte, Nat.reduceEqDiff, Int.reduceToNat, Nat.reduceMul, Nat.reduceAdd, Nat.reduceBEq, isLd, e4], by simp (maxSteps := 300000) (disch := omega) only [gs, gs2, gs3, gs4, ↓reduceIte, Nat.reduceEqDiff, Int.reduceToNat, Nat.reduceMul, Nat.reduceAdd, Nat.reduceBEq, isLd, e6], by simp (maxSteps := 300000) (disch := omega) only [gs, gs2, gs3, gs4, ↓reduceIte, Nat.reduceEqDiff, Int.reduceToNat, Nat.reduceMul, Nat.reduceAdd, Nat.reduceBEq, isLd, e7], by simp (maxSteps := 300000) (disch := omega) only [gs, gs2, gs3, gs4, ↓reduceIte, Nat.reduceEqDiff, Int.reduceToNat, Nat.reduceMul, Nat.reduceAdd, Nat.reduceBEq, isLd], by simp (maxSteps := 300000) (disch := omega) only [gs, gs2, gs3, gs4, ↓reduceIte, Nat.reduceEqDiff, Int.reduceToNat, Nat.reduceMul, Nat.reduceAdd, Nat.reduceBEq, isLd, e33], by simp (maxSteps := 300000) (disch := omega) only [gs, gs2, gs3, gs4, ↓reduceIte, Nat.reduceEqDiff, Int.reduceToNat, Nat.reduceMul, Nat.reduceAdd, Nat.reduceBEq, isLd, e34], by simp (maxSteps := 300000) (disch := omega) only [gs, gs2, gs3, gs4, ↓reduceIte, Nat.reduceEqDiff, Int.reduceToNat, Nat.reduceMul, Nat.reduceAdd, Nat.reduceBEq, isLd, e35], by simp (maxSteps := 300000) (disch := omega) only [gs, gs2, gs3, gs4, ↓reduceIte, Nat.reduceEqDiff, Int.reduceToNat, Nat.reduceMul, Nat.reduceAdd, Nat.reduceBEq, isLd], by simp (maxSteps := 300000) (disch := omega) only [gs, gs2, gs3, gs4, ↓reduceIte, Nat.reduceEqDiff, Int.reduceToNat, Nat.reduceMul, Nat.reduceAdd, Nat.reduceBEq, isLd], by simp (maxSteps := 300000) (disch := omega) only [gs, gs2, gs3, gs4, ↓reduceIte, Nat.reduceEqDiff, Int.reduceToNat, Nat.reduceMul, Nat.reduceAdd, Nat.reduceBEq, isLd] <;> rfl, by omega, by omega, by rw [show joinP a b (a.rows.getD k []) (b.rows.take 0) = [] by simp [joinP], List.append_nil]; exact hX⟩ ?_
    clear e2 e3 e4 e6 e7 e33 e34 e35 hX q2 q3 rk hsB Z z hz
    rintro m' T' G'' ⟨j, Z, z, hz, e2, e3, e4, e6, e7, e9, e33, e34, e35, e40, e41, e42, hm', hjl, hX⟩
    simp (maxSteps := 300000) (disch := omega) only [gs, gs2, gs3, gs4, ↓reduceIte, Nat.reduceEqDiff, Int.reduceToNat, Nat.reduceMul, Nat.reduceAdd, Nat.reduceBEq, isLd, e2, e3, e4, e6, e7, e9, e33, e34, e35, e40, e41, e42]
    have hlenP := joinP_len a b (a.rows.getD k []) (b.rows.take j)
    rw [List.length_take] at hlenP
    have hlen : (joinR a b (a.rows.take k) ++ joinP a b (a.rows.getD k []) (b.rows.take j)).length < 2 ^ 20 := by rw [List.length_append]; omega
    by_cases hjj : (j : Int) < b.rows.length
    · have q2 := p2.sub hX.low
      have q3 := p3.sub hX.low
      have rj := q3.rows.r j (by omega)
      have hsB' := q3.rows.sn (by omega)
      have hxl := ra k (by omega)
      have hyl := rb j (by omega)
      have hps := joinP_snoc (a := a) (b := b) (x := a.rows.getD k []) (k := j) (by omega)
      simp (maxSteps := 300000) (disch := omega) only [gs, gs2, gs3, gs4, ↓reduceIte, Nat.reduceEqDiff, Int.reduceToNat, Nat.reduceMul, Nat.reduceAdd, Nat.reduceBEq, isLd, e2, e3, e4, e6, e7, e9, e33, e34, e35, e40, e41, e42, hjj, rj, q2.f0, fb q2, q3.f0, fb q3]
      refine impl_fit_ok (a := a) (b := b) q2.cols q3.cols (q2.rows.row k (by omega)) (q3.rows.row j (by omega)) (by omega) (by omega) hxl hyl fun w hw => ?_
      cases w
      · simp (maxSteps := 300000) (disch := omega) only [gs, gs2, gs3, gs4, ↓reduceIte, Nat.reduceEqDiff, Int.reduceToNat, Nat.reduceMul, Nat.reduceAdd, Nat.reduceBEq, isLd, e2, e3, e4, e6, e7, e9, e33, e34, e35, e40, e41, e42]
        refine ⟨m' - 1, by omega, G'', Sub.refl _, j + 1, Z, z, hz, rfl, by omega, by omega, ?_⟩
        rw [hps.2 fun y => by have := hw.2 y; cases this]; exact hX
      · have hX6 := rd_sub hX.sub (rd_box H2 b5 [.slice A1 (jcols a b).length c1, .slice Z (joinR a b (a.rows.take k) ++ joinP a b (a.rows.getD k []) (b.rows.take j)).length z] 1 _ rfl)
        have hX5 := rd_sub hX.sub (rd_box H2 b5 [.slice A1 (jcols a b).length c1, .slice Z (joinR a b (a.rows.take k) ++ joinP a b (a.rows.getD k []) (b.rows.take j)).length z] 0 _ rfl)
        simp (maxSteps := 300000) (disch := omega) only [gs, gs2, gs3, gs4, ↓reduceIte, Nat.reduceEqDiff, Int.reduceToNat, Nat.reduceMul, Nat.reduceAdd, Nat.reduceBEq, isLd, e2, e3, e4, e6, e7, e9, e33, e34, e35, e40, e41, e42, hX5, hX6, gBs]
        refine ⟨fun v hv => (by simp at hv; rcases hv with rfl | rfl <;> rfl), fun bu hbu => ?_⟩
        have su := Sub.put hbu ⟨[.slice (hs k).1 (a.rows.getD k []).length (hs k).2, .slice (hs' j).1 (b.rows.getD j []).length (hs' j).2], true⟩
        refine ⟨⟨rd_sub su hX5, rd_sub su hX6⟩, ?_⟩
        have hfl : ([a.rows.getD k [], b.rows.getD j []] : List (List Int)).flatten = a.rows.getD k [] ++ b.rows.getD j [] := by
          generalize a.rows.getD k [] = x
          generalize b.rows.getD j [] = y
          simp
        refine ConcatR_ok (rowS_two ((q2.rows.row k (by omega)).sub su) ((q3.rows.row j (by omega)).sub su) (put_same _ _ _)) (show 2 < 2 ^ 20 by decide) (by rw [hfl, List.length_append]; omega) fun Gc E f hE => ?_
        rw [hfl] at hE ⊢
        have sc := su.trans hE.sub
        have f5 := rd_sub sc hX5
        have f6 := rd_sub sc hX6
        simp (maxSteps := 300000) (disch := omega) only [gs, gs2, gs3, gs4, ↓reduceIte, Nat.reduceEqDiff, Int.reduceToNat, Nat.reduceMul, Nat.reduceAdd, Nat.reduceBEq, isLd, e2, e3, e4, e6, e7, e9, f5, f6]
        refine impl_project_ok ((iD.sub hX.low).sub sc) hE.ints (iA1.sub (hX.low.trans sc)) hjm (by rw [List.length_append, List.length_append, hxl, hyl]) (by rw [List.length_append]; omega) (by omega) fun G8 D8 d8 hN8 => ?_
        have s8 := sc.trans hN8.sub
        have f5 := rd_sub s8 hX5
        have f6 := rd_sub s8 hX6
        simp (maxSteps := 300000) (disch := omega) only [gs, gs2, gs3, gs4, ↓reduceIte, Nat.reduceEqDiff, Int.reduceToNat, Nat.reduceMul, Nat.reduceAdd, Nat.reduceBEq, isLd, e2, e3, e4, e6, e7, e9, f5, f6, gBs]
        refine ⟨fun v hv => (by simp at hv; subst hv; rfl), fun bv hbv => ?_⟩
        have s9 := Sub.put hbv ⟨[.slice D8 (jcols a b).length d8], true⟩
        refine ⟨⟨rd_sub s9 f5, rd_sub s9 f6⟩, ?_⟩
        have s79 := s8.trans s9
        have oD8 : Off G'' D8 := hN8.off.mono sc
        have hF : Own G8 D8 d8 ((joinRow a b (a.rows.getD k []) (b.rows.getD j [])).map I64) 1 (joinRow a b (a.rows.getD k []) (b.rows.getD j [])).length := hN8.fresh.cast rfl (joinRow_len _ _ _ _).symm
        have hb5 : (put G8 bv ⟨[.slice D8 (jcols a b).length d8], true⟩) b5 = some ⟨[.slice A1 (jcols a b).length c1, .slice Z (joinR a b (a.rows.take k) ++ joinP a b (a.rows.getD k []) (b.rows.take j)).length z], true⟩ := s79 _ _ (hX.sub _ _ (put_same _ _ _))
        refine SemG.add (x := joinRow a b (a.rows.getD k []) (b.rows.getD j [])) (hX.up s79) (hF.sub s9) ((oD8.mono hX.sub).pute) (fun x y hx hy q => ?_) (fun i hi x y hx hy q => ?_) (by rw [joinRow_len]; exact put_same _ _ _) (by omega) fun G4 Z' z' s4 sH4 hst => ?_
        · have := own_ne hX.own.out y hy
          rw [← q, oD8 x hx] at this; exact this rfl
        · have := own_ne (hX.own.row i hi) x hx
          rw [q, oD8 y hy] at this; exact this rfl
        · have fw : rd G4 (some ⟨b5, 0, none⟩) = some (.slice A1 (jcols a b).length c1) := rd_sub s4 (by
            simp only [rd]
            rw [wz_ne (hX.oZ.ne), hb5]; rfl)
          simp (maxSteps := 300000) (disch := omega) only [gs, gs2, gs3, gs4, ↓reduceIte, Nat.reduceEqDiff, Int.reduceToNat, Nat.reduceMul, Nat.reduceAdd, Nat.reduceBEq, isLd, e2, e3, e4, e6, e7, e9, fw]
          refine hst _ fun G5 hs5 hX5 => ?_
          simp (maxSteps := 300000) (disch := omega) only [gs, gs2, gs3, gs4, ↓reduceIte, Nat.reduceEqDiff, Int.reduceToNat, Nat.reduceMul, Nat.reduceAdd, Nat.reduceBEq, isLd, e2, e3, e4, e6, e7, e9, e33, e34, e35, e40, e41, e42]
          refine ⟨m' - 1, by omega, G5, Sub.refl _, j + 1, Z', z', hs5, rfl, by omega, by omega, by rw [hps.1 (hw.1 rfl), ← List.append_assoc]; exact hX5⟩
    · simp (maxSteps := 300000) (disch := omega) only [gs, gs2, gs3, gs4, ↓reduceIte, Nat.reduceEqDiff, Int.reduceToNat, Nat.reduceMul, Nat.reduceAdd, Nat.reduceBEq, isLd, e2, e3, e4, e6, e7, e9, e33, e34, e35, e40, e41, e42, hjj]
      obtain rfl : j = b.rows.length := by omega
      rw [List.take_length] at hX
      exact ⟨m - 1, by omega, G'', Sub.refl _, k + 1, Z, z, hz, rfl, by omega, by omega, by rw [joinR_snoc (by omega)]; exact hX⟩
  · obtain rfl : k = a.rows.length := by omega
    rw [List.take_length] at hX hlenR
    have f51 : rd G' (some ⟨b5, 1, none⟩) = some (.slice Z (joinR a b a.rows).length z) := rd_sub hX.sub (rd_box _ _ _ 1 _ rfl)
    simp (maxSteps := 300000) (disch := omega) only [gs, gs2, gs3, gs4, ↓reduceIte, Nat.reduceEqDiff, Int.reduceToNat, Nat.reduceMul, Nat.reduceAdd, Nat.reduceBEq, isLd, e2, e3, e4, e6, e7, e33, e34, e35, hkk, f51]
    by_cases hfull : (24 : Int) < (joinR a b a.rows).length
    · simp (maxSteps := 300000) (disch := omega) only [gs, gs2, gs3, gs4, ↓reduceIte, Nat.reduceEqDiff, Int.reduceToNat, Nat.reduceMul, Nat.reduceAdd, Nat.reduceBEq, isLd, e2, e3, e4, e6, e7, hfull, f51, hbz]
      refine st_many (vs := [.slice none 0 0, .slice none 0 0]) rfl (hX.low _ _ g4') rfl (by simp) (by intro v hv; simp at hv; subst hv; rfl) ?_
      simp only [over, List.set_cons_zero, List.set_cons_succ]
      simp (maxSteps := 300000) (disch := omega) only [gs, gs2, gs3, gs4, ↓reduceIte, Nat.reduceEqDiff, Int.reduceToNat, Nat.reduceMul, Nat.reduceAdd, Nat.reduceBEq, isLd, e4, k0, k1]
      rw [joinV_full ⟨hoa, hob⟩ (by omega)] at hk
      exact ⟨G, (sH.trans hX.low).skip n4, hk _ _ _ _ _ _ (NewT.nil G fun _ => (none, 0))⟩
    · rw [joinV_yes ⟨hoa, hob⟩ (by omega)] at hk
      simp (maxSteps := 300000) (disch := omega) only [gs, gs2, gs3, gs4, ↓reduceIte, Nat.reduceEqDiff, Int.reduceToNat, Nat.reduceMul, Nat.reduceAdd, Nat.reduceBEq, isLd, e2, e3, e4, e6, e7, hfull, f51]
      refine impl_sortedRows_ok hX.own (by omega) (fun i hi => ?_) fun G6 hs6 s6 hO6 hj6 => ?_
      · have := joinR_row (a := a) (b := b) (xs := a.rows) (r := (joinR a b a.rows).getD i []) (by simp [List.getD, hi])
        omega
      simp (maxSteps := 300000) (disch := omega) only [gs, gs2, gs3, gs4, ↓reduceIte, Nat.reduceEqDiff, Int.reduceToNat, Nat.reduceMul, Nat.reduceAdd, Nat.reduceBEq, isLd, e2, e3, e4, e6, e7]
      refine hX.sorted s6 hO6 hj6 fun G7 hX7 => ?_
      have f50 : rd G7 (some ⟨b5, 0, none⟩) = some (.slice A1 (jcols a b).length c1) := rd_sub hX7.sub (rd_box _ _ _ 0 _ rfl)
      have f51 : rd G7 (some ⟨b5, 1, none⟩) = some (.slice Z (srt (joinR a b a.rows)).length z) := rd_sub hX7.sub (rd_box _ _ _ 1 _ rfl)
      simp (maxSteps := 300000) (disch := omega) only [gs, gs2, gs3, gs4, ↓reduceIte, Nat.reduceEqDiff, Int.reduceToNat, Nat.reduceMul, Nat.reduceAdd, Nat.reduceBEq, isLd, e2, e3, e4, e6, e7, f50, f51]
      refine st_many (vs := [.slice A1 (jcols a b).length c1, .slice Z (srt (joinR a b a.rows)).length z]) rfl (hX7.low _ _ g4') rfl (by simp) one2 ?_
      simp only [over, List.set_cons_zero, List.set_cons_succ]
      have k0 : rd (put G7 b4 ⟨[.slice A1 (jcols a b).length c1, .slice Z (srt (joinR a b a.rows)).length z], true⟩) (some ⟨b4, 0, none⟩) = some (.slice A1 (jcols a b).length c1) := rd_box _ _ _ 0 _ rfl
      have k1 : rd (put G7 b4 ⟨[.slice A1 (jcols a b).length c1, .slice Z (srt (joinR a b a.rows)).length z], true⟩) (some ⟨b4, 1, none⟩) = some (.slice Z (srt (joinR a b a.rows)).length z) := rd_box _ _ _ 1 _ rfl
      simp (maxSteps := 300000) (disch := omega) only [gs, gs2, gs3, gs4, ↓reduceIte, Nat.reduceEqDiff, Int.reduceToNat, Nat.reduceMul, Nat.reduceAdd, Nat.reduceBEq, isLd, e4, k0, k1]
      exact ⟨_, Sub.refl _, hk _ _ _ _ _ _ (hX7.newT (N := joinT a b) sH hA1 oA1 ((sH.trans hX7.low).skip n4) (Oth.put _ _ _) n41 (fun x hx => by subst hx; rw [g4']; simp))⟩
theorem cellAt_app {a b x y : List Int} {v : Int} (h : x.length = a.length) : cellAt (a ++ b) (x ++ y) v = if v ∈ a then cellAt a x v else cellAt b y v := by
  unfold cellAt
  by_cases hv : v ∈ a
  · have hlt := List.idxOf_lt_length_iff.2 hv
    rw [if_pos hv, List.idxOf_append, if_pos hv]
    simp only [List.getD]
    rw [List.getElem?_append_left (by omega)]
  · rw [if_neg hv, List.idxOf_append, if_neg hv]
    simp only [List.getD]
    rw [List.getElem?_append_right (by omega)]
    congr 2; omega
theorem rise_idx {a : List Int} (h : Rise a) {i : Nat} (hi : i < a.length) : a.idxOf (a.getD i 0) = i := by
  have hp := riseP.1 h
  have hm : a.getD i 0 ∈ a := by simp [List.getD, hi]
  have hlt := List.idxOf_lt_length_iff.2 hm
  have he : a[a.idxOf (a.getD i 0)] = a.getD i 0 := List.getElem_idxOf hlt
  have hg : a.getD i 0 = a[i] := by simp [List.getD, hi]
  rw [List.pairwise_iff_getElem] at hp
  rcases Nat.lt_trichotomy (a.idxOf (a.getD i 0)) i with q | q | q
  · have := hp _ _ hlt hi q; omega
  · exact q
  · have := hp _ _ hi hlt q; omega
theorem row_ext {a x x' : List Int} (h : Rise a) (hx : x.length = a.length) (hx' : x'.length = a.length) (he : ∀ v ∈ a, cellAt a x v = cellAt a x' v) : x = x' := by
  apply List.ext_getElem (by omega)
  intro i h1 h2
  have := he (a.getD i 0) (by simp [List.getD, show i < a.length by omega])
  unfold cellAt at this
  rw [rise_idx h (by omega)] at this
  simpa [List.getD, h1, h2] using this
theorem joinRow_cell {a b : Tab} {x y x' y' : List Int} (h : joinRow a b x y = joinRow a b x' y') (ha : Rise a.cols) {v : Int} (hv : v ∈ a.cols ∨ v ∈ b.cols) : cellAt (a.cols ++ b.cols) (x ++ y) v = cellAt (a.cols ++ b.cols) (x' ++ y') v :=
  List.map_inj_left.1 h v (((uniL_spec b.cols (riseP.1 ha)).2.1 v).2 hv)
theorem tab_rows {t : Tab} (h : TabOk t) {x : List Int} (hx : x ∈ t.rows) : x.length = t.cols.length ∧ InB x 0 3 := by
  obtain ⟨i, hi, rfl⟩ := List.mem_iff_getElem.1 hx
  have := h.2.2.2.1 i hi
  rwa [show t.rows.getD i [] = t.rows[i] by simp [List.getD, hi]] at this
theorem tab_asc {t : Tab} (h : TabOk t) : Asc t.rows := by
  unfold Asc
  rw [List.pairwise_iff_getElem]
  intro i j hi hj hij
  have h5 := h.2.2.2.2
  have key : ∀ d, i + d + 1 < t.rows.length → lexC (t.rows.getD i []) (t.rows.getD (i + d + 1) []) < 0 := by
    intro d
    induction d with
    | zero => intro hd; exact h5 i (by omega)
    | succ d ih => intro hd; exact lexC_trans (ih (by omega)) (h5 (i + d + 1) (by omega))
  have := key (j - i - 1) (by omega)
  rw [show i + (j - i - 1) + 1 = j by omega] at this
  simpa [List.getD, hi, hj] using this
theorem asc_nodup {xss : List (List Int)} (h : Asc xss) : xss.Nodup := h.imp fun {a b} q e => by rw [e, lexC_self] at q; omega
theorem joinR_nodup {a b : Tab} (ha : TabOk a) (hb : TabOk b) : (joinR a b a.rows).Nodup := by
  unfold joinR
  rw [List.Nodup, List.pairwise_flatMap]
  constructor
  · intro x hx
    unfold joinP
    rw [List.pairwise_map]
    refine (((asc_nodup (tab_asc hb)).filter _)).imp_of_mem fun {y y'} hy hy' hne he => hne ?_
    obtain ⟨m1, f1⟩ := List.mem_filter.1 hy
    obtain ⟨m2, f2⟩ := List.mem_filter.1 hy'
    have f1 : FitP a.cols b.cols x y := by simpa using f1
    have f2 : FitP a.cols b.cols x y' := by simpa using f2
    obtain ⟨lx, _⟩ := tab_rows ha hx
    refine row_ext hb.1 (tab_rows hb m1).1 (tab_rows hb m2).1 fun v hv => ?_
    have := joinRow_cell he ha.1 (.inr hv)
    rw [cellAt_app lx, cellAt_app lx] at this
    by_cases hva : v ∈ a.cols
    · rw [← f1 v hva hv, ← f2 v hva hv]
    · rw [if_neg hva, if_neg hva] at this; exact this
  · refine (asc_nodup (tab_asc ha)).imp_of_mem fun {x x'} hx hx' hne z hz z' hz' he => hne ?_
    unfold joinP at hz hz'
    obtain ⟨y, _, rfl⟩ := List.mem_map.1 hz
    obtain ⟨y', _, rfl⟩ := List.mem_map.1 hz'
    obtain ⟨lx, _⟩ := tab_rows ha hx
    obtain ⟨lx', _⟩ := tab_rows ha hx'
    refine row_ext ha.1 lx lx' fun v hv => ?_
    have := joinRow_cell he ha.1 (.inl hv)
    rw [cellAt_app lx, cellAt_app lx', if_pos hv, if_pos hv] at this
    exact this
theorem OwnR.offs {G G' : GH} {B : Option Addr} {d : Nat} {hs : Nat → Option Addr × Nat} {xss : List (List Int)} (h : OwnR (Gh.rest G G') B d hs xss) : Off G B ∧ ∀ i, i < xss.length → Off G (hs i).1 := by
  have key : ∀ {A : Option Addr} {c sz n : Nat} {cs : List Value}, Own (Gh.rest G G') A c cs sz n → Off G A := fun h a ha => by
    rcases h with ⟨h, _⟩ | ⟨b, r, h1, h2, _⟩
    · rw [h] at ha; cases ha
    · rw [h1] at ha; cases ha; exact (rest_some.1 h2).1
  exact ⟨key h.out, fun i hi => key (h.row i hi)⟩
/-- a new table, and a new box that holds it. -/
structure BoxT (G G' : GH) (q : Nat) (N : Tab) (A : Option Addr) (c : Nat) (B : Option Addr) (d : Nat) (hs : Nat → Option Addr × Nat) : Prop where
  sub : Sub G G'
  own : OwnT (rest G G') N A c B d hs
  box : rest G G' q = some ⟨[.slice A N.cols.length c, .slice B N.rows.length d], true⟩
  nb : ¬ tabB A B hs N.rows.length q
theorem OwnT.rest {G G' : GH} {N : Tab} {A B : Option Addr} {c d : Nat} {hs : Nat → Option Addr × Nat} (h : OwnT G' N A c B d hs) (o : ∀ x, tabB A B hs N.rows.length x → G x = none) : OwnT (Gh.rest G G') N A c B d hs :=
  ⟨h.cols.rest fun a ha => o _ (.inl ⟨a, ha, rfl⟩), h.rows.rest (fun a ha => o _ (.inr (.inl ⟨a, ha, rfl⟩))) fun i hi a ha => o _ (.inr (.inr ⟨i, hi, a, ha, rfl⟩)), h.nB, h.nR⟩
theorem OwnT.oth {G G' : GH} {S : Nat → Prop} {N : Tab} {A B : Option Addr} {c d : Nat} {hs : Nat → Option Addr × Nat} (h : OwnT G N A c B d hs) (u : Oth S G G') (o : ∀ x, tabB A B hs N.rows.length x → ¬ S x) : OwnT G' N A c B d hs :=
  ⟨h.cols.oth u fun a ha => o _ (.inl ⟨a, ha, rfl⟩), h.rows.oth u (fun a ha => o _ (.inr (.inl ⟨a, ha, rfl⟩))) fun i hi a ha => o _ (.inr (.inr ⟨i, hi, a, ha, rfl⟩)), h.nB, h.nR⟩
/-- the box is laid behind the table. -/
theorem BoxT.mk1 {G G2 G3 : GH} {q : Nat} {N : Tab} {A B : Option Addr} {c d : Nat} {hs : Nat → Option Addr × Nat} (h : NewT G2 G3 N A c B d hs) (s : Sub G G2) (hb : G3 q = none) :
    BoxT G (put G3 q ⟨[.slice A N.cols.length c, .slice B N.rows.length d], true⟩) q N A c B d hs := by
  have hw := h.own.sub (Sub.rest _ _)
  refine ⟨(s.trans h.sub).trans (Sub.put hb _), (hw.sub (Sub.put hb _)).rest fun x hx => s.none (h.off x hx), rest_some.2 ⟨(s.trans h.sub).none hb, put_same _ _ _⟩, fun hx => hw.on q hx hb⟩
/-- the box is laid ahead of the table. -/
theorem BoxT.mk2 {G G1 G3 : GH} {q : Nat} {N : Tab} {A B : Option Addr} {c d : Nat} {hs : Nat → Option Addr × Nat} {e : Ent} (h : NewT G1 G3 N A c B d hs) (s : Sub G G1) (hb : G q = none) (hq : G1 q = some e) :
    BoxT G (put G3 q ⟨[.slice A N.cols.length c, .slice B N.rows.length d], true⟩) q N A c B d hs := by
  have hw := h.own.sub (Sub.rest _ _)
  have nq : ∀ x, tabB A B hs N.rows.length x → ¬ x = q := fun x hx y => by have := h.off x hx; rw [y, hq] at this; cases this
  exact ⟨(s.trans h.sub).skip hb, (hw.oth (Oth.put _ _ _) nq).rest fun x hx => s.none (h.off x hx), rest_some.2 ⟨hb, put_same _ _ _⟩, fun hx => nq q hx rfl⟩
def cellsT (H : Nat → TH) (ts : List Tab) : List Value := (List.range ts.length).flatMap fun i => tabC (ts.getD i t0) (H i).A (H i).c (H i).B (H i).d
theorem cellsF_len (f : Nat → List Value) (hf : ∀ i, (f i).length = 2) : ∀ n, ((List.range n).flatMap f).length = n * 2
  | 0 => rfl
  | n + 1 => by rw [List.range_succ, List.flatMap_append, List.length_append, cellsF_len f hf n]; simp [hf]; omega
theorem cellsF_get (f : Nat → List Value) (hf : ∀ i, (f i).length = 2) : ∀ n i k, i < n → k < 2 → ((List.range n).flatMap f)[i * 2 + k]? = (f i)[k]?
  | 0, i, k, h, _ => by omega
  | n + 1, i, k, h, hk => by
    rw [List.range_succ, List.flatMap_append]
    by_cases hin : i = n
    · subst hin
      rw [List.getElem?_append_right (by rw [cellsF_len f hf]; omega), cellsF_len f hf]
      simp only [List.flatMap_cons, List.flatMap_nil, List.append_nil]
      congr 1; omega
    · rw [List.getElem?_append_left (by rw [cellsF_len f hf]; omega)]
      exact cellsF_get f hf n i k (by omega) hk
theorem cellsT_len (H : Nat → TH) (ts : List Tab) : (cellsT H ts).length = ts.length * 2 := cellsF_len _ (fun _ => rfl) _
theorem cellsT_get {H : Nat → TH} {ts : List Tab} {i : Nat} (hi : i < ts.length) : (cellsT H ts)[i * 2]? = some (.slice (H i).A (ts.getD i t0).cols.length (H i).c) ∧ (cellsT H ts)[i * 2 + 1]? = some (.slice (H i).B (ts.getD i t0).rows.length (H i).d) :=
  ⟨cellsF_get _ (fun _ => rfl) _ i 0 hi (by omega), cellsF_get _ (fun _ => rfl) _ i 1 hi (by omega)⟩
theorem cellsT_at {H : Nat → TH} {ts : List Tab} {i k : Nat} (hi : i < ts.length) (hk : k < 2) : (cellsT H ts)[i * 2 + k]? = (tabC (ts.getD i t0) (H i).A (H i).c (H i).B (H i).d)[k]? := cellsF_get _ (fun _ => rfl) _ i k hi hk
theorem cellsT_snoc (H : Nat → TH) (ts : List Tab) (t : Tab) (h : TH) : cellsT (fun i => if i = ts.length then h else H i) (ts ++ [t]) = cellsT H ts ++ tabC t h.A h.c h.B h.d := by
  unfold cellsT
  rw [List.length_append, List.length_singleton, List.range_succ, List.flatMap_append]
  congr 1
  · refine flatMap_cong fun i hi => ?_
    have := List.mem_range.1 hi
    have hne : ¬ i = ts.length := by omega
    simp only [if_neg hne]
    congr 1
    simp [List.getD, List.getElem?_append_left this]
  · simp [List.getD]
theorem over_two {cs : List Value} {k : Nat} {x y : Value} : over cs k [x, y] = (cs.set k x).set (k + 1) y := rfl
theorem cellsT_set {H : Nat → TH} {ts : List Tab} {i : Nat} {t : Tab} {h : TH} {r : List Value} (hi : i < ts.length) :
    over (cellsT H ts ++ r) (i * 2) (tabC t h.A h.c h.B h.d) = cellsT (fun j => if j = i then h else H j) (ts.set i t) ++ r := by
  unfold tabC
  rw [over_two]
  have hl := cellsT_len H ts
  have hl' := cellsT_len (fun j => if j = i then h else H j) (ts.set i t)
  rw [List.length_set] at hl'
  rw [List.set_append_left _ _ (by omega), List.set_append_left _ _ (by rw [List.length_set]; omega)]
  congr 1
  apply List.ext_getElem?
  intro n
  by_cases hn : n < ts.length * 2
  · obtain ⟨j, k, hk, rfl⟩ : ∃ j k, k < 2 ∧ n = j * 2 + k := ⟨n / 2, n % 2, Nat.mod_lt _ (by omega), by omega⟩
    have hj : j < ts.length := by omega
    rw [cellsT_at (ts := ts.set i t) (by rw [List.length_set]; exact hj) hk]
    rw [List.getElem?_set, List.getElem?_set]
    simp only [List.length_set]
    by_cases hji : j = i
    · subst hji
      have : k = 0 ∨ k = 1 := by omega
      rcases this with rfl | rfl
      · rw [if_neg (by omega), if_pos (by omega), if_pos (by omega)]
        simp [tabC, List.getD, hj]
      · rw [if_pos (by omega), if_pos (by omega)]
        simp [tabC, List.getD, hj]
    · rw [if_neg (by omega), if_neg (by omega), cellsT_at hj hk]
      simp [hji, List.getD, List.getElem?_set, Ne.symm hji]
  · rw [List.getElem?_eq_none (by rw [List.length_set, List.length_set]; omega), List.getElem?_eq_none (by omega)]
def hB (h : TH) (n : Nat) : Nat → Prop := tabB h.A h.B h.hs n
structure OwnTS (G : GH) (A : Option Addr) (c : Nat) (H : Nat → TH) (ts : List Tab) : Prop where
  out : Own G A c (cellsT H ts) 2 ts.length
  tab : ∀ i, i < ts.length → OwnT G (ts.getD i t0) (H i).A (H i).c (H i).B (H i).d (H i).hs
  ne : ∀ i, i < ts.length → ∀ x, hB (H i) (ts.getD i t0).rows.length x → ∀ a, A = some a → x ≠ a.block
  inj : ∀ i j, i < ts.length → j < ts.length → i ≠ j → ∀ x, hB (H i) (ts.getD i t0).rows.length x → ¬ hB (H j) (ts.getD j t0).rows.length x
/-- the blocks of a list of tables. -/
def tsB (A : Option Addr) (H : Nat → TH) (ts : List Tab) : Nat → Prop := fun x => (∃ a, A = some a ∧ a.block = x) ∨ ∃ i, i < ts.length ∧ hB (H i) (ts.getD i t0).rows.length x
theorem OwnTS.sub {G G' : GH} {A : Option Addr} {c : Nat} {H : Nat → TH} {ts : List Tab} (h : OwnTS G A c H ts) (s : Sub G G') : OwnTS G' A c H ts := ⟨h.out.sub s, fun i hi => (h.tab i hi).sub s, h.ne, h.inj⟩
theorem OwnTS.tabs {G : GH} {A : Option Addr} {c : Nat} {H : Nat → TH} {ts : List Tab} (h : OwnTS G A c H ts) : TabsS G A c H ts :=
  ⟨h.out.cap, fun i hi => h.out.cells _ _ (cellsT_get hi).1, fun i hi => h.out.cells _ _ (cellsT_get hi).2, fun i hi => (h.tab i hi).cols.ints, fun i hi => (h.tab i hi).rows.rows⟩
theorem OwnTS.on {G : GH} {A : Option Addr} {c : Nat} {H : Nat → TH} {ts : List Tab} (h : OwnTS G A c H ts) : ∀ x, tsB A H ts x → G x ≠ none := by
  rintro x (⟨a, ha, rfl⟩ | ⟨i, hi, hx⟩)
  · exact own_ne h.out a ha
  · exact (h.tab i hi).on x hx
theorem OwnTS.oth {G G' : GH} {S : Nat → Prop} {A : Option Addr} {c : Nat} {H : Nat → TH} {ts : List Tab} (h : OwnTS G A c H ts) (u : Oth S G G') (o : ∀ x, tsB A H ts x → ¬ S x) : OwnTS G' A c H ts :=
  ⟨h.out.oth u fun a ha => o _ (.inl ⟨a, ha, rfl⟩), fun i hi => (h.tab i hi).oth u fun x hx => o x (.inr ⟨i, hi, hx⟩), h.ne, h.inj⟩
theorem OwnTS.rest {G G' : GH} {A : Option Addr} {c : Nat} {H : Nat → TH} {ts : List Tab} (h : OwnTS G' A c H ts) (o : ∀ x, tsB A H ts x → G x = none) : OwnTS (Gh.rest G G') A c H ts :=
  ⟨h.out.rest fun a ha => o _ (.inl ⟨a, ha, rfl⟩), fun i hi => (h.tab i hi).rest fun x hx => o x (.inr ⟨i, hi, hx⟩), h.ne, h.inj⟩
theorem OwnTS.nil (G : GH) (H : Nat → TH) : OwnTS G none 0 H [] := ⟨Own.nil _ _, fun i hi => by simp at hi, fun i hi => by simp at hi, fun i j hi => by simp at hi⟩
theorem OwnT.wz {G : GH} {Z : Option Addr} {N : Tab} {A B : Option Addr} {c d : Nat} {hs : Nat → Option Addr × Nat} (h : OwnT G N A c B d hs) (hne : ∀ x, tabB A B hs N.rows.length x → ∀ b, Z = some b → x ≠ b.block) : OwnT (Gh.wz G Z) N A c B d hs := by
  refine h.oth (S := fun x => Z.map (·.block) = some x) (fun x hx => ?_) fun x hx y => ?_
  · unfold Gh.wz; rw [if_neg hx]
  · cases Z with
    | none => cases y
    | some b => simp at y; exact hne x hx b rfl y.symm
/-- one more table is laid behind the others. -/
theorem OwnTS.snoc {G G' : GH} {Z Z' : Option Addr} {z z' : Nat} {H : Nat → TH} {ts : List Tab} {t : Tab} {hh : TH} (h : OwnTS G Z z H ts) (hx : OwnT G t hh.A hh.c hh.B hh.d hh.hs) (hZ : ∀ x, hB hh t.rows.length x → ∀ b, Z = some b → x ≠ b.block)
    (hR : ∀ i, i < ts.length → ∀ x, hB (H i) (ts.getD i t0).rows.length x → ¬ hB hh t.rows.length x) (s : Sub (wz G Z) G') (o : Off (wz G Z) Z')
    (hO : Own G' Z' z' (cellsT H ts ++ tabC t hh.A hh.c hh.B hh.d) 2 (ts.length + 1)) : OwnTS G' Z' z' (fun i => if i = ts.length then hh else H i) (ts ++ [t]) := by
  have hg : ∀ i, i < ts.length → (ts ++ [t]).getD i t0 = ts.getD i t0 := fun i hi => by simp [List.getD, List.getElem?_append_left hi]
  have hgl : (ts ++ [t]).getD ts.length t0 = t := by simp [List.getD]
  have hl : (ts ++ [t]).length = ts.length + 1 := by simp
  have offZ : ∀ {N : Tab} {A B : Option Addr} {c d : Nat} {hs : Nat → Option Addr × Nat}, OwnT G N A c B d hs → (∀ x, tabB A B hs N.rows.length x → ∀ b, Z = some b → x ≠ b.block) → ∀ x, tabB A B hs N.rows.length x → ∀ b, Z' = some b → x ≠ b.block := fun hA hn x hx b hb y => by
    have h1 := (hA.wz hn).on x hx
    have h2 := o b hb
    rw [← y] at h2; exact h1 h2
  refine ⟨by rw [cellsT_snoc, hl]; exact hO, fun i hi => ?_, fun i hi => ?_, fun i j hi hj => ?_⟩
  · rw [hl] at hi
    by_cases c : i = ts.length
    · subst c
      simp only [if_true]
      rw [hgl]
      exact (hx.wz hZ).sub s
    · simp only [if_neg c]
      rw [hg i (by omega)]
      exact ((h.tab i (by omega)).wz (h.ne i (by omega))).sub s
  · rw [hl] at hi
    by_cases c : i = ts.length
    · subst c
      simp only [if_true]
      rw [hgl]
      exact offZ hx hZ
    · simp only [if_neg c]
      rw [hg i (by omega)]
      exact offZ (h.tab i (by omega)) (h.ne i (by omega))
  · rw [hl] at hi hj
    intro hij
    by_cases ci : i = ts.length
    · subst ci
      have cj : ¬ j = ts.length := fun y => hij y.symm
      simp only [if_true, if_neg cj]
      rw [hgl, hg j (by omega)]
      exact fun x hx hy => hR j (by omega) x hy hx
    · by_cases cj : j = ts.length
      · subst cj
        simp only [if_true, if_neg ci]
        rw [hgl, hg i (by omega)]
        exact hR i (by omega)
      · simp only [if_neg ci, if_neg cj]
        rw [hg i (by omega), hg j (by omega)]
        exact h.inj i j (by omega) (by omega) hij
/-- a table takes another one's place. -/
theorem OwnTS.put {G : GH} {Z : Option Addr} {z i : Nat} {H : Nat → TH} {ts : List Tab} {t : Tab} {hh : TH} (h : OwnTS G Z z H ts) (hi : i < ts.length) (hx : OwnT G t hh.A hh.c hh.B hh.d hh.hs) (hZ : ∀ x, hB hh t.rows.length x → ∀ b, Z = some b → x ≠ b.block)
    (hR : ∀ j, j < ts.length → j ≠ i → ∀ x, hB (H j) (ts.getD j t0).rows.length x → ¬ hB hh t.rows.length x) {K : Value → GH → Prop}
    (hK : ∀ G', (∃ b, Z = some ⟨b, 0, none⟩ ∧ ∃ e, G' = Gh.put G b e) → OwnTS G' Z z (fun j => if j = i then hh else H j) (ts.set i t) → K undef G') :
    gSt 2 (.pointer (pa Z (i * 2))) (.agg [.slice hh.A t.cols.length hh.c, .slice hh.B t.rows.length hh.d].toArray) G K := by
  rcases h.out with ⟨_, _, hz, _⟩ | ⟨b, r, rfl, hb, hlen, hc, hnc⟩
  · omega
  have hcl := cellsT_len H ts
  rw [pa_mk, Nat.zero_add]
  have one2 : ∀ v ∈ tabC t hh.A hh.c hh.B hh.d, oneB v = true := tabC_one _ _ _ _ _
  refine ⟨b, i * 2, _, rfl, hb, rfl, by rw [List.length_append]; omega, one2, ?_⟩
  have ho := cellsT_set (H := H) (t := t) (h := hh) (r := r) hi
  unfold tabC at ho
  show K undef (Gh.put G b ⟨over (cellsT H ts ++ r) (i * 2) [.slice hh.A t.cols.length hh.c, .slice hh.B t.rows.length hh.d], true⟩)
  rw [ho]
  have hgi : (ts.set i t).getD i t0 = t := by simp [List.getD, hi]
  have hgj : ∀ j, j ≠ i → (ts.set i t).getD j t0 = ts.getD j t0 := fun j hj => by simp [List.getD, List.getElem?_set, Ne.symm hj]
  have u : Oth (fun x => x = b) G (Gh.put G b ⟨cellsT (fun j => if j = i then hh else H j) (ts.set i t) ++ r, true⟩) := Oth.put _ _ _
  have hcl' := cellsT_len (fun j => if j = i then hh else H j) (ts.set i t)
  rw [List.length_set] at hcl'
  refine hK _ ⟨b, rfl, _, rfl⟩ ⟨?_, fun j hj => ?_, fun j hj => ?_, fun j k hj hk hjk => ?_⟩
  · refine .inr ⟨b, r, rfl, put_same _ _ _, by rw [List.length_set]; exact hcl', ?_, by rw [List.length_set]; exact hnc⟩
    rw [List.length_append] at hc ⊢; omega
  · rw [List.length_set] at hj
    by_cases e : j = i
    · subst e
      simp only [if_true]
      rw [hgi]
      exact hx.oth u fun x hx' y => hZ x hx' _ rfl y
    · simp only [if_neg e]
      rw [hgj j e]
      exact (h.tab j hj).oth u fun x hx' y => h.ne j hj x hx' _ rfl y
  · rw [List.length_set] at hj
    by_cases e : j = i
    · subst e
      simp only [if_true]
      rw [hgi]
      exact hZ
    · simp only [if_neg e]
      rw [hgj j e]
      exact h.ne j hj
  · rw [List.length_set] at hj hk
    by_cases ej : j = i
    · subst ej
      have ek : ¬ k = j := fun y => hjk y.symm
      simp only [if_true, if_neg ek]
      rw [hgi, hgj k ek]
      exact fun x h1 h2 => hR k hk ek x h2 h1
    · by_cases ek : k = i
      · subst ek
        simp only [if_true, if_neg ej]
        rw [hgi, hgj j ej]
        exact hR j hj ej
      · simp only [if_neg ej, if_neg ek]
        rw [hgj j ej, hgj k ek]
        exact h.inj j k hj hk hjk
/-- a new list of tables. -/
structure NewTS (G G' : GH) (A : Option Addr) (c : Nat) (H : Nat → TH) (ts : List Tab) : Prop where
  sub : Sub G G'
  own : OwnTS (rest G G') A c H ts
theorem NewTS.off {G G' : GH} {A : Option Addr} {c : Nat} {H : Nat → TH} {ts : List Tab} (h : NewTS G G' A c H ts) : ∀ x, tsB A H ts x → G x = none ∧ G' x ≠ none := fun x hx => by
  have := h.own.on x hx
  cases hr : Gh.rest G G' x with
  | none => exact absurd hr this
  | some e => obtain ⟨h1, h2⟩ := rest_some.1 hr; exact ⟨h1, by rw [h2]; simp⟩
theorem NewTS.nil (G : GH) (H : Nat → TH) : NewTS G G none 0 H [] := ⟨Sub.refl _, OwnTS.nil _ _⟩
theorem NewTS.mk' {G G' : GH} {A : Option Addr} {c : Nat} {H : Nat → TH} {ts : List Tab} (s : Sub G G') (h : OwnTS G' A c H ts) (o : ∀ x, tsB A H ts x → G x = none) : NewTS G G' A c H ts := ⟨s, h.rest o⟩
theorem NewTS.fresh {G G' : GH} {A : Option Addr} {c : Nat} {H : Nat → TH} {ts : List Tab} (h : NewTS G G' A c H ts) : OwnTS G' A c H ts := h.own.sub (Sub.rest _ _)
theorem impl_copyLists_ok {G : GH} {A : Option Addr} {c : Nat} {hs : Nat → Option Addr × Nat} {xss : List (List Int)} (h : RowS G A c hs xss) (hl : xss.length < 2 ^ 20) (hl2 : ∀ i, i < xss.length → (xss.getD i []).length < 2 ^ 30) {K : Value → GH → Prop}
    (hk : ∀ G' Z z hs', Sub G G' → OwnR (rest G G') Z z hs' xss → K (.slice Z xss.length z) G') : GC Tryz.prog 118 [.slice A xss.length c] G K := by
  refine c_impl_copyLists_i (by simp) ?_
  have hsn := h.sn
  simp (maxSteps := 300000) (disch := omega) only [gs, gs2, gs3, gs4, ↓reduceIte, Nat.reduceEqDiff, Int.reduceToNat, Nat.reduceMul, Nat.reduceAdd, Nat.reduceBEq, isLd]
  refine gLoop_intro (fun m T G' => ∃ (k : Nat) (Z : Option Addr) (z : Nat) (hz : Nat → Option Addr × Nat), T 3 = .slice Z k z ∧ T 6 = .slice A xss.length c ∧ T 7 = .int .i64 xss.length ∧ T 8 = .int .i64 k ∧ m + k = xss.length ∧ k ≤ xss.length ∧ Sub G G' ∧ Off G Z ∧ (∀ i, i < k → Off G (hz i).1) ∧ OwnR G' Z z hz (xss.take k)) xss.length
    ⟨0, none, 0, fun _ => (none, 0), by simp (maxSteps := 300000) (disch := omega) only [gs, gs2, gs3, gs4, ↓reduceIte, Nat.reduceEqDiff, Int.reduceToNat, Nat.reduceMul, Nat.reduceAdd, Nat.reduceBEq, isLd] <;> rfl, by simp (maxSteps := 300000) (disch := omega) only [gs, gs2, gs3, gs4, ↓reduceIte, Nat.reduceEqDiff, Int.reduceToNat, Nat.reduceMul, Nat.reduceAdd, Nat.reduceBEq, isLd], by simp (maxSteps := 300000) (disch := omega) only [gs, gs2, gs3, gs4, ↓reduceIte, Nat.reduceEqDiff, Int.reduceToNat, Nat.reduceMul, Nat.reduceAdd, Nat.reduceBEq, isLd], by simp (maxSteps := 300000) (disch := omega) only [gs, gs2, gs3, gs4, ↓reduceIte, Nat.reduceEqDiff, Int.reduceToNat, Nat.reduceMul, Nat.reduceAdd, Nat.reduceBEq, isLd] <;> rfl, by omega, by omega, Sub.refl _, Off.nil _, fun i hi => by omega, OwnR.nil _ _⟩ ?_
  rintro m T G' ⟨k, Z, z, hz, e3, e6, e7, e8, hm, hkl, hS, hO, hOR, hW⟩
  simp (maxSteps := 300000) (disch := omega) only [gs, gs2, gs3, gs4, ↓reduceIte, Nat.reduceEqDiff, Int.reduceToNat, Nat.reduceMul, Nat.reduceAdd, Nat.reduceBEq, isLd, e3, e6, e7, e8]
  by_cases hkk : (k : Int) < xss.length
  · have hh := h.sub hS
    have rk := hh.r k (by omega)
    have hlt : (xss.take k).length = k := by rw [List.length_take]; omega
    simp (maxSteps := 300000) (disch := omega) only [gs, gs2, gs3, gs4, ↓reduceIte, Nat.reduceEqDiff, Int.reduceToNat, Nat.reduceMul, Nat.reduceAdd, Nat.reduceBEq, isLd, e3, e6, e7, e8, hkk, rk]
    refine slices_Clone_ok (hh.row k (by omega)) (hl2 k (by omega)) fun G8 D d hN => ?_
    simp (maxSteps := 300000) (disch := omega) only [gs, gs2, gs3, gs4, ↓reduceIte, Nat.reduceEqDiff, Int.reduceToNat, Nat.reduceMul, Nat.reduceAdd, Nat.reduceBEq, isLd, e3, e6, e7, e8, gBs]
    refine ⟨fun v hv => (by simp at hv; subst hv; rfl), fun bs hbs => ?_⟩
    have sy := Sub.put hbs ⟨[.slice D (xss.getD k []).length d], true⟩
    have s9 := hN.sub.trans sy
    have hW9 := hW.sub s9
    have hO9 := hW9.out
    rw [hlt] at hO9
    refine ap_own hO9 (news := [.slice D (xss.getD k []).length d]) (m := 1) (cells_one _ true) rfl (by intro v hv; simp at hv; subst hv; rfl) rfl (by omega) (by omega) (by omega) fun G4 Z' z' hO4 keep => ?_
    obtain ⟨s4, o4⟩ := keep _ (Sub.wz _ Z) (Off.wz _ Z)
    obtain ⟨sG, oG⟩ := keep G (hS.trans s9) hO
    have hDo : ∀ x, D = some x → G' x.block = none := hN.off
    have hR := hW9.snoc (x := xss.getD k []) (hN.fresh.sub sy) (fun x y hx hy q => by
      have := own_ne hW.out y hy
      rw [← q, hDo x hx] at this; exact this rfl) (fun i hi x y hx hy q => by
      have := own_ne (hW.row i hi) x hx
      rw [q, hDo y hy] at this; exact this rfl) s4 o4 (by rw [hlt]; exact hO4)
    rw [hlt, ← takeL (by omega)] at hR
    simp (maxSteps := 300000) (disch := omega) only [gs, gs2, gs3, gs4, ↓reduceIte, Nat.reduceEqDiff, Int.reduceToNat, Nat.reduceMul, Nat.reduceAdd, Nat.reduceBEq, isLd, e3, e6, e7, e8]
    refine ⟨m - 1, by omega, G4, Sub.refl _, k + 1, Z', z', _, rfl, rfl, by omega, by omega, sG, oG, fun i hi => ?_, hR⟩
    by_cases q : i = k
    · simp only [if_pos q]; exact hN.off.mono hS
    · simp only [if_neg q]; exact hOR i (by omega)
  · simp (maxSteps := 300000) (disch := omega) only [gs, gs2, gs3, gs4, ↓reduceIte, Nat.reduceEqDiff, Int.reduceToNat, Nat.reduceMul, Nat.reduceAdd, Nat.reduceBEq, isLd, e3, e6, e7, e8, hkk]
    obtain rfl : k = xss.length := by omega
    rw [List.take_length] at hW
    exact hk _ _ _ _ hS (hW.rest hO hOR)
theorem asc_tab {cs : List Int} {rs : List (List Int)} (hc : Rise cs) (hb : InB cs 0 7) (hn : rs.length ≤ 24) (hr : ∀ r ∈ rs, r.length = cs.length ∧ InB r 0 3) (ha : Asc rs) : TabOk ⟨cs, rs⟩ := by
  refine ⟨hc, hb, hn, fun i hi => hr _ (by have hi : i < rs.length := hi; simp [List.getD, hi]), fun i hi => ?_⟩
  have hi : i + 1 < rs.length := hi
  have := List.pairwise_iff_getElem.1 ha i (i + 1) (by omega) hi (by omega)
  show lexC (rs.getD i []) (rs.getD (i + 1) []) < 0
  simpa [List.getD, hi, show i < rs.length by omega] using this
theorem semi_ok {a b : Tab} (h : TabOk a) : TabOk (semiT a b) := by
  obtain ⟨hr, hc, hn⟩ := h.rowL
  have hm : ∀ r ∈ semiR a b, r ∈ a.rows := fun r hr => by unfold semiR at hr; exact (List.mem_filter.1 hr).1
  refine asc_tab h.1 h.2.1 ?_ (fun r hr => tab_rows h (hm r hr)) ?_
  · unfold semiR
    exact Nat.le_trans (List.length_filter_le _ _) hn
  · unfold semiR
    exact (tab_asc h).filter _
noncomputable def stepS (i j : Nat) (s : List Tab × Bool) : List Tab × Bool :=
  if (semiT (s.1.getD i t0) (s.1.getD j t0)).rows.length < (s.1.getD i t0).rows.length then (s.1.set i (semiT (s.1.getD i t0) (s.1.getD j t0)), true) else s
noncomputable def innS (i : Nat) (s : List Tab × Bool) : Nat → List Tab × Bool
  | 0 => s
  | m + 1 => stepS i m (innS i s m)
noncomputable def pasS (n : Nat) (s : List Tab × Bool) : Nat → List Tab × Bool
  | 0 => s
  | m + 1 => innS m (pasS n s m) n
noncomputable def pass (ts : List Tab) : List Tab × Bool := pasS ts.length (ts, false) ts.length
def tot (ts : List Tab) : Nat := (ts.map fun t => t.rows.length).sum
noncomputable def redF : Nat → List Tab → List Tab
  | 0, ts => ts
  | f + 1, ts => if (pass ts).2 = true then redF f (pass ts).1 else ts
noncomputable def redR (ts : List Tab) : List Tab := redF (tot ts + 1) ts
open Classical in
noncomputable def redV (ts : List Tab) : List Tab × Int := if TabsOk ts then (redR ts, 0) else ([], 1)
theorem redV_no {ts : List Tab} (h : ¬ TabsOk ts) : redV ts = ([], 1) := by unfold redV; rw [if_neg h]
theorem redV_yes {ts : List Tab} (h : TabsOk ts) : redV ts = (redR ts, 0) := by unfold redV; rw [if_pos h]
theorem tot_set : ∀ {ts : List Tab} {i : Nat} {t : Tab}, i < ts.length → tot (ts.set i t) + (ts.getD i t0).rows.length = tot ts + t.rows.length
  | [], i, t, h => by simp at h
  | u :: ts, 0, t, _ => by simp [tot]; omega
  | u :: ts, i + 1, t, h => by
    have := tot_set (ts := ts) (i := i) (t := t) (by simpa using h)
    simp only [tot, List.set_cons_succ, List.map_cons, List.sum_cons, List.getD_cons_succ] at this ⊢
    omega
/-- what holds of a state on the way. -/
structure RedS (ts : List Tab) (s : List Tab × Bool) : Prop where
  len : s.1.length = ts.length
  ok : ∀ i, i < s.1.length → TabOk (s.1.getD i t0)
  le : tot s.1 ≤ tot ts
  lt : s.2 = true → tot s.1 < tot ts
  eq : s.2 = false → s.1 = ts
  rows : ∀ i, i < s.1.length → (s.1.getD i t0).rows.length ≤ (ts.getD i t0).rows.length
theorem set_get {ts : List Tab} {i j : Nat} {t : Tab} (hi : i < ts.length) : (ts.set i t).getD j t0 = if j = i then t else ts.getD j t0 := by
  by_cases h : j = i
  · subst h; simp [List.getD, hi]
  · rw [if_neg h]; simp [List.getD, List.getElem?_set, Ne.symm h]
theorem RedS.step {ts : List Tab} {s : List Tab × Bool} (h : RedS ts s) {i j : Nat} (hi : i < ts.length) (hj : j < ts.length) : RedS ts (stepS i j s) := by
  unfold stepS
  have hl := h.len
  split
  · next hlt =>
    have ht := tot_set (ts := s.1) (i := i) (t := semiT (s.1.getD i t0) (s.1.getD j t0)) (by omega)
    have hle := h.le
    refine ⟨by rw [List.length_set]; exact h.len, fun k hk => ?_, ?_, fun _ => ?_, fun y => (by cases y), fun k hk => ?_⟩
    · rw [List.length_set] at hk
      show TabOk ((s.1.set i _).getD k t0)
      rw [set_get (by omega)]
      split
      · exact semi_ok (h.ok i (by omega))
      · exact h.ok k hk
    · show tot (s.1.set i _) ≤ _; omega
    · show tot (s.1.set i _) < _; omega
    · rw [List.length_set] at hk
      show ((s.1.set i _).getD k t0).rows.length ≤ _
      rw [set_get (by omega)]
      split
      · next e => subst e; have := h.rows k hk; omega
      · exact h.rows k hk
  · exact h
theorem RedS.inn {ts : List Tab} {s : List Tab × Bool} (h : RedS ts s) {i : Nat} (hi : i < ts.length) : ∀ m, m ≤ ts.length → RedS ts (innS i s m)
  | 0, _ => h
  | m + 1, hm => (RedS.inn h hi m (by omega)).step hi (by omega)
theorem RedS.pas {ts : List Tab} {s : List Tab × Bool} (h : RedS ts s) : ∀ m, m ≤ ts.length → RedS ts (pasS ts.length s m)
  | 0, _ => h
  | m + 1, hm => (RedS.pas h m (by omega)).inn (by omega) _ (Nat.le_refl _)
def TsV (ts : List Tab) : Prop := ∀ i, i < ts.length → TabOk (ts.getD i t0)
theorem RedS.start {ts : List Tab} (h : TsV ts) : RedS ts (ts, false) := ⟨rfl, h, Nat.le_refl _, fun y => (by cases y), fun _ => rfl, fun _ _ => Nat.le_refl _⟩
theorem RedS.pass {ts : List Tab} (h : TsV ts) : RedS ts (Gh.pass ts) := (RedS.start h).pas _ (Nat.le_refl _)
theorem redF_eq : ∀ (f f' : Nat) (ts : List Tab), TsV ts → tot ts < f → tot ts < f' → redF f ts = redF f' ts
  | 0, f', ts, _, h, _ => by omega
  | f + 1, 0, ts, _, _, h => by omega
  | f + 1, f' + 1, ts, hv, h, h' => by
    rw [redF, redF]
    split
    · next hc =>
      have hp := RedS.pass hv
      have := hp.lt hc
      exact redF_eq f f' _ hp.ok (by omega) (by omega)
    · rfl
theorem redR_yes {ts : List Tab} (h : TsV ts) (hc : (pass ts).2 = true) : redR ts = redR (pass ts).1 := by
  have hp := RedS.pass h
  have := hp.lt hc
  unfold redR
  rw [redF, if_pos hc]
  exact redF_eq _ _ _ hp.ok (by omega) (by omega)
theorem redR_no {ts : List Tab} (h : TsV ts) (hc : (pass ts).2 = false) : redR ts = (pass ts).1 := by
  unfold redR
  rw [redF, if_neg (by rw [hc]; simp), (RedS.pass h).eq hc]
theorem redR_spec : ∀ (n : Nat) (ts : List Tab), tot ts < n → TsV ts → (redR ts).length = ts.length ∧ TsV (redR ts) ∧ (pass (redR ts)).2 = false ∧ ∀ i, i < ts.length → ((redR ts).getD i t0).rows.length ≤ (ts.getD i t0).rows.length
  | 0, _, h, _ => by omega
  | n + 1, ts, h, hv => by
    have hp := RedS.pass hv
    cases hc : (pass ts).2 with
    | false =>
      rw [redR_no hv hc, hp.eq hc]
      exact ⟨rfl, hv, hc, fun _ _ => Nat.le_refl _⟩
    | true =>
      have := hp.lt hc
      obtain ⟨h1, h2, h3, h4⟩ := redR_spec n (pass ts).1 (by omega) hp.ok
      rw [redR_yes hv hc]
      refine ⟨h1.trans hp.len, h2, h3, fun i hi => ?_⟩
      have := h4 i (by rw [hp.len]; exact hi)
      have := hp.rows i (by rw [hp.len]; exact hi)
      omega
theorem TabsOk.v {ts : List Tab} (h : TabsOk ts) : TsV ts := h.2
theorem redR_ok {ts : List Tab} (h : TabsOk ts) : TabsOk (redR ts) := by
  obtain ⟨h1, h2, _⟩ := redR_spec _ ts (Nat.lt_succ_self _) h.v
  exact ⟨by rw [h1]; exact h.1, h2⟩
/-- at rest nothing is left out. -/
theorem stepS_rest {i j : Nat} {s : List Tab × Bool} (h : (stepS i j s).2 = false) : s.2 = false ∧ stepS i j s = s ∧ ¬ (semiT (s.1.getD i t0) (s.1.getD j t0)).rows.length < (s.1.getD i t0).rows.length := by
  unfold stepS at h ⊢
  split at h
  · cases h
  · next hn => rw [if_neg hn]; exact ⟨h, rfl, hn⟩
theorem innS_rest {i : Nat} {s : List Tab × Bool} : ∀ m, (innS i s m).2 = false → s.2 = false ∧ innS i s m = s ∧ ∀ j, j < m → ¬ (semiT (s.1.getD i t0) (s.1.getD j t0)).rows.length < (s.1.getD i t0).rows.length
  | 0, h => ⟨h, rfl, fun j hj => by omega⟩
  | m + 1, h => by
    obtain ⟨h1, h2, h3⟩ := stepS_rest (s := innS i s m) h
    obtain ⟨k1, k2, k3⟩ := innS_rest m h1
    rw [k2] at h3
    refine ⟨k1, h2.trans k2, fun j hj => ?_⟩
    by_cases c : j = m
    · subst c; exact h3
    · exact k3 j (by omega)
theorem pasS_rest {n : Nat} {s : List Tab × Bool} : ∀ m, (pasS n s m).2 = false → s.2 = false ∧ pasS n s m = s ∧ ∀ i j, i < m → j < n → ¬ (semiT (s.1.getD i t0) (s.1.getD j t0)).rows.length < (s.1.getD i t0).rows.length
  | 0, h => ⟨h, rfl, fun i j hi => by omega⟩
  | m + 1, h => by
    obtain ⟨h1, h2, h3⟩ := innS_rest n (s := pasS n s m) h
    obtain ⟨k1, k2, k3⟩ := pasS_rest m h1
    rw [k2] at h3
    refine ⟨k1, h2.trans k2, fun i j hi hj => ?_⟩
    by_cases c : i = m
    · subst c; exact h3 j hj
    · exact k3 i j (by omega) hj
/-- the first pair of tables that do not agree. -/
def DisR (ts : List Tab) : Option (Nat × Nat) → Prop
  | none => ∀ i j, i < j → j < ts.length → AgreeP (ts.getD i t0) (ts.getD j t0)
  | some (i, j) => i < j ∧ j < ts.length ∧ ¬ AgreeP (ts.getD i t0) (ts.getD j t0) ∧ ∀ i' j', i' < j' → j' < ts.length → (i' < i ∨ (i' = i ∧ j' < j)) → AgreeP (ts.getD i' t0) (ts.getD j' t0)
theorem DisR.one {ts : List Tab} {r r' : Option (Nat × Nat)} (h : DisR ts r) (h' : DisR ts r') : r = r' := by
  cases r with
  | none =>
    cases r' with
    | none => rfl
    | some p => exact absurd (h p.1 p.2 h'.1 h'.2.1) h'.2.2.1
  | some p =>
    cases r' with
    | none => exact absurd (h' p.1 p.2 h.1 h.2.1) h.2.2.1
    | some p' =>
      obtain ⟨i, j⟩ := p
      obtain ⟨i', j'⟩ := p'
      obtain ⟨a1, a2, a3, a4⟩ := h
      obtain ⟨b1, b2, b3, b4⟩ := h'
      have c1 : ¬ (i' < i ∨ (i' = i ∧ j' < j)) := fun y => b3 (a4 _ _ b1 b2 y)
      have c2 : ¬ (i < i' ∨ (i = i' ∧ j < j')) := fun y => a3 (b4 _ _ a1 a2 y)
      have e1 : i = i' := by omega
      have e2 : j = j' := by omega
      rw [e1, e2]
noncomputable def disT (ts : List Tab) : Option (Nat × Nat) := Classical.epsilon (DisR ts)
theorem disT_eq {ts : List Tab} {r : Option (Nat × Nat)} (h : DisR ts r) : disT ts = r := (Classical.epsilon_spec ⟨r, h⟩ : DisR ts (disT ts)).one h
def tri3V (p : Int × Int × Int) : Value := .tuple [.int .i64 p.1, .int .i64 p.2.1, .int .i64 p.2.2].toArray
def disV : Option (Nat × Nat) → Value
  | none => .tuple [.int .i64 0, .int .i64 0, .bool false].toArray
  | some (i, j) => .tuple [.int .i64 i, .int .i64 j, .bool true].toArray
def fdO : Option (Nat × Nat) → Int × Int × Int
  | none => (0, 0, 3)
  | some (i, j) => (i, j, 0)
open Classical in
noncomputable def fdV (ts : List Tab) : Int × Int × Int := if TabsOk ts then fdO (disT ts) else (0, 0, 1)
theorem fdV_no {ts : List Tab} (h : ¬ TabsOk ts) : fdV ts = (0, 0, 1) := by unfold fdV; rw [if_neg h]
theorem fdV_yes {ts : List Tab} {r : Option (Nat × Nat)} (h : TabsOk ts) (hr : DisR ts r) : fdV ts = fdO r := by unfold fdV; rw [if_pos h, disT_eq hr]
theorem impl_disagreement_ok {G : GH} {A : Option Addr} {c : Nat} {H : Nat → TH} {ts : List Tab} (h : TabsS G A c H ts) (ho : TabsOk ts) {K : Value → GH → Prop}
    (hk : ∀ r, DisR ts r → K (disV r) G) : GC Tryz.prog 120 [.slice A ts.length c] G K := by
  refine GC_drop (c_impl_disagreement_i (by simp) ?_)
  obtain ⟨h6, hv⟩ := ho
  have hsn := h.sn
  have r0 := h.r0
  have r1 := h.r1
  simp (maxSteps := 300000) (disch := omega) only [gs, gs2, gs3, gs4, ↓reduceIte, Nat.reduceEqDiff, Int.reduceToNat, Nat.reduceMul, Nat.reduceAdd, Nat.reduceBEq, isLd]
  refine gLoop_intro (fun m T G' => ∃ k : Nat, T 0 = .slice A ts.length c ∧ T 8 = .slice A ts.length c ∧ T 9 = .int .i64 ts.length ∧ T 10 = .int .i64 k ∧ m + k = ts.length ∧ k ≤ ts.length ∧ G' = G ∧ ∀ i j, i < j → j < ts.length → i < k → AgreeP (ts.getD i t0) (ts.getD j t0)) ts.length
    ⟨0, by simp (maxSteps := 300000) (disch := omega) only [gs, gs2, gs3, gs4, ↓reduceIte, Nat.reduceEqDiff, Int.reduceToNat, Nat.reduceMul, Nat.reduceAdd, Nat.reduceBEq, isLd], by simp (maxSteps := 300000) (disch := omega) only [gs, gs2, gs3, gs4, ↓reduceIte, Nat.reduceEqDiff, Int.reduceToNat, Nat.reduceMul, Nat.reduceAdd, Nat.reduceBEq, isLd], by simp (maxSteps := 300000) (disch := omega) only [gs, gs2, gs3, gs4, ↓reduceIte, Nat.reduceEqDiff, Int.reduceToNat, Nat.reduceMul, Nat.reduceAdd, Nat.reduceBEq, isLd], by simp (maxSteps := 300000) (disch := omega) only [gs, gs2, gs3, gs4, ↓reduceIte, Nat.reduceEqDiff, Int.reduceToNat, Nat.reduceMul, Nat.reduceAdd, Nat.reduceBEq, isLd] <;> rfl, by omega, by omega, rfl, fun i j _ _ y => by omega⟩ ?_
  rintro m T G' ⟨k, e0, e8, e9, e10, hm, hkl, rfl, hin⟩
  simp (maxSteps := 300000) (disch := omega) only [gs, gs2, gs3, gs4, ↓reduceIte, Nat.reduceEqDiff, Int.reduceToNat, Nat.reduceMul, Nat.reduceAdd, Nat.reduceBEq, isLd, e0, e8, e9, e10]
  by_cases hkk : (k : Int) < ts.length
  · obtain ⟨ra, ca, na⟩ := (hv k (by omega)).rowL
    simp (maxSteps := 300000) (disch := omega) only [gs, gs2, gs3, gs4, ↓reduceIte, Nat.reduceEqDiff, Int.reduceToNat, Nat.reduceMul, Nat.reduceAdd, Nat.reduceBEq, isLd, e0, e8, e9, e10, hkk, r0, r1]
    intro b6 hb6
    simp (maxSteps := 300000) (disch := omega) only [gs, gs2, gs3, gs4, ↓reduceIte, Nat.reduceEqDiff, Int.reduceToNat, Nat.reduceMul, Nat.reduceAdd, Nat.reduceBEq, isLd]
    refine st_fresh (vs := [.slice (H k).A (ts.getD k t0).cols.length (H k).c, .slice (H k).B (ts.getD k t0).rows.length (H k).d]) rfl rfl rfl (by intro v hv; simp at hv; rcases hv with rfl | rfl <;> rfl) ?_
    have p6 := TabP.box hb6 (h.cols k (by omega)) (h.rows k (by omega))
    have s6 := Sub.put hb6 ⟨tabC (ts.getD k t0) (H k).A (H k).c (H k).B (H k).d, true⟩
    unfold tabC at p6 s6
    revert p6 s6
    generalize put G' b6 ⟨[.slice (H k).A (ts.getD k t0).cols.length (H k).c, .slice (H k).B (ts.getD k t0).rows.length (H k).d], true⟩ = G1
    intro p6 s6
    have h1 := h.sub s6
    have q0 := h1.r0
    have q1 := h1.r1
    have f61 : rd G1 (some ⟨b6, 1, none⟩) = some (.slice (H k).B (ts.getD k t0).rows.length (H k).d) := by have := p6.f1; rwa [pa_mk] at this
    simp (maxSteps := 300000) (disch := omega) only [gs, gs2, gs3, gs4, ↓reduceIte, Nat.reduceEqDiff, Int.reduceToNat, Nat.reduceMul, Nat.reduceAdd, Nat.reduceBEq, isLd, e0, e8, e9, e10]
    refine gLoop_intro (fun m' T' G'' => ∃ j : Nat, T' 0 = .slice A ts.length c ∧ T' 5 = .int .i64 k ∧ T' 6 = .pointer (some ⟨b6, 0, none⟩) ∧ T' 7 = .int .i64 j ∧ T' 8 = .slice A ts.length c ∧ T' 9 = .int .i64 ts.length ∧ T' 10 = .int .i64 k ∧ m' + j = ts.length ∧ k < j ∧ j ≤ ts.length ∧ G'' = G1 ∧ ∀ j', k < j' → j' < j → AgreeP (ts.getD k t0) (ts.getD j' t0)) (ts.length - (k + 1))
      ⟨k + 1, by simp (maxSteps := 300000) (disch := omega) only [gs, gs2, gs3, gs4, ↓reduceIte, Nat.reduceEqDiff, Int.reduceToNat, Nat.reduceMul, Nat.reduceAdd, Nat.reduceBEq, isLd, e0], by simp (maxSteps := 300000) (disch := omega) only [gs, gs2, gs3, gs4, ↓reduceIte, Nat.reduceEqDiff, Int.reduceToNat, Nat.reduceMul, Nat.reduceAdd, Nat.reduceBEq, isLd], by simp (maxSteps := 300000) (disch := omega) only [gs, gs2, gs3, gs4, ↓reduceIte, Nat.reduceEqDiff, Int.reduceToNat, Nat.reduceMul, Nat.reduceAdd, Nat.reduceBEq, isLd], by simp (maxSteps := 300000) (disch := omega) only [gs, gs2, gs3, gs4, ↓reduceIte, Nat.reduceEqDiff, Int.reduceToNat, Nat.reduceMul, Nat.reduceAdd, Nat.reduceBEq, isLd] <;> rfl, by simp (maxSteps := 300000) (disch := omega) only [gs, gs2, gs3, gs4, ↓reduceIte, Nat.reduceEqDiff, Int.reduceToNat, Nat.reduceMul, Nat.reduceAdd, Nat.reduceBEq, isLd, e8], by simp (maxSteps := 300000) (disch := omega) only [gs, gs2, gs3, gs4, ↓reduceIte, Nat.reduceEqDiff, Int.reduceToNat, Nat.reduceMul, Nat.reduceAdd, Nat.reduceBEq, isLd, e9], by simp (maxSteps := 300000) (disch := omega) only [gs, gs2, gs3, gs4, ↓reduceIte, Nat.reduceEqDiff, Int.reduceToNat, Nat.reduceMul, Nat.reduceAdd, Nat.reduceBEq, isLd, e10], by omega, by omega, by omega, rfl, fun j' _ _ => by omega⟩ ?_
    clear e0 e8 e9 e10
    rintro m' T' G'' ⟨j, e0, e5, e6, e7, e8, e9, e10, hm', hkj, hjl, rfl, hin'⟩
    simp (maxSteps := 300000) (disch := omega) only [gs, gs2, gs3, gs4, ↓reduceIte, Nat.reduceEqDiff, Int.reduceToNat, Nat.reduceMul, Nat.reduceAdd, Nat.reduceBEq, isLd, e0, e5, e6, e7, e8, e9, e10]
    by_cases hjj : (j : Int) < ts.length
    · obtain ⟨rb, cb, nb⟩ := (hv j (by omega)).rowL
      simp (maxSteps := 300000) (disch := omega) only [gs, gs2, gs3, gs4, ↓reduceIte, Nat.reduceEqDiff, Int.reduceToNat, Nat.reduceMul, Nat.reduceAdd, Nat.reduceBEq, isLd, e0, e5, e6, e7, e8, e9, e10, hjj, p6.f0, f61, q0, q1]
      refine impl_agree_ok (a := ts.getD k t0) (b := ts.getD j t0) p6.cols p6.rows (h1.cols j (by omega)) (h1.rows j (by omega)) (by omega) (by omega) ra rb (by omega) (by omega) fun z hz => ?_
      cases z
      · simp (maxSteps := 300000) (disch := omega) only [gs, gs2, gs3, gs4, ↓reduceIte, Nat.reduceEqDiff, Int.reduceToNat, Nat.reduceMul, Nat.reduceAdd, Nat.reduceBEq, isLd, e0, e5, e6, e7, e8, e9, e10]
        refine ⟨G', s6, hk (some (k, j)) ⟨hkj, by omega, fun y => (by have := hz.2 y; cases this), fun i' j' y1 y2 y3 => ?_⟩⟩
        rcases y3 with y3 | ⟨rfl, y3⟩
        · exact hin _ _ y1 y2 y3
        · exact hin' _ y1 y3
      · simp (maxSteps := 300000) (disch := omega) only [gs, gs2, gs3, gs4, ↓reduceIte, Nat.reduceEqDiff, Int.reduceToNat, Nat.reduceMul, Nat.reduceAdd, Nat.reduceBEq, isLd, e0, e5, e6, e7, e8, e9, e10]
        refine ⟨m' - 1, by omega, _, Sub.refl _, j + 1, rfl, by omega, by omega, by omega, rfl, fun j' y1 y2 => ?_⟩
        by_cases c : j' = j
        · subst c; exact hz.1 rfl
        · exact hin' j' y1 (by omega)
    · simp (maxSteps := 300000) (disch := omega) only [gs, gs2, gs3, gs4, ↓reduceIte, Nat.reduceEqDiff, Int.reduceToNat, Nat.reduceMul, Nat.reduceAdd, Nat.reduceBEq, isLd, e0, e5, e6, e7, e8, e9, e10, hjj]
      refine ⟨m - 1, by omega, G', s6, k + 1, rfl, by omega, by omega, rfl, fun i j' y1 y2 y3 => ?_⟩
      by_cases c : i = k
      · subst c; exact hin' j' y1 (by omega)
      · exact hin i j' y1 y2 (by omega)
  · simp (maxSteps := 300000) (disch := omega) only [gs, gs2, gs3, gs4, ↓reduceIte, Nat.reduceEqDiff, Int.reduceToNat, Nat.reduceMul, Nat.reduceAdd, Nat.reduceBEq, isLd, e0, e8, e9, e10, hkk]
    exact ⟨G', Sub.refl _, hk none fun i j y1 y2 => hin i j y1 y2 (by omega)⟩
theorem impl_FirstDisagreement_ok {G : GH} {A : Option Addr} {c : Nat} {H : Nat → TH} {ts : List Tab} (h : TabsS G A c H ts) (hl : TabsSm ts) {K : Value → GH → Prop}
    (hk : K (tri3V (fdV ts)) G) : GC Tryz.prog 53 [.slice A ts.length c] G K := by
  refine c_impl_FirstDisagreement_i (by simp) ?_
  simp (maxSteps := 300000) (disch := omega) only [gs, gs2, gs3, gs4, ↓reduceIte, Nat.reduceEqDiff, Int.reduceToNat, Nat.reduceMul, Nat.reduceAdd, Nat.reduceBEq, isLd]
  refine impl_ValidTables_ok h hl fun z hz => ?_
  cases z
  · simp (maxSteps := 300000) (disch := omega) only [gs, gs2, gs3, gs4, ↓reduceIte, Nat.reduceEqDiff, Int.reduceToNat, Nat.reduceMul, Nat.reduceAdd, Nat.reduceBEq, isLd]
    rw [fdV_no fun y => by have := hz.2 y; cases this] at hk
    exact hk
  · simp (maxSteps := 300000) (disch := omega) only [gs, gs2, gs3, gs4, ↓reduceIte, Nat.reduceEqDiff, Int.reduceToNat, Nat.reduceMul, Nat.reduceAdd, Nat.reduceBEq, isLd]
    refine impl_disagreement_ok h (hz.1 rfl) fun r hr => ?_
    rw [fdV_yes (hz.1 rfl) hr] at hk
    cases r with
    | none => unfold disV; simp (maxSteps := 300000) (disch := omega) only [gs, gs2, gs3, gs4, ↓reduceIte, Nat.reduceEqDiff, Int.reduceToNat, Nat.reduceMul, Nat.reduceAdd, Nat.reduceBEq, isLd]; exact hk
    | some p => obtain ⟨i, j⟩ := p; unfold disV; simp (maxSteps := 300000) (disch := omega) only [gs, gs2, gs3, gs4, ↓reduceIte, Nat.reduceEqDiff, Int.reduceToNat, Nat.reduceMul, Nat.reduceAdd, Nat.reduceBEq, isLd]; exact hk
theorem mem_joinR {a b : Tab} {r : List Int} : r ∈ joinR a b a.rows ↔ ∃ x ∈ a.rows, ∃ y ∈ b.rows, FitP a.cols b.cols x y ∧ r = joinRow a b x y := by
  unfold joinR joinP
  simp only [List.mem_flatMap, List.mem_map, List.mem_filter, decide_eq_true_eq]
  constructor
  · rintro ⟨x, hx, y, ⟨hy, hf⟩, rfl⟩; exact ⟨x, hx, y, hy, hf, rfl⟩
  · rintro ⟨x, hx, y, hy, hf, rfl⟩; exact ⟨x, hx, y, ⟨hy, hf⟩, rfl⟩
theorem cellAt_map {cs : List Int} {f : Int → Int} {v : Int} (hv : v ∈ cs) : cellAt cs (cs.map f) v = f v := by
  have hlt := List.idxOf_lt_length_iff.2 hv
  unfold cellAt
  have : (cs.map f).getD (cs.idxOf v) 0 = f (cs[cs.idxOf v]) := by simp [List.getD, hlt]
  rw [this, List.getElem_idxOf hlt]
theorem jcols_iff {a b : Tab} (ha : Rise a.cols) {v : Int} : v ∈ jcols a b ↔ v ∈ a.cols ∨ v ∈ b.cols := (uniL_spec b.cols (riseP.1 ha)).2.1 v
theorem jcols_rise {a b : Tab} (ha : Rise a.cols) : Rise (jcols a b) := riseP.2 (uniL_spec b.cols (riseP.1 ha)).1
theorem jcols_comm {a b : Tab} (ha : Rise a.cols) (hb : Rise b.cols) : jcols a b = jcols b a :=
  rise_unique (riseP.1 (jcols_rise ha)) (riseP.1 (jcols_rise hb)) fun z => by rw [jcols_iff ha, jcols_iff hb]; exact Or.comm
theorem inB_mem' {xs : List Int} {lo hi : Int} : InB xs lo hi ↔ ∀ v ∈ xs, lo ≤ v ∧ v ≤ hi := by
  constructor
  · intro h v hv
    obtain ⟨i, hi, rfl⟩ := List.mem_iff_getElem.1 hv
    have := h i hi
    rwa [show xs.getD i 0 = xs[i] by simp [List.getD, hi]] at this
  · intro h i hi
    exact h _ (by simp [List.getD, hi])
theorem cellAt_in3 {a x : List Int} {v : Int} (h : x.length = a.length) (hb : InB x 0 3) (hv : v ∈ a) : 0 ≤ cellAt a x v ∧ cellAt a x v ≤ 3 := by
  have hlt := List.idxOf_lt_length_iff.2 hv
  exact hb _ (by omega)
theorem joinRow_in {a b : Tab} (ha : TabOk a) (hb : TabOk b) {x y : List Int} (hx : x ∈ a.rows) (hy : y ∈ b.rows) : InB (joinRow a b x y) 0 3 := by
  rw [inB_mem']
  intro v hv
  unfold joinRow at hv
  obtain ⟨w, hw, rfl⟩ := List.mem_map.1 hv
  obtain ⟨lx, bx⟩ := tab_rows ha hx
  obtain ⟨ly, by'⟩ := tab_rows hb hy
  rw [cellAt_app lx]
  by_cases h : w ∈ a.cols
  · rw [if_pos h]; exact cellAt_in3 lx bx h
  · rw [if_neg h]
    exact cellAt_in3 ly by' (((jcols_iff ha.1).1 hw).resolve_left h)
theorem joinT_ok {a b : Tab} (ha : TabOk a) (hb : TabOk b) (hn : ¬ 24 < (joinR a b a.rows).length) : TabOk (joinT a b) := by
  have hs := srt_len (joinR a b a.rows)
  refine asc_tab (jcols_rise ha.1) ?_ (by omega) (fun r hr => ?_) (srt_asc _)
  · rw [inB_mem']
    intro v hv
    rcases (jcols_iff ha.1).1 hv with h | h
    · exact inB_mem'.1 ha.2.1 v h
    · exact inB_mem'.1 hb.2.1 v h
  · rw [srt_mem, mem_joinR] at hr
    obtain ⟨x, hx, y, hy, _, rfl⟩ := hr
    exact ⟨joinRow_len _ _ _ _, joinRow_in ha hb hx hy⟩
theorem joinRow_left {a b : Tab} (ha : Rise a.cols) {x y : List Int} (lx : x.length = a.cols.length) : prj (jcols a b) a.cols (joinRow a b x y) = x := by
  refine row_ext ha (by rw [prj_len]) lx fun v hv => ?_
  unfold prj
  rw [cellAt_map hv]
  unfold joinRow
  rw [cellAt_map ((jcols_iff ha).2 (.inl hv)), cellAt_app lx, if_pos hv]
/-- the columns of one table, out of a join: what the semi-join leaves. -/
theorem proj_join {a b : Tab} (ha : TabOk a) (hb : TabOk b) (hn : ¬ 24 < (joinR a b a.rows).length) : projV (joinT a b) a.cols = (semiT a b, 0) := by
  rw [projV_yes (joinT_ok ha hb hn) ⟨ha.1, fun v hv => (jcols_iff ha.1).2 (.inl hv)⟩]
  congr 1
  show (⟨a.cols, srt ((srt (joinR a b a.rows)).map (prj (jcols a b) a.cols))⟩ : Tab) = ⟨a.cols, semiR a b⟩
  congr 1
  refine (srt_eq ?_ fun z => ?_).symm
  · unfold semiR; exact (tab_asc ha).filter _
  · unfold semiR
    rw [List.mem_filter, List.mem_map]
    constructor
    · rintro ⟨hz, hy⟩
      obtain ⟨y, hy, hf⟩ : ∃ y ∈ b.rows, FitP a.cols b.cols z y := by simpa using hy
      exact ⟨joinRow a b z y, by rw [srt_mem, mem_joinR]; exact ⟨z, hz, y, hy, hf, rfl⟩, joinRow_left ha.1 (tab_rows ha hz).1⟩
    · rintro ⟨r, hr, rfl⟩
      rw [srt_mem, mem_joinR] at hr
      obtain ⟨x, hx, y, hy, hf, rfl⟩ := hr
      rw [joinRow_left ha.1 (tab_rows ha hx).1]
      exact ⟨hx, by simpa using ⟨y, hy, hf⟩⟩
theorem FitP.symm {a b x y : List Int} (h : FitP a b x y) : FitP b a y x := fun c h1 h2 => (h c h2 h1).symm
theorem joinRow_comm {a b : Tab} (ha : TabOk a) (hb : TabOk b) {x y : List Int} (hx : x ∈ a.rows) (hy : y ∈ b.rows) (hf : FitP a.cols b.cols x y) : joinRow a b x y = joinRow b a y x := by
  unfold joinRow
  rw [jcols_comm ha.1 hb.1]
  refine List.map_congr_left fun v hv => ?_
  rw [cellAt_app (tab_rows ha hx).1, cellAt_app (tab_rows hb hy).1]
  by_cases h1 : v ∈ a.cols
  · by_cases h2 : v ∈ b.cols
    · rw [if_pos h1, if_pos h2]; exact hf v h1 h2
    · rw [if_pos h1, if_neg h2]
  · rw [if_neg h1, if_pos (((jcols_iff hb.1).1 hv).resolve_right h1)]
theorem joinR_comm {a b : Tab} (ha : TabOk a) (hb : TabOk b) {r : List Int} : r ∈ joinR a b a.rows ↔ r ∈ joinR b a b.rows := by
  rw [mem_joinR, mem_joinR]
  constructor
  · rintro ⟨x, hx, y, hy, hf, rfl⟩; exact ⟨y, hy, x, hx, hf.symm, joinRow_comm ha hb hx hy hf⟩
  · rintro ⟨y, hy, x, hx, hf, rfl⟩; exact ⟨x, hx, y, hy, hf.symm, (joinRow_comm ha hb hx hy hf.symm).symm⟩
theorem join_comm {a b : Tab} (ha : TabOk a) (hb : TabOk b) (hn : ¬ 24 < (joinR a b a.rows).length) : joinV b a = (joinT a b, 0) := by
  have hl : (joinR b a b.rows).length = (joinR a b a.rows).length := ((List.perm_ext_iff_of_nodup (joinR_nodup ha hb) (joinR_nodup hb ha)).2 fun z => joinR_comm ha hb).length_eq.symm
  rw [joinV_yes ⟨hb, ha⟩ (by omega)]
  congr 1
  unfold joinT
  rw [jcols_comm ha.1 hb.1]
  congr 1
  exact asc_unique (srt_asc _) (srt_asc _) fun z => by rw [srt_mem, srt_mem]; exact (joinR_comm ha hb).symm
theorem joinV_zero {a b : Tab} (h : (joinV a b).2 = 0) : TabOk a ∧ TabOk b ∧ ¬ 24 < (joinR a b a.rows).length := by
  by_cases h1 : TabOk a ∧ TabOk b
  · by_cases h2 : 24 < (joinR a b a.rows).length
    · rw [joinV_full h1 h2] at h; cases h
    · exact ⟨h1.1, h1.2, h2⟩
  · rw [joinV_no h1] at h; cases h
/-- what holds of a join. -/
theorem join_law {a b : Tab} (h : (joinV a b).2 = 0) : (semiV a b).2 = 0 ∧ (projV (joinV a b).1 a.cols).2 = 0 ∧ (joinV b a).2 = 0 ∧ TabOk (joinV a b).1 ∧ (projV (joinV a b).1 a.cols).1 = (semiV a b).1 ∧ (joinV b a).1 = (joinV a b).1 := by
  obtain ⟨ha, hb, hn⟩ := joinV_zero h
  rw [joinV_yes ⟨ha, hb⟩ hn, semiV_yes ⟨ha, hb⟩, join_comm ha hb hn]
  show 0 = 0 ∧ (projV (joinT a b) a.cols).2 = 0 ∧ 0 = 0 ∧ _ ∧ (projV (joinT a b) a.cols).1 = semiT a b ∧ _
  rw [proj_join ha hb hn]
  exact ⟨rfl, rfl, rfl, joinT_ok ha hb hn, rfl, rfl⟩
theorem semi_full {a b : Tab} (h : ¬ (semiT a b).rows.length < a.rows.length) : ∀ x ∈ a.rows, ∃ y ∈ b.rows, FitP a.cols b.cols x y := by
  intro x hx
  have h1 : (semiR a b).length = a.rows.length := Nat.le_antisymm (List.length_filter_le _ _) (Nat.le_of_not_lt h)
  unfold semiR at h1
  have := List.length_filter_eq_length_iff.1 h1 x hx
  simpa using this
theorem fit_prj {a b x y : List Int} (h : FitP a b x y) : prj a (comm a b) x = prj b (comm a b) y := fit_map.2 h
theorem agree_rest {a b : Tab} (h : ¬ (semiT a b).rows.length < a.rows.length) (k : ¬ (semiT b a).rows.length < b.rows.length) : AgreeP a b := by
  unfold AgreeP projT
  congr 1
  refine asc_unique (srt_asc _) (srt_asc _) fun z => ?_
  rw [srt_mem, srt_mem, List.mem_map, List.mem_map]
  constructor
  · rintro ⟨x, hx, rfl⟩
    obtain ⟨y, hy, hf⟩ := semi_full h x hx
    exact ⟨y, hy, (fit_prj hf).symm⟩
  · rintro ⟨y, hy, rfl⟩
    obtain ⟨x, hx, hf⟩ := semi_full k y hy
    exact ⟨x, hx, fit_prj hf.symm⟩
/-- what holds of tables that are reduced. -/
theorem red_law {ts : List Tab} (h : (redV ts).2 = 0) : (redV ts).1.length = ts.length ∧ TabsOk (redV ts).1 ∧ (fdV (redV ts).1).2.2 = 3 ∧ (redV (redV ts).1) = ((redV ts).1, 0) ∧ ∀ i, i < ts.length → ((redV ts).1.getD i t0).rows.length ≤ (ts.getD i t0).rows.length := by
  have hok : TabsOk ts := Classical.byContradiction fun hn => by rw [redV_no hn] at h; cases h
  rw [redV_yes hok]
  show (redR ts).length = _ ∧ TabsOk (redR ts) ∧ (fdV (redR ts)).2.2 = 3 ∧ redV (redR ts) = (redR ts, 0) ∧ ∀ i, i < ts.length → ((redR ts).getD i t0).rows.length ≤ _
  obtain ⟨h1, h2, h3, h4⟩ := redR_spec _ ts (Nat.lt_succ_self _) hok.v
  have hk := redR_ok hok
  obtain ⟨_, _, hr⟩ := pasS_rest (n := (redR ts).length) (s := (redR ts, false)) (redR ts).length h3
  refine ⟨h1, hk, ?_, ?_, h4⟩
  · rw [fdV_yes hk (r := none) fun i j hij hj => agree_rest (hr i j (by omega) hj) (hr j i hj (by omega))]; rfl
  · rw [redV_yes hk, redR_no hk.v h3, (RedS.pass hk.v).eq h3]
theorem redV_code {ts : List Tab} (h : ¬ (redV ts).2 = 0) : (redV ts).1 = [] := by
  have hok : ¬ TabsOk ts := fun hn => h (by rw [redV_yes hn])
  rw [redV_no hok]
theorem TabP.g1 {G : GH} {q : Nat} {N : Tab} {A B : Option Addr} {c d : Nat} {hs : Nat → Option Addr × Nat} (h : TabP G (some ⟨q, 0, none⟩) N A c B d hs) : Gh.rd G (some ⟨q, 1, none⟩) = some (.slice B N.rows.length d) := by
  have := h.f1; rwa [pa_mk] at this
theorem BoxT.p {G G' : GH} {q : Nat} {N : Tab} {A B : Option Addr} {c d : Nat} {hs : Nat → Option Addr × Nat} (h : BoxT G G' q N A c B d hs) : TabP (rest G G') (some ⟨q, 0, none⟩) N A c B d hs :=
  ⟨by simp only [rd, h.box]; rfl, by rw [pa_mk]; simp only [rd, h.box]; rfl, h.own.cols.ints, h.own.rows.rows⟩
theorem BoxT.off {G G' : GH} {q : Nat} {N : Tab} {A B : Option Addr} {c d : Nat} {hs : Nat → Option Addr × Nat} (h : BoxT G G' q N A c B d hs) : ∀ x, tabB A B hs N.rows.length x → G x = none ∧ G' x ≠ none := fun x hx => by
  have := h.own.on x hx
  cases hr : rest G G' x with
  | none => exact absurd hr this
  | some e => obtain ⟨h1, h2⟩ := rest_some.1 hr; exact ⟨h1, by rw [h2]; simp⟩
/-- a small table. -/
def TSm (N : Tab) : Prop := N.cols.length ≤ 2 ^ 20 ∧ Sm N.rows ∧ pre N.rows N.rows.length ≤ 2 ^ 20
/-- the tables made so far: in blocks that G does not know. -/
structure RInv (G G' : GH) (Z : Option Addr) (z : Nat) (H : Nat → TH) (us : List Tab) : Prop where
  sub : Sub G G'
  own : OwnTS G' Z z H us
  off : ∀ x, tsB Z H us x → G x = none
theorem RInv.up {G G' G'' : GH} {Z : Option Addr} {z : Nat} {H : Nat → TH} {us : List Tab} (h : RInv G G' Z z H us) (s : Sub G' G'') : RInv G G'' Z z H us := ⟨h.sub.trans s, h.own.sub s, h.off⟩
theorem RInv.new {G G' : GH} {Z : Option Addr} {z : Nat} {H : Nat → TH} {us : List Tab} (h : RInv G G' Z z H us) : NewTS G G' Z z H us := NewTS.mk' h.sub h.own h.off
theorem take_snocT {ts : List Tab} {k : Nat} (h : k < ts.length) : ts.take (k + 1) = ts.take k ++ [ts.getD k t0] := by
  rw [List.take_succ_eq_append_getElem h]; simp [List.getD, h]
theorem RInv.offZ {G G' : GH} {Z : Option Addr} {z : Nat} {H : Nat → TH} {us : List Tab} (h : RInv G G' Z z H us) : Off G Z := fun a ha => h.off _ (.inl ⟨a, ha, rfl⟩)
theorem RInv.add {G G' G9 : GH} {Z : Option Addr} {z bb : Nat} {H : Nat → TH} {us : List Tab} {t : Tab} {hh : TH} (h : RInv G G' Z z H us) (hN : NewT G' G9 t hh.A hh.c hh.B hh.d hh.hs) {G10 : GH} (s10 : Sub G9 G10) (hb : G10 bb = some ⟨tabC t hh.A hh.c hh.B hh.d, true⟩) (hl : us.length < 2 ^ 20) {K : Value → GH → Prop}
    (hK : ∀ G4 Z' z', Sub G G4 → Sub (wz G10 Z) G4 → RInv G G4 Z' z' (fun i => if i = us.length then hh else H i) (us ++ [t]) → K (.slice Z' (us.length + 1) z') G4) :
    gAp 2 48 [.slice none 0 0, .slice none 0 0] (.slice Z us.length z) (.slice (some ⟨bb, 0, none⟩) 1 1) G10 K := by
  have s9 := hN.sub.trans s10
  have hW := h.own.sub s9
  have one2 : ∀ v ∈ tabC t hh.A hh.c hh.B hh.d, oneB v = true := tabC_one _ _ _ _ _
  refine ap_own hW.out (news := tabC t hh.A hh.c hh.B hh.d) (m := 1) (Own.blk (n := 1) (sz := 2) hb rfl).cells rfl one2 rfl (by omega) (by omega) (by omega) fun G4 Z' z' hO keep => ?_
  obtain ⟨s4, o4⟩ := keep _ (Sub.wz _ Z) (Off.wz _ Z)
  obtain ⟨sG, oG⟩ := keep G (h.sub.trans s9) h.offZ
  have hnew : OwnT G10 t hh.A hh.c hh.B hh.d hh.hs := (hN.own.sub (Sub.rest _ _)).sub s10
  have hoff := hN.off
  refine hK G4 Z' z' sG s4 ⟨sG, hW.snoc hnew (fun x hx b hb q => ?_) (fun i hi x hx hy => ?_) s4 o4 hO, fun x hx => ?_⟩
  · have h1 := hoff x hx
    rw [q] at h1
    exact own_ne h.own.out b hb h1
  · have h1 := hoff x hy
    exact (h.own.tab i hi).on x hx h1
  · rcases hx with ⟨a, ha, rfl⟩ | ⟨i, hi, hx⟩
    · exact oG a ha
    · rw [List.length_append, List.length_singleton] at hi
      by_cases q : i = us.length
      · subst q
        simp only [if_true] at hx
        rw [show (us ++ [t]).getD us.length t0 = t by simp [List.getD]] at hx
        exact h.sub.none (hoff x hx)
      · simp only [if_neg q] at hx
        rw [show (us ++ [t]).getD i t0 = us.getD i t0 by simp [List.getD, List.getElem?_append_left (show i < us.length by omega)]] at hx
        exact h.off x (.inr ⟨i, by omega, hx⟩)
theorem RInv.swap {G G' G9 : GH} {Z : Option Addr} {z q i : Nat} {H : Nat → TH} {us : List Tab} {t : Tab} {hh : TH} (h : RInv G G' Z z H us) (hN : BoxT G' G9 q t hh.A hh.c hh.B hh.d hh.hs) (hi : i < us.length) {K : Value → GH → Prop}
    (hK : ∀ G4, RInv G G4 Z z (fun j => if j = i then hh else H j) (us.set i t) → K undef G4) :
    gSt 2 (.pointer (pa Z (i * 2))) (.agg [.slice hh.A t.cols.length hh.c, .slice hh.B t.rows.length hh.d].toArray) G9 K := by
  have hW := h.own.sub hN.sub
  have hoff := hN.off
  refine hW.put hi (hN.own.sub (Sub.rest _ _)) (fun x hx b hb y => ?_) (fun j hj hji x hx hy => ?_) fun G4 hG4 hO => hK G4 ⟨?_, hO, fun x hx => ?_⟩
  · have h1 := (hoff x hx).1
    rw [y] at h1
    exact own_ne h.own.out b hb h1
  · exact (h.own.tab j hj).on x hx (hoff x hy).1
  · obtain ⟨b, hb, e, rfl⟩ := hG4
    exact (h.sub.trans hN.sub).skip (h.offZ _ hb)
  · rcases hx with ⟨a, ha, rfl⟩ | ⟨j, hj, hx⟩
    · exact h.offZ a ha
    · rw [List.length_set] at hj
      by_cases y : j = i
      · subst y
        simp only [if_true] at hx
        rw [set_get hi, if_pos rfl] at hx
        exact h.sub.none (hoff x hx).1
      · simp only [if_neg y] at hx
        rw [set_get hi, if_neg y] at hx
        exact h.off x (.inr ⟨j, hj, hx⟩)
theorem NewT.parts {G G8 G9 : GH} {t : Tab} {D Y : Option Addr} {d y : Nat} {hs : Nat → Option Addr × Nat} (hD : New G G8 D d (t.cols.map I64) 1 t.cols.length) (s : Sub G8 G9) (hR : OwnR (rest G8 G9) Y y hs t.rows) : NewT G G9 t D d Y y hs := by
  obtain ⟨oY, oR⟩ := hR.offs
  have key : ∀ {A : Option Addr}, Off G8 A → ∀ a b, D = some a → A = some b → a.block ≠ b.block := fun o a b ha hb q => by
    have h1 := own_ne hD.fresh a ha
    rw [q, o b hb] at h1; exact h1 rfl
  refine ⟨hD.sub.trans s, ⟨(hD.fresh.sub s).rest hD.off, ?_, key oY, fun i hi => key (oR i hi)⟩⟩
  exact (hR.sub (Sub.rest _ _)).rest (oY.mono hD.sub) fun i hi => (oR i hi).mono hD.sub
theorem red_w {G : GH} {Z : Option Addr} {z : Nat} {H : Nat → TH} {us : List Tab} {T : Nat → Value} {i j : Nat} {K : (Nat → Value) → GH → Prop} (h : TabsS G Z z H us) (hi : i < us.length) (hj : j < us.length) (oi : TabOk (us.getD i t0)) (oj : TabOk (us.getD j t0))
    (e4 : T 4 = .slice Z us.length z) (e8 : T 8 = .int .i64 i) (e9 : T 9 = .int .i64 j)
    (hK : ∀ T' G' q X x Y y hs, BoxT G G' q (semiT (us.getD i t0) (us.getD j t0)) X x Y y hs → (∀ l, l ≠ 10 → l < 42 → T' l = T l) → T' 10 = .pointer (some ⟨q, 0, none⟩) → K T' G') : gT Tryz.prog c_impl_ReduceTables_19 [] K T G := by
  obtain ⟨ri, ci, ni⟩ := oi.rowL
  obtain ⟨rj, cj, nj⟩ := oj.rowL
  have hii : (i : Int) < us.length := by omega
  have hjj : (j : Int) < us.length := by omega
  have hsn := h.sn (by omega)
  have i0 := h.r0 i hi
  have i1 := h.r1 i hi
  have j0 := h.r0 j hj
  have j1 := h.r1 j hj
  simp (maxSteps := 300000) (disch := omega) only [gs, gs2, gs3, gs4, ↓reduceIte, Nat.reduceEqDiff, Int.reduceToNat, Nat.reduceMul, Nat.reduceAdd, Nat.reduceBEq, isLd, e4, e8, e9, hii, hjj, i0, i1, j0, j1]
  refine ⟨?_, ?_⟩
  · refine impl_semiJoin_ok (a := us.getD i t0) (b := us.getD j t0) (h.cols i hi) (h.rows i hi) (h.cols j hj) (h.rows j hj) (by omega) (by omega) ri rj (by omega) (by omega) fun G9 X x Y y hs hN => ?_
    unfold tabV tabC
    simp (maxSteps := 300000) (disch := omega) only [gs, gs2, gs3, gs4, ↓reduceIte, Nat.reduceEqDiff, Int.reduceToNat, Nat.reduceMul, Nat.reduceAdd, Nat.reduceBEq, isLd, rd_sub hN.sub i0, rd_sub hN.sub i1, rd_sub hN.sub j0, rd_sub hN.sub j1]
    intro b10 hb10
    have sl := hN.sub.trans (Sub.put hb10 ⟨[Value.slice none 0 0, Value.slice none 0 0], true⟩)
    simp (maxSteps := 300000) (disch := omega) only [gs, gs2, gs3, gs4, ↓reduceIte, Nat.reduceEqDiff, Int.reduceToNat, Nat.reduceMul, Nat.reduceAdd, Nat.reduceBEq, isLd, rd_sub sl i0, rd_sub sl i1, rd_sub sl j0, rd_sub sl j1]
    refine st_fresh (vs := [.slice X (semiT (us.getD i t0) (us.getD j t0)).cols.length x, .slice Y (semiT (us.getD i t0) (us.getD j t0)).rows.length y]) rfl rfl rfl (by intro v hv; simp at hv; rcases hv with rfl | rfl <;> rfl) ?_
    simp (maxSteps := 300000) (disch := omega) only [gs, gs2, gs3, gs4, ↓reduceIte, Nat.reduceEqDiff, Int.reduceToNat, Nat.reduceMul, Nat.reduceAdd, Nat.reduceBEq, isLd]
    exact hK _ _ b10 X x Y y hs (BoxT.mk1 hN (Sub.refl G) hb10) (fun l h1 h2 => by repeat rw [upd_app, if_neg (by omega)]) (by simp (maxSteps := 300000) (disch := omega) only [gs, gs2, gs3, gs4, ↓reduceIte, Nat.reduceEqDiff, Int.reduceToNat, Nat.reduceMul, Nat.reduceAdd, Nat.reduceBEq, isLd])
  · intro b10 hb10
    have sl := Sub.put hb10 ⟨[Value.slice none 0 0, Value.slice none 0 0], true⟩
    have q10 := put_same G b10 ⟨[Value.slice none 0 0, Value.slice none 0 0], true⟩
    simp (maxSteps := 300000) (disch := omega) only [gs, gs2, gs3, gs4, ↓reduceIte, Nat.reduceEqDiff, Int.reduceToNat, Nat.reduceMul, Nat.reduceAdd, Nat.reduceBEq, isLd, rd_sub sl i0, rd_sub sl i1, rd_sub sl j0, rd_sub sl j1]
    refine impl_semiJoin_ok (a := us.getD i t0) (b := us.getD j t0) ((h.cols i hi).sub sl) ((h.rows i hi).sub sl) ((h.cols j hj).sub sl) ((h.rows j hj).sub sl) (by omega) (by omega) ri rj (by omega) (by omega) fun G9 X x Y y hs hN => ?_
    unfold tabV tabC
    have s9 := sl.trans hN.sub
    simp (maxSteps := 300000) (disch := omega) only [gs, gs2, gs3, gs4, ↓reduceIte, Nat.reduceEqDiff, Int.reduceToNat, Nat.reduceMul, Nat.reduceAdd, Nat.reduceBEq, isLd, rd_sub s9 i0, rd_sub s9 i1, rd_sub s9 j0, rd_sub s9 j1]
    refine st_many (vs := [.slice X (semiT (us.getD i t0) (us.getD j t0)).cols.length x, .slice Y (semiT (us.getD i t0) (us.getD j t0)).rows.length y]) rfl (hN.sub _ _ q10) rfl (by simp) (by intro v hv; simp at hv; rcases hv with rfl | rfl <;> rfl) ?_
    simp only [over, List.set_cons_zero, List.set_cons_succ]
    simp (maxSteps := 300000) (disch := omega) only [gs, gs2, gs3, gs4, ↓reduceIte, Nat.reduceEqDiff, Int.reduceToNat, Nat.reduceMul, Nat.reduceAdd, Nat.reduceBEq, isLd]
    exact hK _ _ b10 X x Y y hs (BoxT.mk2 hN sl hb10 q10) (fun l h1 h2 => by repeat rw [upd_app, if_neg (by omega)]) (by simp (maxSteps := 300000) (disch := omega) only [gs, gs2, gs3, gs4, ↓reduceIte, Nat.reduceEqDiff, Int.reduceToNat, Nat.reduceMul, Nat.reduceAdd, Nat.reduceBEq, isLd])
theorem impl_ReduceTables_ok {G : GH} {A : Option Addr} {c : Nat} {H : Nat → TH} {ts : List Tab} (h : TabsS G A c H ts) (hl : TabsSm ts) {K : Value → GH → Prop}
    (hk : ∀ G' Z z H', NewTS G G' Z z H' (redV ts).1 → K (.tuple [.slice Z (redV ts).1.length z, .int .i64 (redV ts).2].toArray) G') : GC Tryz.prog 51 [.slice A ts.length c] G K := by
  refine c_impl_ReduceTables_i (by simp) ?_
  have hw := @red_w
  unfold c_impl_ReduceTables c_impl_ReduceTables_l3 c_impl_ReduceTables_l2 c_impl_ReduceTables_l1
  generalize c_impl_ReduceTables_19 = DD at hw ⊢
  have h0 : TH := ⟨none, 0, none, 0, fun _ => (none, 0)⟩
  simp (maxSteps := 300000) (disch := omega) only [gs, gs2, gs3, gs4, ↓reduceIte, Nat.reduceEqDiff, Int.reduceToNat, Nat.reduceMul, Nat.reduceAdd, Nat.reduceBEq, isLd]
  refine impl_ValidTables_ok h hl fun z hz => ?_
  cases z
  · simp (maxSteps := 300000) (disch := omega) only [gs, gs2, gs3, gs4, ↓reduceIte, Nat.reduceEqDiff, Int.reduceToNat, Nat.reduceMul, Nat.reduceAdd, Nat.reduceBEq, isLd]
    rw [redV_no fun y => by have := hz.2 y; cases this] at hk
    exact hk _ _ _ _ (NewTS.nil G fun _ => h0)
  have hok := hz.1 rfl
  obtain ⟨h6, hv⟩ := hok
  rw [redV_yes ⟨h6, hv⟩] at hk
  have hsn := h.sn
  simp (maxSteps := 300000) (disch := omega) only [gs, gs2, gs3, gs4, ↓reduceIte, Nat.reduceEqDiff, Int.reduceToNat, Nat.reduceMul, Nat.reduceAdd, Nat.reduceBEq, isLd]
  refine gLoop_intro (fun m T G' => ∃ (k : Nat) (Z : Option Addr) (z : Nat) (H' : Nat → TH), T 4 = .slice Z k z ∧ T 14 = .slice A ts.length c ∧ T 15 = .int .i64 ts.length ∧ T 16 = .int .i64 k ∧ m + k = ts.length ∧ k ≤ ts.length ∧ RInv G G' Z z H' (ts.take k)) ts.length
    ⟨0, none, 0, fun _ => h0, by simp (maxSteps := 300000) (disch := omega) only [gs, gs2, gs3, gs4, ↓reduceIte, Nat.reduceEqDiff, Int.reduceToNat, Nat.reduceMul, Nat.reduceAdd, Nat.reduceBEq, isLd] <;> rfl, by simp (maxSteps := 300000) (disch := omega) only [gs, gs2, gs3, gs4, ↓reduceIte, Nat.reduceEqDiff, Int.reduceToNat, Nat.reduceMul, Nat.reduceAdd, Nat.reduceBEq, isLd], by simp (maxSteps := 300000) (disch := omega) only [gs, gs2, gs3, gs4, ↓reduceIte, Nat.reduceEqDiff, Int.reduceToNat, Nat.reduceMul, Nat.reduceAdd, Nat.reduceBEq, isLd], by simp (maxSteps := 300000) (disch := omega) only [gs, gs2, gs3, gs4, ↓reduceIte, Nat.reduceEqDiff, Int.reduceToNat, Nat.reduceMul, Nat.reduceAdd, Nat.reduceBEq, isLd] <;> rfl, by omega, by omega, ⟨Sub.refl _, OwnTS.nil _ _, fun x hx => by rcases hx with ⟨a, ha, _⟩ | ⟨i, hi, _⟩; exact absurd ha (by simp); simp at hi⟩⟩ ?_
  rintro m T G' ⟨k, Z, z, H', e4, e14, e15, e16, hm, hkl, hI⟩
  simp (maxSteps := 300000) (disch := omega) only [gs, gs2, gs3, gs4, ↓reduceIte, Nat.reduceEqDiff, Int.reduceToNat, Nat.reduceMul, Nat.reduceAdd, Nat.reduceBEq, isLd, e4, e14, e15, e16]
  by_cases hkk : (k : Int) < ts.length
  · obtain ⟨rt, ct, nt⟩ := (hv k (by omega)).rowL
    have hh := h.sub hI.sub
    have q0 := hh.r0 k (by omega)
    have q1 := hh.r1 k (by omega)
    have hsn := hsn (by omega)
    have hlt : (ts.take k).length = k := by rw [List.length_take]; omega
    simp (maxSteps := 300000) (disch := omega) only [gs, gs2, gs3, gs4, ↓reduceIte, Nat.reduceEqDiff, Int.reduceToNat, Nat.reduceMul, Nat.reduceAdd, Nat.reduceBEq, isLd, e4, e14, e15, e16, hkk, q0, q1]
    intro b6 hb6
    simp (maxSteps := 300000) (disch := omega) only [gs, gs2, gs3, gs4, ↓reduceIte, Nat.reduceEqDiff, Int.reduceToNat, Nat.reduceMul, Nat.reduceAdd, Nat.reduceBEq, isLd, e4, e14, e15, e16]
    refine st_fresh (vs := [.slice (H k).A (ts.getD k t0).cols.length (H k).c, .slice (H k).B (ts.getD k t0).rows.length (H k).d]) rfl rfl rfl (by intro v hv; simp at hv; rcases hv with rfl | rfl <;> rfl) ?_
    have p6 := TabP.box hb6 (hh.cols k (by omega)) (hh.rows k (by omega))
    have s6 := Sub.put hb6 ⟨tabC (ts.getD k t0) (H k).A (H k).c (H k).B (H k).d, true⟩
    unfold tabC at p6 s6
    have hI6 := hI.up s6
    have nz : ∀ a, Z = some a → a.block ≠ b6 := fun a ha q => own_ne hI.own.out a ha (by rw [q]; exact hb6)
    revert p6 hI6
    generalize put G' b6 ⟨[.slice (H k).A (ts.getD k t0).cols.length (H k).c, .slice (H k).B (ts.getD k t0).rows.length (H k).d], true⟩ = G6
    intro p6 hI6
    clear s6 hb6 hI
    simp (maxSteps := 300000) (disch := omega) only [gs, gs2, gs3, gs4, ↓reduceIte, Nat.reduceEqDiff, Int.reduceToNat, Nat.reduceMul, Nat.reduceAdd, Nat.reduceBEq, isLd, e4, e14, e15, e16, p6.f0, p6.g1]
    refine slices_Clone_ok p6.cols (by omega) fun G8 D d hD => ?_
    have p8 := p6.sub hD.sub
    simp (maxSteps := 300000) (disch := omega) only [gs, gs2, gs3, gs4, ↓reduceIte, Nat.reduceEqDiff, Int.reduceToNat, Nat.reduceMul, Nat.reduceAdd, Nat.reduceBEq, isLd, e4, e14, e15, e16, p8.f0, p8.g1]
    refine impl_copyLists_ok p8.rows (by omega) (fun i hi => by have := rt i hi; omega) fun G9 Y y hs' s9 hR => ?_
    have p9 := p8.sub s9
    have hN := NewT.parts (t := ts.getD k t0) hD s9 hR
    have hbl : bldV [Value.slice none 0 0, Value.slice none 0 0] [(0, 1, Value.slice D (ts.getD k t0).cols.length d), (1, 1, Value.slice Y (ts.getD k t0).rows.length y)] = some [Value.slice D (ts.getD k t0).cols.length d, Value.slice Y (ts.getD k t0).rows.length y] := rfl
    simp (maxSteps := 300000) (disch := omega) only [gs, gs2, gs3, gs4, ↓reduceIte, Nat.reduceEqDiff, Int.reduceToNat, Nat.reduceMul, Nat.reduceAdd, Nat.reduceBEq, isLd, e4, e14, e15, e16, p9.f0, p9.g1, hbl, gBs]
    refine ⟨fun v hv => (by simp at hv; subst hv; rfl), fun bb hbb => ?_⟩
    have sb := Sub.put hbb ⟨[.slice D (ts.getD k t0).cols.length d, .slice Y (ts.getD k t0).rows.length y], true⟩
    have pb := p9.sub sb
    refine ⟨⟨pb.g1, pb.f0⟩, ?_⟩
    rw [show Value.slice Z k z = Value.slice Z (ts.take k).length z by rw [hlt]]
    refine hI6.add (hh := ⟨D, d, Y, y, hs'⟩) hN sb (put_same _ _ _) (by omega) fun G4 Z' z' s4 s4w hI4 => ?_
    have f6 : ∀ l v, l < 2 → rd (put G9 bb ⟨[.slice D (ts.getD k t0).cols.length d, .slice Y (ts.getD k t0).rows.length y], true⟩) (some ⟨b6, l, none⟩) = some v → rd G4 (some ⟨b6, l, none⟩) = some v := fun l v _ hv => by
      refine rd_sub s4w ?_
      simp only [rd] at hv ⊢
      rw [wz_ne nz]
      exact hv
    simp (maxSteps := 300000) (disch := omega) only [gs, gs2, gs3, gs4, ↓reduceIte, Nat.reduceEqDiff, Int.reduceToNat, Nat.reduceMul, Nat.reduceAdd, Nat.reduceBEq, isLd, e4, e14, e15, e16, f6 0 _ (by omega) pb.f0, f6 1 _ (by omega) pb.g1]
    rw [← take_snocT (by omega)] at hI4
    exact ⟨m - 1, by omega, G4, Sub.refl _, k + 1, Z', z', _, by rw [hlt], rfl, by omega, by omega, hI4⟩
  · obtain rfl : k = ts.length := by omega
    rw [List.take_length] at hI
    simp (maxSteps := 300000) (disch := omega) only [gs, gs2, gs3, gs4, ↓reduceIte, Nat.reduceEqDiff, Int.reduceToNat, Nat.reduceMul, Nat.reduceAdd, Nat.reduceBEq, isLd, e4, e14, e15, e16, hkk]
    refine gLoop_intro (fun m T G' => ∃ (us : List Tab) (ch : Bool) (H1 : Nat → TH), T 4 = .slice Z us.length z ∧ T 7 = .bool ch ∧ TsV us ∧ us.length ≤ 6 ∧ RInv G G' Z z H1 us ∧ (ch = true → redR us = redR ts ∧ m = tot us + 1) ∧ (ch = false → us = redR ts)) (tot ts + 1)
      ⟨ts, true, H', by simp (maxSteps := 300000) (disch := omega) only [gs, gs2, gs3, gs4, ↓reduceIte, Nat.reduceEqDiff, Int.reduceToNat, Nat.reduceMul, Nat.reduceAdd, Nat.reduceBEq, isLd, e4], by simp (maxSteps := 300000) (disch := omega) only [gs, gs2, gs3, gs4, ↓reduceIte, Nat.reduceEqDiff, Int.reduceToNat, Nat.reduceMul, Nat.reduceAdd, Nat.reduceBEq, isLd], hv, h6, hI, fun _ => ⟨rfl, rfl⟩, fun y => (by cases y)⟩ ?_
    clear e4 e14 e15 e16 hI hm hkl hkk
    rintro m' T' G'' ⟨us, ch, H1, e4, e7, vu, lu, hI, hct, hcf⟩
    simp (maxSteps := 300000) (disch := omega) only [gs, gs2, gs3, gs4, ↓reduceIte, Nat.reduceEqDiff, Int.reduceToNat, Nat.reduceMul, Nat.reduceAdd, Nat.reduceBEq, isLd, e4, e7]
    cases ch
    · simp (maxSteps := 300000) (disch := omega) only [gs, gs2, gs3, gs4, ↓reduceIte, Nat.reduceEqDiff, Int.reduceToNat, Nat.reduceMul, Nat.reduceAdd, Nat.reduceBEq, isLd, e4, e7]
      have := hcf rfl
      subst this
      exact hk _ _ _ _ hI.new
    · obtain ⟨hred, rfl⟩ := hct rfl
      simp (maxSteps := 300000) (disch := omega) only [gs, gs2, gs3, gs4, ↓reduceIte, Nat.reduceEqDiff, Int.reduceToNat, Nat.reduceMul, Nat.reduceAdd, Nat.reduceBEq, isLd, e4, e7]
      have hRP := fun i (hi : i ≤ us.length) => (RedS.start vu).pas i hi
      refine gLoop_intro (fun m T G' => ∃ (i : Nat) (H1 : Nat → TH), T 4 = .slice Z us.length z ∧ T 7 = .bool (pasS us.length (us, false) i).2 ∧ T 32 = .slice Z us.length z ∧ T 33 = .int .i64 us.length ∧ T 34 = .int .i64 i ∧ m + i = us.length ∧ i ≤ us.length ∧ RInv G G' Z z H1 (pasS us.length (us, false) i).1) us.length
        ⟨0, H1, by simp (maxSteps := 300000) (disch := omega) only [gs, gs2, gs3, gs4, ↓reduceIte, Nat.reduceEqDiff, Int.reduceToNat, Nat.reduceMul, Nat.reduceAdd, Nat.reduceBEq, isLd, e4], by simp (maxSteps := 300000) (disch := omega) only [gs, gs2, gs3, gs4, ↓reduceIte, Nat.reduceEqDiff, Int.reduceToNat, Nat.reduceMul, Nat.reduceAdd, Nat.reduceBEq, isLd] <;> rfl, by simp (maxSteps := 300000) (disch := omega) only [gs, gs2, gs3, gs4, ↓reduceIte, Nat.reduceEqDiff, Int.reduceToNat, Nat.reduceMul, Nat.reduceAdd, Nat.reduceBEq, isLd], by simp (maxSteps := 300000) (disch := omega) only [gs, gs2, gs3, gs4, ↓reduceIte, Nat.reduceEqDiff, Int.reduceToNat, Nat.reduceMul, Nat.reduceAdd, Nat.reduceBEq, isLd], by simp (maxSteps := 300000) (disch := omega) only [gs, gs2, gs3, gs4, ↓reduceIte, Nat.reduceEqDiff, Int.reduceToNat, Nat.reduceMul, Nat.reduceAdd, Nat.reduceBEq, isLd] <;> rfl, by omega, by omega, hI⟩ ?_
      clear e4 e7 hI H1
      rintro m2 T2 G2 ⟨i, H1, e4, e7, e32, e33, e34, hm2, hil, hI⟩
      simp (maxSteps := 300000) (disch := omega) only [gs, gs2, gs3, gs4, ↓reduceIte, Nat.reduceEqDiff, Int.reduceToNat, Nat.reduceMul, Nat.reduceAdd, Nat.reduceBEq, isLd, e4, e7, e32, e33, e34]
      by_cases hii : (i : Int) < us.length
      · simp (maxSteps := 300000) (disch := omega) only [gs, gs2, gs3, gs4, ↓reduceIte, Nat.reduceEqDiff, Int.reduceToNat, Nat.reduceMul, Nat.reduceAdd, Nat.reduceBEq, isLd, e4, e7, e32, e33, e34, hii]
        have hS := hRP i (by omega)
        refine gLoop_intro (fun m T G' => ∃ (j : Nat) (H1 : Nat → TH), T 4 = .slice Z us.length z ∧ T 7 = .bool (innS i (pasS us.length (us, false) i) j).2 ∧ T 8 = .int .i64 i ∧ T 32 = .slice Z us.length z ∧ T 33 = .int .i64 us.length ∧ T 34 = .int .i64 i ∧ T 37 = .slice Z us.length z ∧ T 38 = .int .i64 us.length ∧ T 39 = .int .i64 j ∧ m + j = us.length ∧ j ≤ us.length ∧ RInv G G' Z z H1 (innS i (pasS us.length (us, false) i) j).1) us.length
          ⟨0, H1, by simp (maxSteps := 300000) (disch := omega) only [gs, gs2, gs3, gs4, ↓reduceIte, Nat.reduceEqDiff, Int.reduceToNat, Nat.reduceMul, Nat.reduceAdd, Nat.reduceBEq, isLd, e4], by simp (maxSteps := 300000) (disch := omega) only [gs, gs2, gs3, gs4, ↓reduceIte, Nat.reduceEqDiff, Int.reduceToNat, Nat.reduceMul, Nat.reduceAdd, Nat.reduceBEq, isLd, e7] <;> rfl, by simp (maxSteps := 300000) (disch := omega) only [gs, gs2, gs3, gs4, ↓reduceIte, Nat.reduceEqDiff, Int.reduceToNat, Nat.reduceMul, Nat.reduceAdd, Nat.reduceBEq, isLd], by simp (maxSteps := 300000) (disch := omega) only [gs, gs2, gs3, gs4, ↓reduceIte, Nat.reduceEqDiff, Int.reduceToNat, Nat.reduceMul, Nat.reduceAdd, Nat.reduceBEq, isLd, e32], by simp (maxSteps := 300000) (disch := omega) only [gs, gs2, gs3, gs4, ↓reduceIte, Nat.reduceEqDiff, Int.reduceToNat, Nat.reduceMul, Nat.reduceAdd, Nat.reduceBEq, isLd, e33], by simp (maxSteps := 300000) (disch := omega) only [gs, gs2, gs3, gs4, ↓reduceIte, Nat.reduceEqDiff, Int.reduceToNat, Nat.reduceMul, Nat.reduceAdd, Nat.reduceBEq, isLd, e34], by simp (maxSteps := 300000) (disch := omega) only [gs, gs2, gs3, gs4, ↓reduceIte, Nat.reduceEqDiff, Int.reduceToNat, Nat.reduceMul, Nat.reduceAdd, Nat.reduceBEq, isLd], by simp (maxSteps := 300000) (disch := omega) only [gs, gs2, gs3, gs4, ↓reduceIte, Nat.reduceEqDiff, Int.reduceToNat, Nat.reduceMul, Nat.reduceAdd, Nat.reduceBEq, isLd], by simp (maxSteps := 300000) (disch := omega) only [gs, gs2, gs3, gs4, ↓reduceIte, Nat.reduceEqDiff, Int.reduceToNat, Nat.reduceMul, Nat.reduceAdd, Nat.reduceBEq, isLd] <;> rfl, by omega, by omega, hI⟩ ?_
        clear e4 e7 e32 e33 e34 hI H1
        rintro m3 T3 G3 ⟨j, H1, e4, e7, e8, e32, e33, e34, e37, e38, e39, hm3, hjl, hI⟩
        simp (maxSteps := 300000) (disch := omega) only [gs, gs2, gs3, gs4, ↓reduceIte, Nat.reduceEqDiff, Int.reduceToNat, Nat.reduceMul, Nat.reduceAdd, Nat.reduceBEq, isLd, e4, e7, e8, e32, e33, e34, e37, e38, e39]
        by_cases hjj : (j : Int) < us.length
        · have hJ := hS.inn (i := i) (by omega) j hjl
          have hjs : innS i (pasS us.length (us, false) i) (j + 1) = stepS i j (innS i (pasS us.length (us, false) i) j) := rfl
          generalize innS i (pasS us.length (us, false) i) j = s at hJ hI e7 hjs
          have hsl := hJ.len
          simp (maxSteps := 300000) (disch := omega) only [gs, gs2, gs3, gs4, ↓reduceIte, Nat.reduceEqDiff, Int.reduceToNat, Nat.reduceMul, Nat.reduceAdd, Nat.reduceBEq, isLd, e4, e7, e8, e32, e33, e34, e37, e38, e39, hjj]
          refine hw (i := i) (j := j) hI.own.tabs (by omega) (by omega) (hJ.ok i (by omega)) (hJ.ok j (by omega)) (by simp (maxSteps := 300000) (disch := omega) only [gs, gs2, gs3, gs4, ↓reduceIte, Nat.reduceEqDiff, Int.reduceToNat, Nat.reduceMul, Nat.reduceAdd, Nat.reduceBEq, isLd, e4, hsl]) (by simp (maxSteps := 300000) (disch := omega) only [gs, gs2, gs3, gs4, ↓reduceIte, Nat.reduceEqDiff, Int.reduceToNat, Nat.reduceMul, Nat.reduceAdd, Nat.reduceBEq, isLd, e8]) (by simp (maxSteps := 300000) (disch := omega) only [gs, gs2, gs3, gs4, ↓reduceIte, Nat.reduceEqDiff, Int.reduceToNat, Nat.reduceMul, Nat.reduceAdd, Nat.reduceBEq, isLd]) fun T4 G4 q X x Y y hs hB hT e10 => ?_
          have f4 := (hT 4 (by omega) (by omega)).trans (show _ = Value.slice Z us.length z by simp (maxSteps := 300000) (disch := omega) only [gs, gs2, gs3, gs4, ↓reduceIte, Nat.reduceEqDiff, Int.reduceToNat, Nat.reduceMul, Nat.reduceAdd, Nat.reduceBEq, isLd, e4])
          have f7 := (hT 7 (by omega) (by omega)).trans (show _ = Value.bool s.2 by simp (maxSteps := 300000) (disch := omega) only [gs, gs2, gs3, gs4, ↓reduceIte, Nat.reduceEqDiff, Int.reduceToNat, Nat.reduceMul, Nat.reduceAdd, Nat.reduceBEq, isLd, e7])
          have f8 := (hT 8 (by omega) (by omega)).trans (show _ = Value.int .i64 i by simp (maxSteps := 300000) (disch := omega) only [gs, gs2, gs3, gs4, ↓reduceIte, Nat.reduceEqDiff, Int.reduceToNat, Nat.reduceMul, Nat.reduceAdd, Nat.reduceBEq, isLd, e8])
          have f32 := (hT 32 (by omega) (by omega)).trans (show _ = Value.slice Z us.length z by simp (maxSteps := 300000) (disch := omega) only [gs, gs2, gs3, gs4, ↓reduceIte, Nat.reduceEqDiff, Int.reduceToNat, Nat.reduceMul, Nat.reduceAdd, Nat.reduceBEq, isLd, e32])
          have f33 := (hT 33 (by omega) (by omega)).trans (show _ = Value.int .i64 us.length by simp (maxSteps := 300000) (disch := omega) only [gs, gs2, gs3, gs4, ↓reduceIte, Nat.reduceEqDiff, Int.reduceToNat, Nat.reduceMul, Nat.reduceAdd, Nat.reduceBEq, isLd, e33])
          have f34 := (hT 34 (by omega) (by omega)).trans (show _ = Value.int .i64 i by simp (maxSteps := 300000) (disch := omega) only [gs, gs2, gs3, gs4, ↓reduceIte, Nat.reduceEqDiff, Int.reduceToNat, Nat.reduceMul, Nat.reduceAdd, Nat.reduceBEq, isLd, e34])
          have f37 := (hT 37 (by omega) (by omega)).trans (show _ = Value.slice Z us.length z by simp (maxSteps := 300000) (disch := omega) only [gs, gs2, gs3, gs4, ↓reduceIte, Nat.reduceEqDiff, Int.reduceToNat, Nat.reduceMul, Nat.reduceAdd, Nat.reduceBEq, isLd, e37])
          have f38 := (hT 38 (by omega) (by omega)).trans (show _ = Value.int .i64 us.length by simp (maxSteps := 300000) (disch := omega) only [gs, gs2, gs3, gs4, ↓reduceIte, Nat.reduceEqDiff, Int.reduceToNat, Nat.reduceMul, Nat.reduceAdd, Nat.reduceBEq, isLd, e38])
          have f39 := (hT 39 (by omega) (by omega)).trans (show _ = Value.int .i64 j by simp (maxSteps := 300000) (disch := omega) only [gs, gs2, gs3, gs4, ↓reduceIte, Nat.reduceEqDiff, Int.reduceToNat, Nat.reduceMul, Nat.reduceAdd, Nat.reduceBEq, isLd, e39])
          clear hT e4 e7 e8 e32 e33 e34 e37 e38 e39
          have pB := hB.p.sub (Sub.rest _ _)
          have hI4 := hI.up hB.sub
          have hT4 := hI4.own.tabs
          have i0 := hT4.r0 i (by omega)
          have i1 := hT4.r1 i (by omega)
          have hsz := hT4.sn (by omega)
          simp (maxSteps := 300000) (disch := omega) only [gs, gs2, gs3, gs4, ↓reduceIte, Nat.reduceEqDiff, Int.reduceToNat, Nat.reduceMul, Nat.reduceAdd, Nat.reduceBEq, isLd, f4, f7, f8, f32, f33, f34, f37, f38, f39, e10, pB.f0, pB.g1, i0, i1]
          by_cases hlt : (((semiT (s.1.getD i t0) (s.1.getD j t0)).rows.length : Nat) : Int) < ((s.1.getD i t0).rows.length : Nat)
          · have hst : stepS i j s = (s.1.set i (semiT (s.1.getD i t0) (s.1.getD j t0)), true) := by unfold stepS; rw [if_pos (by omega)]
            simp (maxSteps := 300000) (disch := omega) only [gs, gs2, gs3, gs4, ↓reduceIte, Nat.reduceEqDiff, Int.reduceToNat, Nat.reduceMul, Nat.reduceAdd, Nat.reduceBEq, isLd, f4, f7, f8, f32, f33, f34, f37, f38, f39, e10, pB.f0, pB.g1, hlt]
            refine hI.swap (hh := ⟨X, x, Y, y, hs⟩) hB (by omega) fun G5 hI5 => ?_
            simp (maxSteps := 300000) (disch := omega) only [gs, gs2, gs3, gs4, ↓reduceIte, Nat.reduceEqDiff, Int.reduceToNat, Nat.reduceMul, Nat.reduceAdd, Nat.reduceBEq, isLd, f4, f7, f8, f32, f33, f34, f37, f38, f39]
            exact ⟨m3 - 1, by omega, G5, Sub.refl _, j + 1, _, by rw [hjs, hst], rfl, by omega, by omega, by rw [hjs, hst]; exact hI5⟩
          · have hst : stepS i j s = s := by unfold stepS; rw [if_neg (by omega)]
            simp (maxSteps := 300000) (disch := omega) only [gs, gs2, gs3, gs4, ↓reduceIte, Nat.reduceEqDiff, Int.reduceToNat, Nat.reduceMul, Nat.reduceAdd, Nat.reduceBEq, isLd, f4, f7, f8, f32, f33, f34, f37, f38, f39, e10, hlt]
            exact ⟨m3 - 1, by omega, G4, Sub.refl _, j + 1, H1, by rw [hjs, hst], rfl, by omega, by omega, by rw [hjs, hst]; exact hI4⟩
        · obtain rfl : j = us.length := by omega
          simp (maxSteps := 300000) (disch := omega) only [gs, gs2, gs3, gs4, ↓reduceIte, Nat.reduceEqDiff, Int.reduceToNat, Nat.reduceMul, Nat.reduceAdd, Nat.reduceBEq, isLd, e4, e7, e8, e32, e33, e34, e37, e38, e39, hjj]
          exact ⟨m2 - 1, by omega, G3, Sub.refl _, i + 1, H1, rfl, rfl, by omega, by omega, hI⟩
      · obtain rfl : i = us.length := by omega
        simp (maxSteps := 300000) (disch := omega) only [gs, gs2, gs3, gs4, ↓reduceIte, Nat.reduceEqDiff, Int.reduceToNat, Nat.reduceMul, Nat.reduceAdd, Nat.reduceBEq, isLd, e4, e7, e32, e33, e34, hii]
        have hP := RedS.pass vu
        have ep : pasS us.length (us, false) us.length = pass us := rfl
        rw [ep] at e7 hI
        refine ⟨tot (pass us).1 + 1 - (if (pass us).2 = true then 0 else 1), ?_, G2, Sub.refl _, (pass us).1, (pass us).2, H1, by rw [hP.len], rfl, hP.ok, by rw [hP.len]; exact lu, hI, fun hc => ⟨by rw [← redR_yes vu hc]; exact hred, by rw [if_pos hc]; omega⟩, fun hc => by rw [← redR_no vu hc]; exact hred⟩
        cases hc : (pass us).2 with
        | true => have := hP.lt hc; rw [if_pos rfl]; omega
        | false => have := hP.le; rw [if_neg (by simp)]; omega
theorem tsm_of {N : Tab} (hc : N.cols.length ≤ 2 ^ 10) (hr : N.rows.length ≤ 2 ^ 10) (hl : ∀ x ∈ N.rows, x.length ≤ 2 ^ 10) : TSm N := by
  have h1 : ∀ i, i < N.rows.length → (N.rows.getD i []).length ≤ 2 ^ 10 := fun i hi => hl _ (by simp [List.getD, hi])
  have := pre_bd h1 _ (Nat.le_refl _)
  have : 2 ^ 10 * N.rows.length ≤ 2 ^ 10 * 2 ^ 10 := Nat.mul_le_mul_left _ hr
  exact ⟨by omega, ⟨by omega, fun i hi => by have := h1 i hi; omega⟩, by omega⟩
def zT : List Value := [.slice none 0 0, .slice none 0 0]
theorem del_of {G : GH} {b q : Nat} (h : G q = none) : del G b q = none := by unfold del; split <;> first | rfl | exact h
theorem del_oth (G : GH) (b : Nat) : Oth (fun x => x = b) G (del G b) := fun x hx => del_ne _ hx
/-- a drawn table, in blocks that G0 does not know; b is the source's block. -/
structure DrT (G0 G : GH) (b : Nat) (A : Option Addr) (L c p : Nat) (N : Tab) (X : Option Addr) (x : Nat) (Y : Option Addr) (y : Nat) (hs : Nat → Option Addr × Nat) : Prop where
  src : Src (del G0 b) G b A L c p
  own : OwnT G N X x Y y hs
  off : ∀ q, tabB X Y hs N.rows.length q → G0 q = none
  kb : G0 b ≠ none
structure DrN (G0 G : GH) (b b2 b3 : Nat) (A : Option Addr) (L c p : Nat) (N : Tab) (X : Option Addr) (x : Nat) (Y : Option Addr) (y : Nat) (hs : Nat → Option Addr × Nat) : Prop where
  src : Src (del G0 b) G b A L c p
  r2 : G b2 = some ⟨zT, true⟩
  r3 : G b3 = some ⟨tabC N X x Y y, true⟩
  own : OwnT G N X x Y y hs
  off : ∀ q, tabB X Y hs N.rows.length q → G0 q = none ∧ q ≠ b2 ∧ q ≠ b3
  n2 : G0 b2 = none
  n3 : G0 b3 = none
  n23 : b2 ≠ b3
  kb : G0 b ≠ none
theorem kb_ne {G0 : GH} {b q : Nat} (kb : G0 b ≠ none) (h : G0 q = none) : q ≠ b := fun e => kb (by rw [← e]; exact h)
theorem src_none {G0 G : GH} {b q : Nat} {A : Option Addr} {L c p : Nat} (h : Src (del G0 b) G b A L c p) (hq : G q = none) : G0 q = none := by
  have hne := h.ne hq
  have := h.sub.none hq
  rwa [del_ne _ hne] at this
theorem DrT.step {G0 G G' : GH} {b : Nat} {A : Option Addr} {L c p p' : Nat} {N : Tab} {X : Option Addr} {x : Nat} {Y : Option Addr} {y : Nat} {hs : Nat → Option Addr × Nat} (h : DrT G0 G b A L c p N X x Y y hs) (s : Src (del G b) G' b A L c p') : DrT G0 G' b A L c p' N X x Y y hs :=
  ⟨⟨(h.src.sub.in_del h.src.nb).trans s.sub, h.src.nb, h.src.byt, s.ex⟩, (h.own.oth (del_oth G b) fun q hq => kb_ne h.kb (h.off q hq)).sub s.sub, h.off, h.kb⟩
theorem DrT.le {G0 G : GH} {b : Nat} {A : Option Addr} {L c p p' : Nat} {N : Tab} {X : Option Addr} {x : Nat} {Y : Option Addr} {y : Nat} {hs : Nat → Option Addr × Nat} (h : DrT G0 G b A L c p N X x Y y hs) (hp : p ≤ p') : DrT G0 G b A L c p' N X x Y y hs := ⟨h.src.le hp, h.own, h.off, h.kb⟩
theorem DrN.step {G0 G G' : GH} {b b2 b3 : Nat} {A : Option Addr} {L c p p' : Nat} {N : Tab} {X : Option Addr} {x : Nat} {Y : Option Addr} {y : Nat} {hs : Nat → Option Addr × Nat} (h : DrN G0 G b b2 b3 A L c p N X x Y y hs) (s : Src (del G b) G' b A L c p') : DrN G0 G' b b2 b3 A L c p' N X x Y y hs :=
  ⟨⟨(h.src.sub.in_del h.src.nb).trans s.sub, h.src.nb, h.src.byt, s.ex⟩, s.sub _ _ (by rw [del_ne _ (kb_ne h.kb h.n2)]; exact h.r2), s.sub _ _ (by rw [del_ne _ (kb_ne h.kb h.n3)]; exact h.r3), (h.own.oth (del_oth G b) fun q hq => kb_ne h.kb (h.off q hq).1).sub s.sub, h.off, h.n2, h.n3, h.n23, h.kb⟩
theorem DrN.up {G0 G G' : GH} {b b2 b3 : Nat} {A : Option Addr} {L c p : Nat} {N : Tab} {X : Option Addr} {x : Nat} {Y : Option Addr} {y : Nat} {hs : Nat → Option Addr × Nat} (h : DrN G0 G b b2 b3 A L c p N X x Y y hs) (s : Sub G G') : DrN G0 G' b b2 b3 A L c p N X x Y y hs := by
  obtain ⟨q, st, h1, h2⟩ := h.src.ex
  exact ⟨⟨h.src.sub.trans s, h.src.nb, h.src.byt, q, st, h1, s _ _ h2⟩, s _ _ h.r2, s _ _ h.r3, h.own.sub s, h.off, h.n2, h.n3, h.n23, h.kb⟩
theorem DrN.le {G0 G : GH} {b b2 b3 : Nat} {A : Option Addr} {L c p p' : Nat} {N : Tab} {X : Option Addr} {x : Nat} {Y : Option Addr} {y : Nat} {hs : Nat → Option Addr × Nat} (h : DrN G0 G b b2 b3 A L c p N X x Y y hs) (hp : p ≤ p') : DrN G0 G b b2 b3 A L c p' N X x Y y hs := ⟨h.src.le hp, h.r2, h.r3, h.own, h.off, h.n2, h.n3, h.n23, h.kb⟩
theorem DrN.rd {G0 G : GH} {b b2 b3 : Nat} {A : Option Addr} {L c p : Nat} {N : Tab} {X : Option Addr} {x : Nat} {Y : Option Addr} {y : Nat} {hs : Nat → Option Addr × Nat} (h : DrN G0 G b b2 b3 A L c p N X x Y y hs) : rd G (some ⟨b3, 0, none⟩) = some (.slice X N.cols.length x) ∧ rd G (some ⟨b3, 1, none⟩) = some (.slice Y N.rows.length y) := by
  simp only [Gh.rd, h.r3, Option.bind_some, tabC]; exact ⟨rfl, rfl⟩
/-- out of a heap in which all but some blocks stands, and one of these is the box. -/
theorem DrN.box {G0 G G' : GH} {b b2 b3 : Nat} {A : Option Addr} {L c p : Nat} {N N' : Tab} {X X' : Option Addr} {x x' : Nat} {Y Y' : Option Addr} {y y' : Nat} {hs hs' : Nat → Option Addr × Nat} (h : DrN G0 G b b2 b3 A L c p N X x Y y hs)
    (h0 : Sub (del G0 b) G') (hb : G' b = G b) (h2 : G' b2 = G b2) (ho : OwnT G' N' X' x' Y' y' hs') (hoff : ∀ q, tabB X' Y' hs' N'.rows.length q → G0 q = none ∧ q ≠ b2 ∧ q ≠ b3) : DrN G0 (put G' b3 ⟨tabC N' X' x' Y' y', true⟩) b b2 b3 A L c p N' X' x' Y' y' hs' := by
  obtain ⟨q, st, e1, e2⟩ := h.src.ex
  have n3b := kb_ne h.kb h.n3
  have n2b := kb_ne h.kb h.n2
  refine ⟨⟨h0.skip (del_of h.n3), h.src.nb, h.src.byt, q, st, e1, by rw [put_ne _ _ n3b.symm, hb]; exact e2⟩, by rw [put_ne _ _ h.n23, h2]; exact h.r2, put_same _ _ _, ho.oth (Oth.put _ _ _) fun q hq => (hoff q hq).2.2, hoff, h.n2, h.n3, h.n23, h.kb⟩
/-- what is not of a list's block stands, and a list is not of what stands. -/
theorem wz_get {G G' : GH} {Z : Option Addr} (s : Sub (wz G Z) G') {q : Nat} (hq : G q ≠ none) (hz : ∀ a, Z = some a → a.block ≠ q) : G' q = G q := by
  cases hg : G q with
  | none => exact absurd hg hq
  | some e => exact s _ _ (by rw [wz_ne hz]; exact hg)
theorem DrN.off' {G0 G : GH} {b b2 b3 : Nat} {A : Option Addr} {L c p : Nat} {N : Tab} {X : Option Addr} {x : Nat} {Y : Option Addr} {y : Nat} {hs : Nat → Option Addr × Nat} (h : DrN G0 G b b2 b3 A L c p N X x Y y hs) {q : Nat} (hq : G q = none) : G0 q = none ∧ q ≠ b2 ∧ q ≠ b3 :=
  ⟨src_none h.src hq, fun e => (by rw [e, h.r2] at hq; cases hq), fun e => (by rw [e, h.r3] at hq; cases hq)⟩
theorem ap_own2 {G : GH} {A B : Option Addr} {c n m d sz bytes : Nat} {z cs news : List Value} {K : Value → GH → Prop} (h : Own G A c cs sz n) (hnews : Cells G B news) (hm : news.length = m * sz) (h1 : ∀ v ∈ news, oneB v = true)
    (hz : z.length = sz) (hsz : 0 < sz) (hb : bytes ≤ 4096) (hlen : n + m < 2 ^ 33) (hk : ∀ G' A' c', Own G' A' c' (cs ++ news) sz (n + m) → (∀ H, Sub H G → Off H A → Sub H G' ∧ Off H A') → Cells G' A cs → K (.slice A' (n + m) c') G') :
    gAp sz bytes z (.slice A n c) (.slice B m d) G K := by
  refine ⟨A, n, c, B, m, d, cs, news, rfl, rfl, h.len, fun j v hj => h.cells j v hj, hm, hnews, h1, ?_, by omega, fun hle => ?_, fun hlt b c' hb hc => ?_⟩
  · have : 2 * (n + m) * bytes ≤ 2 * 2 ^ 33 * 4096 := Nat.mul_le_mul (by omega) hb
    omega
  · rcases h with ⟨rfl, rfl, rfl, rfl⟩ | ⟨b, rest, rfl, hb, hcs, hrest, hnc⟩
    · obtain rfl : m = 0 := by omega
      have hn : news = [] := by simpa using hm
      subst hn
      exact .inl ⟨rfl, G, Sub.refl _, hk G none 0 (.inl ⟨rfl, rfl, rfl, rfl⟩) (fun H s o => ⟨s, o⟩) fun i v hv => by simp at hv⟩
    · have hfit : (n + m) * sz ≤ c * sz := Nat.mul_le_mul_right _ hle
      rw [List.length_append] at hrest
      have hfit' := hfit
      rw [Nat.add_mul] at hfit'
      have ho : over (cs ++ rest) (0 + n * sz) news = cs ++ news ++ rest.drop news.length := by
        have := over_app news cs rest
        rw [if_pos (by omega)] at this
        rw [Nat.zero_add, ← hcs]; exact this
      refine .inr ⟨b, 0, cs ++ rest, rfl, hb, by rw [List.length_append]; omega, _, Sub.refl _, hk _ _ _ (.inr ⟨b, rest.drop news.length, rfl, by rw [put_same, ho], by simp [hcs, hm, Nat.add_mul], ?_, hle⟩) (fun H s o => ⟨s.skip (o _ rfl), o⟩) fun i v hv => ?_⟩
      · simp only [List.length_append, List.length_drop]
        omega
      · rw [ho, pa_mk, Nat.zero_add, rd_put, List.append_assoc, List.getElem?_append_left (List.getElem?_eq_some_iff.1 hv).1]
        exact hv
  · have hcs := h.len
    have hcl := h.cells
    refine ⟨_, Sub.refl _, hk _ _ _ (.inr ⟨b, zc z (c' - (n + m)), rfl, put_same _ _ _, by simp [hcs, hm, Nat.add_mul], ?_, hc⟩) (fun H s o => ⟨s.skip (s.none hb), fun a ha => by cases ha; exact s.none hb⟩) fun i v hv => rd_sub (Sub.put hb _) (hcl i v hv)⟩
    have e1 : (zc z (c' - (n + m))).length = (c' - (n + m)) * sz := by simp [zc, hz]
    rw [List.length_append, e1, List.length_append, hcs, hm, ← Nat.add_mul, ← Nat.add_mul]
    congr 1; omega
/-- a column is laid behind the others. -/
theorem DrN.addcol {G0 G : GH} {b b2 b3 bs : Nat} {A : Option Addr} {L c p : Nat} {N : Tab} {X : Option Addr} {x : Nat} {Y : Option Addr} {y : Nat} {hs : Nat → Option Addr × Nat} (h : DrN G0 G b b2 b3 A L c p N X x Y y hs) {v : Int} (hb : G bs = some ⟨[I64 v], true⟩) (hl : N.cols.length < 2 ^ 20) {K : Value → GH → Prop}
    (hK : ∀ G4 X' x', (∀ K' : Value → GH → Prop, (∀ G5, DrN G0 G5 b b2 b3 A L c p ⟨N.cols ++ [v], N.rows⟩ X' x' Y y hs → K' undef G5) → gSt 1 (.pointer (some ⟨b3, 0, none⟩)) (.slice X' (N.cols.length + 1) x') G4 K') → K (.slice X' (N.cols.length + 1) x') G4) :
    gAp 1 8 [.int .i64 0] (.slice X N.cols.length x) (.slice (some ⟨bs, 0, none⟩) 1 1) G K := by
  refine ap_own h.own.cols (news := [I64 v]) (m := 1) (Own.blk (n := 1) (sz := 1) hb rfl).cells (by rfl) (by intro v hv; simp at hv; subst hv; rfl) rfl (by omega) (by omega) (by omega) fun G4 X' x' hO keep => ?_
  obtain ⟨s4, o4⟩ := keep _ (Sub.wz G X) (Off.wz G X)
  refine hK G4 X' x' fun K' hK' => ?_
  have nX : ∀ {q : Nat}, (q = b ∨ q = b2 ∨ q = b3) → ∀ a, X = some a → a.block ≠ q := fun {q} hq a ha e => by
    have := h.off a.block (.inl ⟨a, ha, rfl⟩)
    rcases hq with r | r | r
    · exact kb_ne h.kb this.1 (e.trans r)
    · exact this.2.1 (e.trans r)
    · exact this.2.2 (e.trans r)
  obtain ⟨qq, st, e1, e2⟩ := h.src.ex
  have gb := wz_get s4 (q := b) (by rw [e2]; simp) (nX (.inl rfl))
  have g2 := wz_get s4 (q := b2) (by rw [h.r2]; simp) (nX (.inr (.inl rfl)))
  have g3 := wz_get s4 (q := b3) (by rw [h.r3]; simp) (nX (.inr (.inr rfl)))
  have h0 : Sub (del G0 b) G4 := fun q f hq => by
    refine s4 _ _ ?_
    rw [wz_ne fun a ha e => ?_]
    · exact h.src.sub _ _ hq
    · have := (h.off a.block (.inl ⟨a, ha, rfl⟩)).1
      unfold del at hq
      split at hq
      · cases hq
      · rw [← e, this] at hq; cases hq
  -- the other parts
  have hout : Own G4 Y y ((List.range N.rows.length).map fun i => Value.slice (hs i).1 (N.rows.getD i []).length (hs i).2) 1 N.rows.length := (h.own.rows.out.wz fun a b ha hb => (h.own.nB b a hb ha).symm).sub s4
  have hrow : ∀ i, i < N.rows.length → Own G4 (hs i).1 (hs i).2 ((N.rows.getD i []).map I64) 1 (N.rows.getD i []).length := fun i hi => ((h.own.rows.row i hi).wz fun a b ha hb => (h.own.nR i hi b a hb ha).symm).sub s4
  have nX' : ∀ {B : Option Addr} {c sz n : Nat} {cs : List Value}, Own G B c cs sz n → (∀ a b, X = some a → B = some b → a.block ≠ b.block) → ∀ a b, X' = some a → B = some b → a.block ≠ b.block := fun hB hn a b ha hb e => by
    have h1 := own_ne (hB.wz fun b a hb ha => (hn a b ha hb).symm) b hb
    have h2 := o4 a ha
    rw [e] at h2; exact h1 h2
  have hown : OwnT G4 ⟨N.cols ++ [v], N.rows⟩ X' x' Y y hs := by
    refine ⟨hO.cast (by simp [I64]) (by simp), ⟨hout, hrow, h.own.rows.ne, h.own.rows.inj⟩, nX' h.own.rows.out h.own.nB, fun i hi => nX' (h.own.rows.row i hi) (h.own.nR i hi)⟩
  have hof : ∀ q, tabB X' Y hs N.rows.length q → G0 q = none ∧ q ≠ b2 ∧ q ≠ b3 := fun q hq => by
    rcases hq with ⟨a, ha, rfl⟩ | hq
    · have h2 := o4 a ha
      by_cases c : G a.block = none
      · exact h.off' c
      · have : ∃ z, X = some z ∧ z.block = a.block := by
          apply Classical.byContradiction; intro hn
          rw [wz_ne fun z hz e => hn ⟨z, hz, e⟩] at h2
          exact c h2
        obtain ⟨z, hz, e⟩ := this
        exact h.off _ (.inl ⟨z, hz, e⟩)
    · exact h.off q (.inr hq)
  refine st_one (by rw [g3]; exact h.r3) (by simp [tabC]) rfl ?_
  have := h.box (N' := ⟨N.cols ++ [v], N.rows⟩) h0 gb g2 hown hof
  unfold tabC at this ⊢
  rw [show (⟨N.cols ++ [v], N.rows⟩ : Tab).cols.length = N.cols.length + 1 by simp] at this
  exact hK' _ this
/-- the rows are laid anew. -/
theorem DrN.repl {G0 G G' : GH} {b b2 b3 : Nat} {A : Option Addr} {L c p : Nat} {N : Tab} {X : Option Addr} {x : Nat} {Y Z' : Option Addr} {y z' : Nat} {hs hs' : Nat → Option Addr × Nat} {yss : List (List Int)} (h : DrN G0 G b b2 b3 A L c p N X x Y y hs) (s : Sub G G') (ho : OwnR G' Z' z' hs' yss) (oZ : Off G Z')
    (oR : ∀ i, i < yss.length → (∃ j, j < N.rows.length ∧ hs' i = hs j) ∨ Off G (hs' i).1) {K : Value → GH → Prop} (hK : ∀ G5, DrN G0 G5 b b2 b3 A L c p ⟨N.cols, yss⟩ X x Z' z' hs' → K undef G5) : gSt 1 (.pointer (some ⟨b3, 1, none⟩)) (.slice Z' yss.length z') G' K := by
  have h' := h.up s
  have key : ∀ {B : Option Addr}, Off G B → ∀ a b, X = some a → B = some b → a.block ≠ b.block := fun o a b ha hb e => by
    have h1 := own_ne h.own.cols a ha
    rw [e, o b hb] at h1; exact h1 rfl
  have hown : OwnT G' ⟨N.cols, yss⟩ X x Z' z' hs' := ⟨h'.own.cols, ho, key oZ, fun i hi => by
    rcases oR i hi with ⟨j, hj, e⟩ | o
    · rw [e]; exact h.own.nR j hj
    · exact key o⟩
  have hof : ∀ q, tabB X Z' hs' yss.length q → G0 q = none ∧ q ≠ b2 ∧ q ≠ b3 := fun q hq => by
    rcases hq with ⟨a, ha, rfl⟩ | ⟨a, ha, rfl⟩ | ⟨i, hi, a, ha, rfl⟩
    · exact h.off _ (.inl ⟨a, ha, rfl⟩)
    · exact h.off' (oZ a ha)
    · rcases oR i hi with ⟨j, hj, e⟩ | o
      · rw [e] at ha; exact h.off _ (.inr (.inr ⟨j, hj, a, ha, rfl⟩))
      · exact h.off' (o a ha)
  refine st_one h'.r3 (by simp [tabC]) rfl ?_
  have := h.box (N' := ⟨N.cols, yss⟩) h'.src.sub ?_ (by rw [h'.r2, h.r2]) hown hof
  · unfold tabC at this ⊢
    exact hK _ this
  · obtain ⟨qq, st, e1, e2⟩ := h.src.ex
    rw [e2]; exact s _ _ e2
/-- a row is laid behind the others. -/
theorem DrN.addrow {G0 G G' : GH} {b b2 b3 bs e : Nat} {A D : Option Addr} {L c p : Nat} {N : Tab} {X : Option Addr} {x : Nat} {Y : Option Addr} {y : Nat} {hs : Nat → Option Addr × Nat} {r : List Int} (h : DrN G0 G b b2 b3 A L c p N X x Y y hs) (s : Sub G G') (hD : Own G' D e (r.map I64) 1 r.length) (oD : Off G D)
    (hb : G' bs = some ⟨[.slice D r.length e], true⟩) (hl : N.rows.length < 2 ^ 20) {K : Value → GH → Prop}
    (hK : ∀ G4 Y' y', G4 b3 = some ⟨tabC N X x Y y, true⟩ → (∀ j, j < N.rows.length → Gh.rd G4 (pa Y j) = some (.slice (hs j).1 (N.rows.getD j []).length (hs j).2)) → (∀ K' : Value → GH → Prop, (∀ G5 hs', DrN G0 G5 b b2 b3 A L c p ⟨N.cols, N.rows ++ [r]⟩ X x Y' y' hs' → K' undef G5) → gSt 1 (.pointer (some ⟨b3, 1, none⟩)) (.slice Y' (N.rows.length + 1) y') G4 K') → K (.slice Y' (N.rows.length + 1) y') G4) :
    gAp 1 24 [.slice none 0 0] (.slice Y N.rows.length y) (.slice (some ⟨bs, 0, none⟩) 1 1) G' K := by
  have h' := h.up s
  refine ap_own2 h'.own.rows.out (news := [.slice D r.length e]) (m := 1) (Own.blk (n := 1) (sz := 1) hb rfl).cells (by rfl) (by intro v hv; simp at hv; subst hv; rfl) rfl (by omega) (by omega) (by omega) fun G4 Y' y' hO keep hcl => ?_
  obtain ⟨s4, o4⟩ := keep _ (Sub.wz G' Y) (Off.wz G' Y)
  have nD : ∀ {B : Option Addr} {c sz n : Nat} {cs : List Value}, Own G B c cs sz n → ∀ a b, B = some a → D = some b → a.block ≠ b.block := fun hB a b ha hb q => by
    have := own_ne hB a ha
    rw [q, oD b hb] at this; exact this rfl
  have hR := h'.own.rows.snoc (x := r) hD (fun a b ha hb q => nD h.own.rows.out b a hb ha q.symm) (fun i hi a b ha hb => nD (h.own.rows.row i hi) a b ha hb) s4 o4 hO
  have nY : ∀ {q : Nat}, (q = b ∨ q = b2 ∨ q = b3) → ∀ a, Y = some a → a.block ≠ q := fun {q} hq a ha e => by
    have := h.off a.block (.inr (.inl ⟨a, ha, rfl⟩))
    rcases hq with r | r | r
    · exact kb_ne h.kb this.1 (e.trans r)
    · exact this.2.1 (e.trans r)
    · exact this.2.2 (e.trans r)
  obtain ⟨qq, st, e1, e2⟩ := h'.src.ex
  have gb := wz_get s4 (q := b) (by rw [e2]; simp) (nY (.inl rfl))
  have g2 := wz_get s4 (q := b2) (by rw [h'.r2]; simp) (nY (.inr (.inl rfl)))
  have g3 := wz_get s4 (q := b3) (by rw [h'.r3]; simp) (nY (.inr (.inr rfl)))
  refine hK G4 Y' y' (by rw [g3]; exact h'.r3) (fun j hj => hcl j _ (by simp [hj])) fun K' hK' => ?_
  have h0 : Sub (del G0 b) G4 := fun q f hq => by
    refine s4 _ _ ?_
    rw [wz_ne fun a ha e => ?_]
    · exact h'.src.sub _ _ hq
    · have := (h.off a.block (.inr (.inl ⟨a, ha, rfl⟩))).1
      unfold del at hq
      split at hq
      · cases hq
      · rw [← e, this] at hq; cases hq
  have hcols : Own G4 X x (N.cols.map I64) 1 N.cols.length := (h'.own.cols.wz h.own.nB).sub s4
  have hY' : ∀ q, (∃ a, Y' = some a ∧ a.block = q) → G0 q = none ∧ q ≠ b2 ∧ q ≠ b3 := fun q ⟨a, ha, e⟩ => by
    subst e
    have h2 := o4 a ha
    by_cases c : G' a.block = none
    · exact h'.off' c
    · have : ∃ z, Y = some z ∧ z.block = a.block := by
        apply Classical.byContradiction; intro hn
        rw [wz_ne fun z hz e => hn ⟨z, hz, e⟩] at h2
        exact c h2
      obtain ⟨z, hz, e⟩ := this
      exact h.off _ (.inr (.inl ⟨z, hz, e⟩))
  have hl' : (N.rows ++ [r]).length = N.rows.length + 1 := by simp
  have hown : OwnT G4 ⟨N.cols, N.rows ++ [r]⟩ X x Y' y' (fun i => if i = N.rows.length then (D, e) else hs i) := by
    refine ⟨hcols, hR, fun a b ha hb q => ?_, fun i hi => ?_⟩
    · have h1 := own_ne (h'.own.cols.wz h.own.nB) a ha
      have h2 := o4 b hb
      rw [← q] at h2; exact h1 h2
    · have hi : i < (N.rows ++ [r]).length := hi
      rw [hl'] at hi
      by_cases q : i = N.rows.length
      · simp only [if_pos q]; exact fun a b ha hb => nD h.own.cols a b ha hb
      · simp only [if_neg q]; exact h.own.nR i (by omega)
  have hof : ∀ q, tabB X Y' (fun i => if i = N.rows.length then (D, e) else hs i) (N.rows ++ [r]).length q → G0 q = none ∧ q ≠ b2 ∧ q ≠ b3 := fun q hq => by
    rcases hq with hq | hq | ⟨i, hi, a, ha, rfl⟩
    · exact h.off q (.inl hq)
    · exact hY' q hq
    · rw [hl'] at hi
      by_cases q : i = N.rows.length
      · simp only [if_pos q] at ha; exact h.off' (oD a ha)
      · simp only [if_neg q] at ha; exact h.off _ (.inr (.inr ⟨i, by omega, a, ha, rfl⟩))
  refine st_one (by rw [g3]; exact h'.r3) (by simp [tabC]) rfl ?_
  have := h'.box (N' := ⟨N.cols, N.rows ++ [r]⟩) h0 gb g2 hown hof
  unfold tabC at this ⊢
  rw [show (⟨N.cols, N.rows ++ [r]⟩ : Tab).rows.length = N.rows.length + 1 by simp] at this
  exact hK' _ _ this
/-- the table is handed out. -/
theorem DrN.fin {G0 G : GH} {b b2 b3 : Nat} {A : Option Addr} {L c p : Nat} {N : Tab} {X : Option Addr} {x : Nat} {Y : Option Addr} {y : Nat} {hs : Nat → Option Addr × Nat} (h : DrN G0 G b b2 b3 A L c p N X x Y y hs) (e : Ent) : DrT G0 (put G b2 e) b A L c p N X x Y y hs := by
  obtain ⟨q, st, h1, h2⟩ := h.src.ex
  exact ⟨⟨h.src.sub.skip (del_of h.n2), h.src.nb, h.src.byt, q, st, h1, by rw [put_ne _ _ (kb_ne h.kb h.n2).symm]; exact h2⟩, h.own.oth (Oth.put _ _ _) fun q hq => (h.off q hq).2.1, fun q hq => (h.off q hq).1, h.kb⟩
/-- a drawn table: few small lists. -/
structure DSm (N : Tab) : Prop where
  c : N.cols.length ≤ 100
  r : N.rows.length ≤ 100
  l : ∀ r ∈ N.rows, r.length ≤ 100
theorem DSm.sm {N : Tab} (h : DSm N) : TSm N := tsm_of (by have := h.c; omega) (by have := h.r; omega) fun x hx => by have := h.l x hx; omega
theorem Src.then {G G' G'' : GH} {b : Nat} {A : Option Addr} {L c p p' : Nat} (h : Src (del G b) G' b A L c p) (s : Src (del G' b) G'' b A L c p') : Src (del G b) G'' b A L c p' := ⟨(h.sub.in_del h.nb).trans s.sub, h.nb, h.byt, s.ex⟩
theorem Src.kb {H G : GH} {b : Nat} {A : Option Addr} {L c p : Nat} (h : Src H G b A L c p) : G b ≠ none := by
  obtain ⟨q, st, _, h2⟩ := h.ex; rw [h2]; simp
theorem Src.upS {H G G' : GH} {b : Nat} {A : Option Addr} {L c p : Nat} (h : Src H G b A L c p) (s : Sub G G') : Src H G' b A L c p := by
  obtain ⟨q, st, h1, h2⟩ := h.ex
  exact ⟨h.sub.trans s, h.nb, h.byt, q, st, h1, s _ _ h2⟩
/-- a row that is being drawn beside a table. -/
structure RowD (Gd G : GH) (b : Nat) (A : Option Addr) (L c p : Nat) (Z : Option Addr) (z : Nat) (xs : List Int) : Prop where
  src : Src (del Gd b) G b A L c p
  own : Own G Z z (xs.map I64) 1 xs.length
  off : Off Gd Z
  kb : Gd b ≠ none
theorem RowD.step {Gd G G' : GH} {b : Nat} {A : Option Addr} {L c p p' : Nat} {Z : Option Addr} {z : Nat} {xs : List Int} (h : RowD Gd G b A L c p Z z xs) (s : Src (del G b) G' b A L c p') : RowD Gd G' b A L c p' Z z xs :=
  ⟨h.src.then s, (h.own.del fun a ha => kb_ne h.kb (h.off a ha)).sub s.sub, h.off, h.kb⟩
theorem RowD.up {Gd G G' : GH} {b : Nat} {A : Option Addr} {L c p : Nat} {Z : Option Addr} {z : Nat} {xs : List Int} (h : RowD Gd G b A L c p Z z xs) (s : Sub G G') : RowD Gd G' b A L c p Z z xs := ⟨h.src.upS s, h.own.sub s, h.off, h.kb⟩
theorem RowD.add {Gd G : GH} {b bs : Nat} {A : Option Addr} {L c p : Nat} {Z : Option Addr} {z : Nat} {xs : List Int} {v : Int} (h : RowD Gd G b A L c p Z z xs) (hb : G bs = some ⟨[I64 v], true⟩) (hl : xs.length < 2 ^ 20) {K : Value → GH → Prop}
    (hK : ∀ G4 Z' z', RowD Gd G4 b A L c p Z' z' (xs ++ [v]) → K (.slice Z' (xs.length + 1) z') G4) : gAp 1 8 [.int .i64 0] (.slice Z xs.length z) (.slice (some ⟨bs, 0, none⟩) 1 1) G K := by
  refine ap_own h.own (news := [I64 v]) (m := 1) (Own.blk (n := 1) (sz := 1) hb rfl).cells (by rfl) (by intro v hv; simp at hv; subst hv; rfl) rfl (by omega) (by omega) (by omega) fun G4 Z' z' hO keep => ?_
  obtain ⟨s4, o4⟩ := keep _ (Sub.wz G Z) (Off.wz G Z)
  have nZ : ∀ a, Z = some a → a.block ≠ b := fun a ha => kb_ne h.kb (h.off a ha)
  obtain ⟨q, st, e1, e2⟩ := h.src.ex
  have gb := wz_get s4 (q := b) (by rw [e2]; simp) nZ
  have h0 : Sub (del Gd b) G4 := fun q f hq => by
    refine s4 _ _ ?_
    rw [wz_ne fun a ha e => ?_]
    · exact h.src.sub _ _ hq
    · have := h.off a ha
      unfold del at hq
      split at hq
      · cases hq
      · rw [← e, this] at hq; cases hq
  refine hK G4 Z' z' ⟨⟨h0, h.src.nb, h.src.byt, q, st, e1, by rw [gb]; exact e2⟩, hO.cast (by simp) (by simp), fun a ha => ?_, h.kb⟩
  have h2 := o4 a ha
  by_cases c : G a.block = none
  · exact src_none h.src c
  · have : ∃ y, Z = some y ∧ y.block = a.block := by
      apply Classical.byContradiction; intro hn
      rw [wz_ne fun y hy e => hn ⟨y, hy, e⟩] at h2
      exact c h2
    obtain ⟨y, hy, e⟩ := this
    have := h.off y hy
    rwa [e] at this
theorem lit_del {G : GH} {b bl : Nat} (xs : List Int) (h : bl ≠ b) : IntS (del (put G bl ⟨xs.map I64, true⟩) b) (some ⟨bl, 0, none⟩) xs.length xs :=
  blk_ints (xs := xs) (w := true) (by rw [del_ne _ h]; exact put_same _ _ _)
theorem ins_row {P : List Int → Prop} {x : List Int} {xss : List (List Int)} (hx : P x) (h : ∀ r ∈ xss, P r) : ∀ r ∈ ins x xss, P r := fun r hr => by
  rcases mem_ins.1 hr with rfl | hr
  · exact hx
  · exact h r hr
theorem dok_rows {G G3 : GH} {b b2 b3 br : Nat} {A : Option Addr} {L c p : Nat} {cs : List Int} {X : Option Addr} {x : Nat} {T : Nat → Value} {K : Value → GH → Prop} (t0 : T 0 = .pointer (some ⟨b, 0, none⟩)) (t2 : T 2 = .pointer (some ⟨b2, 0, none⟩)) (t3 : T 3 = .pointer (some ⟨b3, 0, none⟩)) (hcl : cs.length ≤ 5)
    (hD : DrN G G3 b b2 b3 A L c (p + 20) ⟨cs, []⟩ X x (some ⟨br, 0, none⟩) 0 (fun _ => (none, 0))) (hp : p < 2 ^ 30)
    (hk : ∀ G' N X x Y y hs, DrT G G' b A L c (p + 1000) N X x Y y hs → N.cols.length ≤ 10 → N.rows.length ≤ 10 → (∀ r ∈ N.rows, r.length = N.cols.length) → K (tabV N X x Y y) G') :
    gW Tryz.prog (.seq (.seq (.reg c_spec_l20DrawOk_10) (.blk 2 (.loop c_spec_l20DrawOk_l2))) (.seq (.reg c_spec_l20DrawOk_21) (.ret))) (RetK [RV.cn 2 2] K) T G3 := by
  simp (maxSteps := 300000) (disch := omega) only [gs, gs2, gs3, gs4, ↓reduceIte, Nat.reduceEqDiff, Int.reduceToNat, Nat.reduceMul, Nat.reduceAdd, Nat.reduceBEq, isLd, t0, t2, t3]
  refine spec_pick_ok hD.src.all (by omega) (by omega) fun v G4 v0 v1 vz s4 => ?_
  have hv := v1 (by omega)
  have hD := hD.step s4
  obtain ⟨vn, rfl⟩ : ∃ vn : Nat, v = vn := ⟨v.toNat, by omega⟩
  simp (maxSteps := 300000) (disch := omega) only [gs, gs2, gs3, gs4, ↓reduceIte, Nat.reduceEqDiff, Int.reduceToNat, Nat.reduceMul, Nat.reduceAdd, Nat.reduceBEq, isLd, t0, t2, t3]
  refine gLoop_intro (fun m T G' => ∃ (rs : List (List Int)) (Y : Option Addr) (y : Nat) (hs : Nat → Option Addr × Nat), T 0 = .pointer (some ⟨b, 0, none⟩) ∧ T 2 = .pointer (some ⟨b2, 0, none⟩) ∧ T 3 = .pointer (some ⟨b3, 0, none⟩) ∧ T 5 = .int .i64 m ∧ m ≤ 6 ∧ rs.length + m ≤ 6 ∧ Asc rs ∧ (∀ r ∈ rs, r.length = cs.length) ∧ DrN G G' b b2 b3 A L c (p + 22 + 20 * (6 - m)) ⟨cs, rs⟩ X x Y y hs) vn
    ⟨[], _, 0, _, by simp (maxSteps := 300000) (disch := omega) only [gs, gs2, gs3, gs4, ↓reduceIte, Nat.reduceEqDiff, Int.reduceToNat, Nat.reduceMul, Nat.reduceAdd, Nat.reduceBEq, isLd, t0], by simp (maxSteps := 300000) (disch := omega) only [gs, gs2, gs3, gs4, ↓reduceIte, Nat.reduceEqDiff, Int.reduceToNat, Nat.reduceMul, Nat.reduceAdd, Nat.reduceBEq, isLd, t2], by simp (maxSteps := 300000) (disch := omega) only [gs, gs2, gs3, gs4, ↓reduceIte, Nat.reduceEqDiff, Int.reduceToNat, Nat.reduceMul, Nat.reduceAdd, Nat.reduceBEq, isLd, t3], by simp (maxSteps := 300000) (disch := omega) only [gs, gs2, gs3, gs4, ↓reduceIte, Nat.reduceEqDiff, Int.reduceToNat, Nat.reduceMul, Nat.reduceAdd, Nat.reduceBEq, isLd], by omega, by simp; omega, List.Pairwise.nil, fun r hr => (by cases hr), hD.le (by omega)⟩ ?_
  clear hD t0 t2 t3 v0 v1 vz hv s4 vn
  rintro m T G5 ⟨rs, Y, y, hs, t0, t2, t3, t5, hm, hrm, hasc, hlen, hD⟩
  simp (maxSteps := 300000) (disch := omega) only [gs, gs2, gs3, gs4, ↓reduceIte, Nat.reduceEqDiff, Int.reduceToNat, Nat.reduceMul, Nat.reduceAdd, Nat.reduceBEq, isLd, t0, t2, t3, t5]
  by_cases hm0 : (0 : Int) < m
  · simp (maxSteps := 300000) (disch := omega) only [gs, gs2, gs3, gs4, ↓reduceIte, Nat.reduceEqDiff, Int.reduceToNat, Nat.reduceMul, Nat.reduceAdd, Nat.reduceBEq, isLd, t0, t2, t3, t5, hm0, gBs]
    refine ⟨fun v hv => (by cases hv), fun by' hby => ?_⟩
    have hR0 : RowD G5 (put G5 by' ⟨[], true⟩) b A L c (p + 22 + 20 * (6 - m)) (some ⟨by', 0, none⟩) 0 [] := ⟨hD.src.all.upS (Sub.put hby _), Own.blk (put_same _ _ _) rfl, fun a ha => by cases ha; exact hby, hD.src.kb⟩
    refine gLoop_intro (fun m' T' Gx => ∃ (xs : List Int) (Z : Option Addr) (z : Nat), T' 0 = .pointer (some ⟨b, 0, none⟩) ∧ T' 2 = .pointer (some ⟨b2, 0, none⟩) ∧ T' 3 = .pointer (some ⟨b3, 0, none⟩) ∧ T' 5 = .int .i64 m ∧ T' 6 = .slice Z xs.length z ∧ T' 7 = .int .i64 xs.length ∧ m' + xs.length = cs.length ∧ RowD G5 Gx b A L c (p + 22 + 20 * (6 - m) + 2 * xs.length) Z z xs) cs.length
      ⟨[], _, 0, by simp (maxSteps := 300000) (disch := omega) only [gs, gs2, gs3, gs4, ↓reduceIte, Nat.reduceEqDiff, Int.reduceToNat, Nat.reduceMul, Nat.reduceAdd, Nat.reduceBEq, isLd, t0], by simp (maxSteps := 300000) (disch := omega) only [gs, gs2, gs3, gs4, ↓reduceIte, Nat.reduceEqDiff, Int.reduceToNat, Nat.reduceMul, Nat.reduceAdd, Nat.reduceBEq, isLd, t2], by simp (maxSteps := 300000) (disch := omega) only [gs, gs2, gs3, gs4, ↓reduceIte, Nat.reduceEqDiff, Int.reduceToNat, Nat.reduceMul, Nat.reduceAdd, Nat.reduceBEq, isLd, t3], by simp (maxSteps := 300000) (disch := omega) only [gs, gs2, gs3, gs4, ↓reduceIte, Nat.reduceEqDiff, Int.reduceToNat, Nat.reduceMul, Nat.reduceAdd, Nat.reduceBEq, isLd, t5], by simp (maxSteps := 300000) (disch := omega) only [gs, gs2, gs3, gs4, ↓reduceIte, Nat.reduceEqDiff, Int.reduceToNat, Nat.reduceMul, Nat.reduceAdd, Nat.reduceBEq, isLd] <;> rfl, by simp (maxSteps := 300000) (disch := omega) only [gs, gs2, gs3, gs4, ↓reduceIte, Nat.reduceEqDiff, Int.reduceToNat, Nat.reduceMul, Nat.reduceAdd, Nat.reduceBEq, isLd] <;> rfl, by simp, hR0⟩ ?_
    clear hR0 t0 t2 t3 t5
    rintro m' T' Gx ⟨xs, Z, z, t0, t2, t3, t5, t6, t7, hm', hR⟩
    have hDx := hD.step hR.src
    have f := hDx.rd
    simp (maxSteps := 300000) (disch := omega) only [gs, gs2, gs3, gs4, ↓reduceIte, Nat.reduceEqDiff, Int.reduceToNat, Nat.reduceMul, Nat.reduceAdd, Nat.reduceBEq, isLd, t0, t2, t3, t5, t6, t7, f.1, f.2]
    by_cases hj : (xs.length : Int) < cs.length
    · simp (maxSteps := 300000) (disch := omega) only [gs, gs2, gs3, gs4, ↓reduceIte, Nat.reduceEqDiff, Int.reduceToNat, Nat.reduceMul, Nat.reduceAdd, Nat.reduceBEq, isLd, t0, t2, t3, t5, t6, t7, f.1, f.2, hj, gBs]
      refine ⟨fun v hv => (by simp at hv; rcases hv with rfl | rfl | rfl | rfl | rfl | rfl <;> rfl), fun bl hbl => ?_⟩
      have sl := Sub.put hbl ⟨([0, 1, 0, 1, 2, 3] : List Int).map I64, true⟩
      have hRl := hR.up sl
      have nlb : bl ≠ b := fun e => by have := hR.src.kb; rw [← e] at this; exact this hbl
      have hil := lit_del (G := Gx) [0, 1, 0, 1, 2, 3] nlb
      have e0 : put Gx bl ⟨List.flatMap (fun v : Value => v.cells.toList) [Value.int .i64 0, Value.int .i64 1, Value.int .i64 0, Value.int .i64 1, Value.int .i64 2, Value.int .i64 3], true⟩ = put Gx bl ⟨([0, 1, 0, 1, 2, 3] : List Int).map I64, true⟩ := rfl
      try rw [e0]
      revert hRl hil
      generalize put Gx bl ⟨([0, 1, 0, 1, 2, 3] : List Int).map I64, true⟩ = Gy
      intro hRl hil
      refine spec_among_ok (xs := [0, 1, 0, 1, 2, 3]) hRl.src.all (by omega) hil (by decide) (by decide) fun v Gz hv sz => ?_
      have hRz := hRl.step sz
      simp (maxSteps := 300000) (disch := omega) only [gs, gs2, gs3, gs4, ↓reduceIte, Nat.reduceEqDiff, Int.reduceToNat, Nat.reduceMul, Nat.reduceAdd, Nat.reduceBEq, isLd, t0, t2, t3, t5, t6, t7, gBs]
      refine ⟨fun v hv => (by simp at hv; subst hv; rfl), fun bs hbs => ?_⟩
      refine (hRz.up (Sub.put hbs _)).add (v := v) (put_same _ _ _) (by omega) fun G7 Z' z' hR7 => ?_
      simp (maxSteps := 300000) (disch := omega) only [gs, gs2, gs3, gs4, ↓reduceIte, Nat.reduceEqDiff, Int.reduceToNat, Nat.reduceMul, Nat.reduceAdd, Nat.reduceBEq, isLd, t0, t2, t3, t5, t6, t7]
      have hl1 : (xs ++ [v]).length = xs.length + 1 := by simp
      exact ⟨m' - 1, by omega, G7, Sub.refl _, xs ++ [v], Z', z', by rw [hl1], by rw [hl1]; rfl, by rw [hl1]; omega, by
        rw [hl1]
        exact ⟨hR7.src.le (by omega), hR7.own, hR7.off, hR7.kb⟩⟩
    · have hxl : xs.length = cs.length := by omega
      simp (maxSteps := 300000) (disch := omega) only [gs, gs2, gs3, gs4, ↓reduceIte, Nat.reduceEqDiff, Int.reduceToNat, Nat.reduceMul, Nat.reduceAdd, Nat.reduceBEq, isLd, t0, t2, t3, t5, t6, t7, f.1, f.2, hj]
      refine spec_l20Put_ok hDx.own.rows hasc hR.own.ints (by show rs.length < _; omega) (fun i hi => ?_) (by omega) fun G7 Z' z' hs7 s7 hO7 oZ7 oR7 => ?_
      · have := hlen (rs.getD i []) (by have hi : i < rs.length := hi; simp [List.getD, hi])
        show (rs.getD i []).length < _
        omega
      simp (maxSteps := 300000) (disch := omega) only [gs, gs2, gs3, gs4, ↓reduceIte, Nat.reduceEqDiff, Int.reduceToNat, Nat.reduceMul, Nat.reduceAdd, Nat.reduceBEq, isLd, t0, t2, t3, t5]
      refine hDx.repl s7 hO7 oZ7 oR7 fun G8 hD8 => ?_
      simp (maxSteps := 300000) (disch := omega) only [gs, gs2, gs3, gs4, ↓reduceIte, Nat.reduceEqDiff, Int.reduceToNat, Nat.reduceMul, Nat.reduceAdd, Nat.reduceBEq, isLd, t0, t2, t3, t5]
      have := ins_len xs rs
      refine ⟨m - 1, by omega, G8, Sub.refl _, ins xs rs, Z', z', hs7, by congr 1; omega, by omega, by omega, asc_ins hasc, ins_row (P := fun r => r.length = cs.length) hxl hlen, hD8.le (by omega)⟩
  · simp (maxSteps := 300000) (disch := omega) only [gs, gs2, gs3, gs4, ↓reduceIte, Nat.reduceEqDiff, Int.reduceToNat, Nat.reduceMul, Nat.reduceAdd, Nat.reduceBEq, isLd, t0, t2, t3, t5, hm0]
    have f := hD.rd
    simp (maxSteps := 300000) (disch := omega) only [gs, gs2, gs3, gs4, ↓reduceIte, Nat.reduceEqDiff, Int.reduceToNat, Nat.reduceMul, Nat.reduceAdd, Nat.reduceBEq, isLd, t0, t2, t3, t5, f.1, f.2]
    refine st_many (vs := [.slice X cs.length x, .slice Y rs.length y]) rfl hD.r2 rfl (by simp [zT]) (by intro v hv; simp at hv; rcases hv with rfl | rfl <;> rfl) ?_
    unfold zT
    simp only [over, List.set_cons_zero, List.set_cons_succ]
    have k0 : rd (put G5 b2 ⟨[.slice X cs.length x, .slice Y rs.length y], true⟩) (some ⟨b2, 0, none⟩) = some (.slice X cs.length x) := rd_box _ _ _ 0 _ rfl
    have k1 : rd (put G5 b2 ⟨[.slice X cs.length x, .slice Y rs.length y], true⟩) (some ⟨b2, 1, none⟩) = some (.slice Y rs.length y) := rd_box _ _ _ 1 _ rfl
    simp (maxSteps := 300000) (disch := omega) only [gs, gs2, gs3, gs4, ↓reduceIte, Nat.reduceEqDiff, Int.reduceToNat, Nat.reduceMul, Nat.reduceAdd, Nat.reduceBEq, isLd, t2, k0, k1]
    exact hk _ ⟨cs, rs⟩ X x Y y hs ((hD.fin _).le (by omega)) (by show cs.length ≤ _; omega) (by show rs.length ≤ _; omega) hlen

end Go.Proofs.YtanpmilodaejpaaGreat.Gh
