/- What the functions that the law JoinTables reaches return, and the law; it stands under no condition. -/
import Derived.Test.YtanpmilodaejpaaYJoinTablesb
import Derived.Shelf.SlSortCmp.NoneTotal
import Derived.Lib.QuietBelow
import Derived.Shelf.SortG.Plain
import Derived.Shelf.SortG.SortNone
namespace Go.Proofs.Ytanpmilodaejpaa.Gh
open Go Go.RowKit Go.Proofs
set_option linter.unusedVariables false
set_option linter.unusedSimpArgs false
set_option maxHeartbeats 4000000

theorem SemG.sorted {H G G' : GH} {b5 n c1 z : Nat} {A1 Z : Option Addr} {hs hs' : Nat → Option Addr × Nat} {xss : List (List Int)} (h : SemG H G b5 A1 n c1 Z z hs xss) (s : Sub (wz G Z) G') (ho : OwnR G' Z z hs' (srt xss))
    (hj : ∀ i, i < (srt xss).length → ∃ j, j < xss.length ∧ hs' i = hs j) {K : Value → GH → Prop} (hK : ∀ G5, SemG H G5 b5 A1 n c1 Z z hs' (srt xss) → K undef G5) : gSt 1 (.pointer (some ⟨b5, 1, none⟩)) (.slice Z (srt xss).length z) G' K := by
  have sw : ∀ {e : Ent}, Sub (put H b5 e) G → Sub (put H b5 e) (wz G Z) := fun {e} s y f hy => by
    rw [wz_ne fun a ha => fun q => by
      have := (h.oZ.pute (e' := e)) a ha
      rw [q, hy] at this; cases this]
    exact s y f hy
  have s5 := (sw h.sub).trans s
  have hbox : G' b5 = some ⟨[.slice A1 n c1, .slice Z xss.length z], true⟩ := s5 _ _ (put_same _ _ _)
  have oR' : ∀ i, i < (srt xss).length → Off (put H b5 ⟨[], true⟩) (hs' i).1 := fun i hi => by
    obtain ⟨j, hj', e⟩ := hj i hi
    rw [e]; exact h.oR j hj'
  refine st_one hbox (by simp) rfl (hK _ ⟨h.nb, fun y f hy => ?_, ho.oth (Oth.put _ _ _) (h.oZ.ne) fun i hi a ha => (oR' i hi).ne a ha, h.oZ, oR'⟩)
  by_cases c : y = b5
  · subst c
    rw [put_same] at hy ⊢
    rw [← hy]; rfl
  · rw [put_ne _ _ c] at hy ⊢
    exact s5 _ _ (by rw [put_ne _ _ c]; exact hy)
theorem map_take {α β : Type} [Inhabited α] {f : α → β} {xs : List α} {k : Nat} {d : α} (hk : k < xs.length) : (xs.take (k + 1)).map f = (xs.take k).map f ++ [f (xs.getD k d)] := by
  rw [List.take_succ_eq_append_getElem hk, List.map_append]; simp [List.getD, hk]
theorem Sub.wz_mono {G G' : GH} {Z : Option Addr} (s : Sub G G') : Sub (Gh.wz G Z) (Gh.wz G' Z) := fun y e h => by
  unfold Gh.wz at h ⊢
  split at h
  · cases h
  · next c => rw [if_neg c]; exact s y e h
def old (hs : Nat → Option Addr × Nat) (xss : List (List Int)) (i : Nat) : Value × List Int := (.slice (hs i).1 (xss.getD i []).length (hs i).2, xss.getD i [])
/-- rows taken from a list, with a new one among them. -/
structure PutI (G G' : GH) (Z : Option Addr) (z : Nat) (hs : Nat → Option Addr × Nat) (xss : List (List Int)) (x : List Int) (E : List (Value × List Int)) : Prop where
  sub : Sub G G'
  off : Off G Z
  own : Own G' Z z (E.map (·.1)) 1 E.length
  ent : ∀ e ∈ E, (∃ i, i < xss.length ∧ e = old hs xss i) ∨ ∃ D d, e = (.slice D x.length d, x) ∧ Off G D ∧ Own (wz G' Z) D d (x.map I64) 1 x.length
theorem PutI.up {G G' G'' : GH} {Z : Option Addr} {z : Nat} {hs : Nat → Option Addr × Nat} {xss : List (List Int)} {x : List Int} {E : List (Value × List Int)} (h : PutI G G' Z z hs xss x E) (s : Sub G' G'') : PutI G G'' Z z hs xss x E :=
  ⟨h.sub.trans s, h.off, h.own.sub s, fun e he => (h.ent e he).imp id fun ⟨D, d, a, b, c⟩ => ⟨D, d, a, b, c.sub (Sub.wz_mono s)⟩⟩
theorem PutI.push {G G' : GH} {Z : Option Addr} {z bs : Nat} {hs : Nat → Option Addr × Nat} {xss : List (List Int)} {x : List Int} {E : List (Value × List Int)} {e : Value × List Int} (h : PutI G G' Z z hs xss x E)
    (hv : (∃ i, i < xss.length ∧ e = old hs xss i) ∨ ∃ D d, e = (.slice D x.length d, x) ∧ Off G D ∧ Own G' D d (x.map I64) 1 x.length ∧ ∀ a b, D = some a → Z = some b → a.block ≠ b.block)
    (hb : G' bs = some ⟨[e.1], true⟩) (hl : E.length < 2 ^ 30) {K : Value → GH → Prop} (hK : ∀ G4 Z' z', PutI G G4 Z' z' hs xss x (E ++ [e]) → K (.slice Z' (E.length + 1) z') G4) :
    gAp 1 24 [.slice none 0 0] (.slice Z E.length z) (.slice (some ⟨bs, 0, none⟩) 1 1) G' K := by
  have h1 : oneB e.1 = true := by
    rcases hv with ⟨i, _, rfl⟩ | ⟨D, d, rfl, _⟩ <;> rfl
  refine ap_own h.own (Own.blk (n := 1) (sz := 1) hb rfl).cells (by rfl) (by intro v hv; simp at hv; subst hv; exact h1) rfl (by omega) (by omega) (by omega) fun G4 Z' z' hO keep => ?_
  obtain ⟨s4, o4⟩ := keep _ (Sub.wz G' Z) (Off.wz G' Z)
  obtain ⟨s0, o0⟩ := keep G h.sub h.off
  have key : ∀ {D : Option Addr} {d sz n : Nat} {cs : List Value}, Own (wz G' Z) D d cs sz n → Own (wz G4 Z') D d cs sz n := fun hw => (hw.sub s4).wz fun a b ha hb q => by
    have h1 := own_ne hw a ha
    have h2 := o4 b hb
    rw [← q] at h2; exact h1 h2
  refine hK G4 Z' z' ⟨s0, o0, hO.cast (by simp) (by simp), fun e' he' => ?_⟩
  rcases List.mem_append.1 he' with he' | he'
  · exact (h.ent e' he').imp id fun ⟨D, d, a, b, c⟩ => ⟨D, d, a, b, key c⟩
  · rw [List.mem_singleton] at he'
    subst he'
    exact hv.imp id fun ⟨D, d, a, b, c, n⟩ => ⟨D, d, a, b, key (c.wz n)⟩
def VB : Value → Option Addr × Nat
  | .slice A _ d => (A, d)
  | _ => (none, 0)
theorem PutI.fin {G G' : GH} {Z Z0 : Option Addr} {z z0 : Nat} {hs : Nat → Option Addr × Nat} {xss : List (List Int)} {x : List Int} {E : List (Value × List Int)} (h : PutI G G' Z z hs xss x E) (ho : OwnR G Z0 z0 hs xss) (ha : Asc (E.map (·.2))) :
    ∃ hs', OwnR G' Z z hs' (E.map (·.2)) ∧ ∀ p, p < E.length → (∃ i, i < xss.length ∧ hs' p = hs i) ∨ Off G (hs' p).1 := by
  have hg : ∀ p, p < E.length → ∃ e, E[p]? = some e ∧ e ∈ E := fun p hp => ⟨E[p], List.getElem?_eq_getElem hp, List.getElem_mem hp⟩
  have hc : ∀ p, p < E.length → ∃ e, E[p]? = some e ∧ (E.map (·.2)).getD p [] = e.2 ∧ VB (E.getD p (.bool false, [])).1 = VB e.1 ∧ ((∃ i, i < xss.length ∧ e = old hs xss i) ∨ ∃ D d, e = (.slice D x.length d, x) ∧ Off G D ∧ Own (wz G' Z) D d (x.map I64) 1 x.length) := fun p hp => by
    obtain ⟨e, he, hm⟩ := hg p hp
    exact ⟨e, he, by rw [List.getD, List.getElem?_map, he]; rfl, by rw [List.getD, he]; rfl, h.ent e hm⟩
  refine ⟨fun p => VB (E.getD p (.bool false, [])).1, ⟨h.own.cast ?_ (by simp), fun p hp => ?_, fun p hp => ?_, fun p q hp hq hpq => ?_⟩, fun p hp => ?_⟩
  · apply List.ext_getElem?
    intro p
    rw [List.length_map, List.getElem?_map, List.getElem?_map]
    by_cases hp : p < E.length
    · obtain ⟨e, h1, h2, h3, h4⟩ := hc p hp
      rw [h1, List.getElem?_range hp, Option.map_some, Option.map_some, h2, h3]
      rcases h4 with ⟨i, _, rfl⟩ | ⟨D, d, rfl, _⟩ <;> rfl
    · rw [List.getElem?_eq_none (by omega), List.getElem?_eq_none (by simpa using hp)]; rfl
  · rw [List.length_map] at hp
    obtain ⟨e, h1, h2, h3, h4⟩ := hc p hp
    rw [h2, h3]
    rcases h4 with ⟨i, hi, rfl⟩ | ⟨D, d, rfl, _, hw⟩
    · exact (ho.row i hi).sub h.sub
    · exact hw.sub (Sub.wz _ _)
  · rw [List.length_map] at hp
    obtain ⟨e, h1, h2, h3, h4⟩ := hc p hp
    rw [h3]
    intro a b hA hB q
    rcases h4 with ⟨i, hi, rfl⟩ | ⟨D, d, rfl, _, hw⟩
    · have k1 := own_ne (ho.row i hi) a hA
      have k2 := h.off b hB
      rw [← q] at k2; exact k1 k2
    · have k1 := own_ne hw a hA
      have k2 := Off.wz G' Z b hB
      rw [← q] at k2; exact k1 k2
  · rw [List.length_map] at hp hq
    obtain ⟨e, h1, h2, h3, h4⟩ := hc p hp
    obtain ⟨f, k1, k2, k3, k4⟩ := hc q hq
    rw [h3, k3]
    have hne : e.2 ≠ f.2 := fun y => by
      have hP := List.pairwise_iff_getElem.1 ha
      have gp : (E.map (·.2)).getD p [] = (E.map (·.2))[p]'(by simpa using hp) := by simp [List.getD, hp]
      have gq : (E.map (·.2)).getD q [] = (E.map (·.2))[q]'(by simpa using hq) := by simp [List.getD, hq]
      rw [← h2, ← k2, gp, gq] at y
      rcases Nat.lt_or_gt_of_ne hpq with k | k
      · have := hP p q (by simpa using hp) (by simpa using hq) k; rw [y, lexC_self] at this; omega
      · have := hP q p (by simpa using hq) (by simpa using hp) k; rw [y, lexC_self] at this; omega
    intro a b hA hB r
    rcases h4 with ⟨i, hi, rfl⟩ | ⟨D, d, rfl, oD, hw⟩ <;> rcases k4 with ⟨j, hj, rfl⟩ | ⟨D', d', rfl, oD', hw'⟩
    · exact ho.inj i j hi hj (fun y => hne (by rw [y])) a b hA hB r
    · have := own_ne (ho.row i hi) a hA
      rw [r, oD' b hB] at this; exact this rfl
    · have := own_ne (ho.row j hj) b hB
      rw [← r, oD a hA] at this; exact this rfl
    · exact hne rfl
  · obtain ⟨e, h1, h2, h3, h4⟩ := hc p hp
    show (∃ i, i < xss.length ∧ VB (E.getD p (.bool false, [])).1 = hs i) ∨ Off G (VB (E.getD p (.bool false, [])).1).1
    rw [h3]
    rcases h4 with ⟨i, hi, rfl⟩ | ⟨D, d, rfl, oD, hw⟩
    · exact .inl ⟨i, hi, rfl⟩
    · exact .inr oD
theorem dropL {xss : List (List Int)} {k : Nat} (h : k < xss.length) : xss.drop k = xss.getD k [] :: xss.drop (k + 1) := by
  rw [List.drop_eq_getElem_cons h]; simp [List.getD, h]
theorem takeL {xss : List (List Int)} {k : Nat} (h : k < xss.length) : xss.take (k + 1) = xss.take k ++ [xss.getD k []] := by
  rw [List.take_succ_eq_append_getElem h]; simp [List.getD, h]
theorem spec_l20Put_ok {G : GH} {Z D : Option Addr} {z e : Nat} {hs : Nat → Option Addr × Nat} {xss : List (List Int)} {x : List Int} (h : OwnR G Z z hs xss) (ha : Asc xss) (hx : IntS G D e x) (hl : xss.length < 2 ^ 20) (hl2 : ∀ i, i < xss.length → (xss.getD i []).length < 2 ^ 30) (hxl : x.length < 2 ^ 30) {K : Value → GH → Prop}
    (hk : ∀ G' Z' z' hs', Sub G G' → OwnR G' Z' z' hs' (ins x xss) → Off G Z' → (∀ p, p < (ins x xss).length → (∃ i, i < xss.length ∧ hs' p = hs i) ∨ Off G (hs' p).1) → K (.slice Z' (ins x xss).length z') G') : GC Try.prog 60 [.slice Z xss.length z, .slice D x.length e] G K := by
  refine c_spec_l20Put_i (by simp) ?_
  have hR := h.rows
  simp (maxSteps := 300000) (disch := omega) only [gs, gs2, gs3, gs4, ↓reduceIte, Nat.reduceEqDiff, Int.reduceToNat, Nat.reduceMul, Nat.reduceAdd, Nat.reduceBEq, isLd, gBs]
  refine ⟨fun v hv => (by cases hv), fun bz hbz => ?_⟩
  refine gLoop_intro (fun m T G' => ∃ (k : Nat) (Zo : Option Addr) (zo : Nat) (E : List (Value × List Int)) (dn : Bool), T 0 = .slice Z xss.length z ∧ T 1 = .slice D x.length e ∧ T 5 = .slice Zo E.length zo ∧ T 6 = .bool dn ∧ T 7 = .int .i64 k ∧ m + k = xss.length ∧ k ≤ xss.length ∧ E.length ≤ k + 1 ∧ PutI G G' Zo zo hs xss x E ∧
      (dn = false → E.map (·.2) = xss.take k ∧ ins x xss = xss.take k ++ ins x (xss.drop k)) ∧ (dn = true → E.map (·.2) ++ xss.drop k = ins x xss)) xss.length
    ⟨0, some ⟨bz, 0, none⟩, 0, [], false, by simp (maxSteps := 300000) (disch := omega) only [gs, gs2, gs3, gs4, ↓reduceIte, Nat.reduceEqDiff, Int.reduceToNat, Nat.reduceMul, Nat.reduceAdd, Nat.reduceBEq, isLd], by simp (maxSteps := 300000) (disch := omega) only [gs, gs2, gs3, gs4, ↓reduceIte, Nat.reduceEqDiff, Int.reduceToNat, Nat.reduceMul, Nat.reduceAdd, Nat.reduceBEq, isLd], by simp (maxSteps := 300000) (disch := omega) only [gs, gs2, gs3, gs4, ↓reduceIte, Nat.reduceEqDiff, Int.reduceToNat, Nat.reduceMul, Nat.reduceAdd, Nat.reduceBEq, isLd] <;> rfl, by simp (maxSteps := 300000) (disch := omega) only [gs, gs2, gs3, gs4, ↓reduceIte, Nat.reduceEqDiff, Int.reduceToNat, Nat.reduceMul, Nat.reduceAdd, Nat.reduceBEq, isLd], by simp (maxSteps := 300000) (disch := omega) only [gs, gs2, gs3, gs4, ↓reduceIte, Nat.reduceEqDiff, Int.reduceToNat, Nat.reduceMul, Nat.reduceAdd, Nat.reduceBEq, isLd] <;> rfl, by omega, by omega, by simp, ⟨Sub.put hbz _, fun a ha => by cases ha; exact hbz, Own.blk (put_same _ _ _) rfl, fun e he => by cases he⟩, fun _ => by simp, fun y => by cases y⟩ ?_
  rintro m T G' ⟨k, Zo, zo, E, dn, t0, t1, t5, t6, t7, hm, hkl, hEl, hP, hF, hT⟩
  simp (maxSteps := 300000) (disch := omega) only [gs, gs2, gs3, gs4, ↓reduceIte, Nat.reduceEqDiff, Int.reduceToNat, Nat.reduceMul, Nat.reduceAdd, Nat.reduceBEq, isLd, t0, t1, t5, t6, t7]
  have hsn := hR.sn
  by_cases hkk : (k : Int) < xss.length
  · have rk : ∀ {G' : GH}, Sub G G' → rd G' (pa Z k) = some (.slice (hs k).1 (xss.getD k []).length (hs k).2) := fun s => rd_sub s (hR.r k (by omega))
    have hsk := hsn (by omega)
    have hd := dropL (show k < xss.length by omega)
    have ht := takeL (show k < xss.length by omega)
    simp (maxSteps := 300000) (disch := omega) only [gs, gs2, gs3, gs4, ↓reduceIte, Nat.reduceEqDiff, Int.reduceToNat, Nat.reduceMul, Nat.reduceAdd, Nat.reduceBEq, isLd, t0, t1, t5, t6, t7, hkk, rk hP.sub]
    refine spec_l00Same_ok ((hR.row k (by omega)).sub hP.sub) (hx.sub hP.sub) (by have := hl2 k (by omega); omega) ?_
    by_cases hq : xss.getD k [] = x
    · have hqT : (xss.getD k [] = x) = True := eq_true hq
      simp (maxSteps := 300000) (disch := omega) only [gs, gs2, gs3, gs4, ↓reduceIte, Nat.reduceEqDiff, Int.reduceToNat, Nat.reduceMul, Nat.reduceAdd, Nat.reduceBEq, isLd, t0, t1, t5, t6, t7, hkk, rk hP.sub, hqT, gBs]
      refine ⟨fun v hv => (by simp at hv; subst hv; rfl), fun bs hbs => ?_⟩
      refine PutI.push (e := old hs xss k) (hP.up (Sub.put hbs _)) (.inl ⟨k, by omega, rfl⟩) (put_same _ _ _) (by omega) fun G4 Z4 z4 hP4 => ?_
      simp (maxSteps := 300000) (disch := omega) only [gs, gs2, gs3, gs4, ↓reduceIte, Nat.reduceEqDiff, Int.reduceToNat, Nat.reduceMul, Nat.reduceAdd, Nat.reduceBEq, isLd, t0, t1, t5, t6, t7]
      refine ⟨m - 1, by omega, G4, Sub.refl _, k + 1, Z4, z4, E ++ [old hs xss k], true, by simp, rfl, rfl, by omega, by omega, by simp; omega, hP4, fun y => (by cases y), fun _ => ?_⟩
      rw [List.map_append]
      show E.map (·.2) ++ [xss.getD k []] ++ _ = _
      rw [List.append_assoc, List.singleton_append, ← hd]
      cases dn
      · obtain ⟨hF1, hF2⟩ := hF rfl
        rw [hF1, hF2, hd, hq, ins, if_pos (lexC_self x)]
      · exact hT rfl
    · have hqF : (xss.getD k [] = x) = False := eq_false hq
      cases dn
      · obtain ⟨hF1, hF2⟩ := hF rfl
        simp (maxSteps := 300000) (disch := omega) only [gs, gs2, gs3, gs4, ↓reduceIte, Nat.reduceEqDiff, Int.reduceToNat, Nat.reduceMul, Nat.reduceAdd, Nat.reduceBEq, isLd, t0, t1, t5, t6, t7, hkk, rk hP.sub, hqF, gBs]
        refine spec_l16Before_ok (hx.sub hP.sub) ((hR.row k (by omega)).sub hP.sub) (by omega) (by have := hl2 k (by omega); omega) fun w hw => ?_
        cases w
        · simp (maxSteps := 300000) (disch := omega) only [gs, gs2, gs3, gs4, ↓reduceIte, Nat.reduceEqDiff, Int.reduceToNat, Nat.reduceMul, Nat.reduceAdd, Nat.reduceBEq, isLd, t0, t1, t5, t6, t7, hkk, rk hP.sub, gBs]
          refine ⟨fun v hv => (by simp at hv; subst hv; rfl), fun bs hbs => ?_⟩
          refine PutI.push (e := old hs xss k) (hP.up (Sub.put hbs _)) (.inl ⟨k, by omega, rfl⟩) (put_same _ _ _) (by omega) fun G4 Z4 z4 hP4 => ?_
          simp (maxSteps := 300000) (disch := omega) only [gs, gs2, gs3, gs4, ↓reduceIte, Nat.reduceEqDiff, Int.reduceToNat, Nat.reduceMul, Nat.reduceAdd, Nat.reduceBEq, isLd, t0, t1, t5, t6, t7]
          refine ⟨m - 1, by omega, G4, Sub.refl _, k + 1, Z4, z4, E ++ [old hs xss k], false, by simp, rfl, rfl, by omega, by omega, by simp; omega, hP4, fun _ => ⟨?_, ?_⟩, fun y => (by cases y)⟩
          · rw [List.map_append, hF1, ht]; rfl
          · have hn : ¬ lexC x (xss.getD k []) < 0 := fun y => by have := hw.2 y; cases this
            have hz : ¬ lexC x (xss.getD k []) = 0 := fun y => hq (lexC_zero.1 y).symm
            rw [hF2, hd, ins, if_neg hz, if_neg hn, ht, List.append_assoc]; rfl
        · have hlt := hw.1 rfl
          simp (maxSteps := 300000) (disch := omega) only [gs, gs2, gs3, gs4, ↓reduceIte, Nat.reduceEqDiff, Int.reduceToNat, Nat.reduceMul, Nat.reduceAdd, Nat.reduceBEq, isLd, t0, t1, t5, t6, t7, hkk, rk hP.sub]
          refine spec_l00Own_ok (hx.sub hP.sub) hxl fun G5 D5 d5 hN => ?_
          have hDo : ∀ x, D5 = some x → G' x.block = none := hN.off
          simp (maxSteps := 300000) (disch := omega) only [gs, gs2, gs3, gs4, ↓reduceIte, Nat.reduceEqDiff, Int.reduceToNat, Nat.reduceMul, Nat.reduceAdd, Nat.reduceBEq, isLd, t0, t1, t5, t6, t7, gBs]
          refine ⟨fun v hv => (by simp at hv; subst hv; rfl), fun bs hbs => ?_⟩
          have s9 := Sub.put hbs ⟨[.slice D5 x.length d5], true⟩
          refine PutI.push (e := (.slice D5 x.length d5, x)) (hP.up (hN.sub.trans s9)) (.inr ⟨D5, d5, rfl, hN.off.mono hP.sub, hN.fresh.sub s9, fun a b ha hb q => ?_⟩) (put_same _ _ _) (by omega) fun G4 Z4 z4 hP4 => ?_
          · have := own_ne hP.own b hb
            rw [← q, hDo a ha] at this; exact this rfl
          simp (maxSteps := 300000) (disch := omega) only [gs, gs2, gs3, gs4, ↓reduceIte, Nat.reduceEqDiff, Int.reduceToNat, Nat.reduceMul, Nat.reduceAdd, Nat.reduceBEq, isLd, t0, t1, t5, t6, t7, rk hP4.sub, gBs]
          refine ⟨fun v hv => (by simp at hv; subst hv; rfl), fun bs hbs => ?_⟩
          rw [show E.length + 1 = (E ++ [(Value.slice D5 x.length d5, x)]).length by simp]
          refine PutI.push (e := old hs xss k) (hP4.up (Sub.put hbs _)) (.inl ⟨k, by omega, rfl⟩) (put_same _ _ _) (by simp; omega) fun G6 Z6 z6 hP6 => ?_
          simp (maxSteps := 300000) (disch := omega) only [gs, gs2, gs3, gs4, ↓reduceIte, Nat.reduceEqDiff, Int.reduceToNat, Nat.reduceMul, Nat.reduceAdd, Nat.reduceBEq, isLd, t0, t1, t5, t6, t7]
          refine ⟨m - 1, by omega, G6, Sub.refl _, k + 1, Z6, z6, (E ++ [(Value.slice D5 x.length d5, x)]) ++ [old hs xss k], true, by simp, rfl, rfl, by omega, by omega, ?_, hP6, fun y => (by cases y), fun _ => ?_⟩
          · have : E.length = k := by rw [← List.length_map (f := (·.2)), hF1, List.length_take]; omega
            simp; omega
          · have hz : ¬ lexC x (xss.getD k []) = 0 := fun y => hq (lexC_zero.1 y).symm
            rw [List.map_append, List.map_append, hF1, hF2, hd, ins, if_neg hz, if_pos hlt]
            simp [old]
      · simp (maxSteps := 300000) (disch := omega) only [gs, gs2, gs3, gs4, ↓reduceIte, Nat.reduceEqDiff, Int.reduceToNat, Nat.reduceMul, Nat.reduceAdd, Nat.reduceBEq, isLd, t0, t1, t5, t6, t7, hkk, rk hP.sub, hqF, gBs]
        refine ⟨fun v hv => (by simp at hv; subst hv; rfl), fun bs hbs => ?_⟩
        refine PutI.push (e := old hs xss k) (hP.up (Sub.put hbs _)) (.inl ⟨k, by omega, rfl⟩) (put_same _ _ _) (by omega) fun G4 Z4 z4 hP4 => ?_
        simp (maxSteps := 300000) (disch := omega) only [gs, gs2, gs3, gs4, ↓reduceIte, Nat.reduceEqDiff, Int.reduceToNat, Nat.reduceMul, Nat.reduceAdd, Nat.reduceBEq, isLd, t0, t1, t5, t6, t7]
        refine ⟨m - 1, by omega, G4, Sub.refl _, k + 1, Z4, z4, E ++ [old hs xss k], true, by simp, rfl, rfl, by omega, by omega, by simp; omega, hP4, fun y => (by cases y), fun _ => ?_⟩
        rw [List.map_append]
        show E.map (·.2) ++ [xss.getD k []] ++ _ = _
        rw [List.append_assoc, List.singleton_append, ← hd]
        exact hT rfl
  · obtain rfl : k = xss.length := by omega
    rw [List.take_length, List.drop_length] at hF
    rw [List.drop_length, List.append_nil] at hT
    cases dn
    · obtain ⟨hF1, hF2⟩ := hF rfl
      simp (maxSteps := 300000) (disch := omega) only [gs, gs2, gs3, gs4, ↓reduceIte, Nat.reduceEqDiff, Int.reduceToNat, Nat.reduceMul, Nat.reduceAdd, Nat.reduceBEq, isLd, t0, t1, t5, t6, t7, hkk]
      refine spec_l00Own_ok (hx.sub hP.sub) hxl fun G5 D5 d5 hN => ?_
      have hDo : ∀ x, D5 = some x → G' x.block = none := hN.off
      simp (maxSteps := 300000) (disch := omega) only [gs, gs2, gs3, gs4, ↓reduceIte, Nat.reduceEqDiff, Int.reduceToNat, Nat.reduceMul, Nat.reduceAdd, Nat.reduceBEq, isLd, t0, t1, t5, t6, t7, gBs]
      refine ⟨fun v hv => (by simp at hv; subst hv; rfl), fun bs hbs => ?_⟩
      have s9 := Sub.put hbs ⟨[.slice D5 x.length d5], true⟩
      refine PutI.push (e := (.slice D5 x.length d5, x)) (hP.up (hN.sub.trans s9)) (.inr ⟨D5, d5, rfl, hN.off.mono hP.sub, hN.fresh.sub s9, fun a b ha hb q => ?_⟩) (put_same _ _ _) (by omega) fun G4 Z4 z4 hP4 => ?_
      · have := own_ne hP.own b hb
        rw [← q, hDo a ha] at this; exact this rfl
      simp (maxSteps := 300000) (disch := omega) only [gs, gs2, gs3, gs4, ↓reduceIte, Nat.reduceEqDiff, Int.reduceToNat, Nat.reduceMul, Nat.reduceAdd, Nat.reduceBEq, isLd, t0, t1, t5, t6, t7]
      have hE : (E ++ [(Value.slice D5 x.length d5, x)]).map (·.2) = ins x xss := by
        rw [List.map_append, hF1, hF2]; rfl
      obtain ⟨hs', ho', hh⟩ := hP4.fin h (by rw [hE]; exact asc_ins ha)
      have hlen : (E ++ [(Value.slice D5 x.length d5, x)]).length = (ins x xss).length := by rw [← hE, List.length_map]
      rw [hE] at ho'
      rw [show E.length + 1 = (ins x xss).length by rw [← hlen]; simp]
      exact hk G4 Z4 z4 hs' hP4.sub ho' hP4.off fun p hp => hh p (by omega)
    · have hT := hT rfl
      simp (maxSteps := 300000) (disch := omega) only [gs, gs2, gs3, gs4, ↓reduceIte, Nat.reduceEqDiff, Int.reduceToNat, Nat.reduceMul, Nat.reduceAdd, Nat.reduceBEq, isLd, t0, t1, t5, t6, t7, hkk]
      obtain ⟨hs', ho', hh⟩ := hP.fin h (by rw [hT]; exact asc_ins ha)
      have hlen : E.length = (ins x xss).length := by rw [← hT, List.length_map]
      rw [hT] at ho'
      rw [hlen]
      exact hk G' Zo zo hs' hP.sub ho' hP.off fun p hp => hh p (by omega)
theorem getD_memL {α : Type} {l : List α} {i : Nat} {d : α} (h : i < l.length) : l.getD i d ∈ l := by simp [List.getD, h]
theorem SemG.repl {H G G' : GH} {b5 n c1 z z' : Nat} {A1 Z Z' : Option Addr} {hs hs' : Nat → Option Addr × Nat} {xss yss : List (List Int)} (h : SemG H G b5 A1 n c1 Z z hs xss) (s : Sub G G') (ho : OwnR G' Z' z' hs' yss) (oZ : Off G Z')
    (oR : ∀ i, i < yss.length → (∃ j, j < xss.length ∧ hs' i = hs j) ∨ Off G (hs' i).1) {K : Value → GH → Prop} (hK : ∀ G5, SemG H G5 b5 A1 n c1 Z' z' hs' yss → K undef G5) : gSt 1 (.pointer (some ⟨b5, 1, none⟩)) (.slice Z' yss.length z') G' K := by
  have s5 := h.sub.trans s
  have hbox : G' b5 = some ⟨[.slice A1 n c1, .slice Z xss.length z], true⟩ := s5 _ _ (put_same _ _ _)
  have oZ' : Off (put H b5 ⟨[], true⟩) Z' := (oZ.mono h.sub).pute
  have oR' : ∀ i, i < yss.length → Off (put H b5 ⟨[], true⟩) (hs' i).1 := fun i hi => by
    rcases oR i hi with ⟨j, hj', e⟩ | o
    · rw [e]; exact h.oR j hj'
    · exact (o.mono h.sub).pute
  refine st_one hbox (by simp) rfl (hK _ ⟨h.nb, fun y f hy => ?_, ho.oth (Oth.put _ _ _) (oZ'.ne) fun i hi a ha => (oR' i hi).ne a ha, oZ', oR'⟩)
  by_cases c : y = b5
  · subst c
    rw [put_same] at hy ⊢
    rw [← hy]; rfl
  · rw [put_ne _ _ c] at hy ⊢
    exact s5 _ _ (by rw [put_ne _ _ c]; exact hy)
theorem tsm_of {N : Tab} (hc : N.cols.length ≤ 2 ^ 10) (hr : N.rows.length ≤ 2 ^ 10) (hl : ∀ x ∈ N.rows, x.length ≤ 2 ^ 10) : TSm N := by
  have h1 : ∀ i, i < N.rows.length → (N.rows.getD i []).length ≤ 2 ^ 10 := fun i hi => hl _ (by simp [List.getD, hi])
  have := pre_bd h1 _ (Nat.le_refl _)
  have : 2 ^ 10 * N.rows.length ≤ 2 ^ 10 * 2 ^ 10 := Nat.mul_le_mul_left _ hr
  exact ⟨by omega, ⟨by omega, fun i hi => by have := h1 i hi; omega⟩, by omega⟩
def sri_lay_ren : Go.Shelf.Ren := ⟨fun | 53 => 83 | 64 => 100 | 63 => 99 | 78 => 116 | 79 => 117 | 70 => 107 | 71 => 108 | 72 => 109 | 73 => 110 | 74 => 111 | 75 => 112 | 59 => 113 | 76 => 114 | 77 => 115 | 88 => 126 | 89 => 127 | 90 => 128 | 91 => 129 | 92 => 130 | 68 => 103 | 96 => 134 | n => n, fun | 22 => 31 | 23 => 2 | 3 => 3 | 51 => 99 | 0 => 0 | 67 => 112 | 69 => 114 | 4 => 4 | 61 => 105 | 60 => 104 | 44 => 109 | 5 => 5 | 9 => 9 | 75 => 120 | 79 => 124 | 83 => 128 | 84 => 129 | n => n, fun n => n⟩
theorem sri_lay : Go.Proofs.SlLaysN.n53 Try.prog sri_lay_ren := {
  mixed := by kernel_rfl
  f53 := ⟨Try.f83.name, by decide, Try.func83.trans (congrArg some (by kernel_rfl))⟩
  f59 := ⟨Try.f113.name, by decide, Try.func113.trans (congrArg some (by kernel_rfl))⟩
  f63 := ⟨Try.f99.name, by decide, Try.func99.trans (congrArg some (by kernel_rfl))⟩
  f64 := Try.func100.trans (congrArg some (by kernel_rfl))
  f68 := ⟨Try.f103.name, by decide, Try.func103.trans (congrArg some (by kernel_rfl))⟩
  f70 := ⟨Try.f107.name, by decide, Try.func107.trans (congrArg some (by kernel_rfl))⟩
  f71 := ⟨Try.f108.name, by decide, Try.func108.trans (congrArg some (by kernel_rfl))⟩
  f72 := ⟨Try.f109.name, by decide, Try.func109.trans (congrArg some (by kernel_rfl))⟩
  f73 := ⟨Try.f110.name, by decide, Try.func110.trans (congrArg some (by kernel_rfl))⟩
  f74 := ⟨Try.f111.name, by decide, Try.func111.trans (congrArg some (by kernel_rfl))⟩
  f75 := ⟨Try.f112.name, by decide, Try.func112.trans (congrArg some (by kernel_rfl))⟩
  f76 := ⟨Try.f114.name, by decide, Try.func114.trans (congrArg some (by kernel_rfl))⟩
  f77 := ⟨Try.f115.name, by decide, Try.func115.trans (congrArg some (by kernel_rfl))⟩
  f78 := Try.func116.trans (congrArg some (by kernel_rfl))
  f79 := Try.func117.trans (congrArg some (by kernel_rfl))
  f88 := ⟨Try.f126.name, by decide, Try.func126.trans (congrArg some (by kernel_rfl))⟩
  f89 := Try.func127.trans (congrArg some (by kernel_rfl))
  f90 := Try.func128.trans (congrArg some (by kernel_rfl))
  f91 := ⟨Try.f129.name, by decide, Try.func129.trans (congrArg some (by kernel_rfl))⟩
  f92 := ⟨Try.f130.name, by decide, Try.func130.trans (congrArg some (by kernel_rfl))⟩
  f96 := ⟨Try.f134.name, by decide, Try.func134.trans (congrArg some (by kernel_rfl))⟩
  t0 := Try.underlying0
  a0 := Try.isAgg0
  z0 := Try.sizeOf0
  v0 := Try.zeroValue0
  t3 := Try.underlying3
  a3 := Try.isAgg3
  z3 := Try.sizeOf3
  v3 := Try.zeroValue3
  t4 := Try.underlying4
  a4 := Try.isAgg4
  z4 := Try.sizeOf4
  v4 := Try.zeroValue4
  t5 := Try.underlying5
  a5 := Try.isAgg5
  z5 := Try.sizeOf5
  v5 := Try.zeroValue5
  t9 := Try.underlying9
  a9 := Try.isAgg9
  z9 := Try.sizeOf9
  v9 := Try.zeroValue9
  t22 := Try.underlying31
  a22 := Try.isAgg31
  z22 := Try.sizeOf31
  v22 := Try.zeroValue31
  t23 := Try.underlying2
  a23 := Try.isAgg2
  z23 := Try.sizeOf2
  v23 := Try.zeroValue2
  t44 := Try.underlying109
  a44 := Try.isAgg109
  z44 := Try.sizeOf109
  v44 := Try.zeroValue109
  t51 := Try.underlying99
  a51 := Try.isAgg99
  z51 := Try.sizeOf99
  v51 := Try.zeroValue99
  t60 := Try.underlying104
  a60 := Try.isAgg104
  z60 := Try.sizeOf104
  v60 := Try.zeroValue104
  t61 := Try.underlying105
  a61 := Try.isAgg105
  z61 := Try.sizeOf105
  v61 := Try.zeroValue105
  t67 := Try.underlying112
  a67 := Try.isAgg112
  z67 := Try.sizeOf112
  v67 := Try.zeroValue112
  t69 := Try.underlying114
  a69 := Try.isAgg114
  z69 := Try.sizeOf114
  v69 := Try.zeroValue114
  t75 := Try.underlying120
  a75 := Try.isAgg120
  z75 := Try.sizeOf120
  v75 := Try.zeroValue120
  t79 := Try.underlying124
  a79 := Try.isAgg124
  z79 := Try.sizeOf124
  v79 := Try.zeroValue124
  t83 := Try.underlying128
  a83 := Try.isAgg128
  z83 := Try.sizeOf128
  v83 := Try.zeroValue128
  t84 := Try.underlying129
  a84 := Try.isAgg129
  z84 := Try.sizeOf129
  v84 := Try.zeroValue129 }
theorem sorti_enter : Enterable Try.prog 83 := by
  obtain ⟨nm, hn, hf⟩ := sri_lay.f53
  exact ⟨_, hf, hn, rfl⟩
theorem Sort_int_none_ok {G : GH} {p : Option Addr} {c : Nat} {K : Value → GH → Prop} (hk : K (.tuple #[]) G) : GC Try.prog 83 [.slice p 0 c] G K := by
  refine ⟨sorti_enter, fun W w hw => ?_⟩
  have h := AnyG.slices_Sort_int_none (P := Try.prog) (ρ := sri_lay_ren) sri_lay p c w
  refine Calls.mono h ?_
  rintro e w' ⟨rfl, rfl⟩
  exact ⟨_, G, rfl, hk, hw⟩
theorem Sort_int_some_ok {G : GH} {b c : Nat} {xs : List Int} {r : List Value} (h0 : 0 < xs.length) (hb : G b = some ⟨xs.map I64 ++ r, true⟩) (hn : xs.length < 2 ^ 40) {K : Value → GH → Prop}
    (hk : K (.tuple #[]) (put G b ⟨(xs.mergeSort fun x y => decide (x ≤ y)).map I64 ++ r, true⟩)) : GC Try.prog 83 [.slice (some ⟨b, 0, none⟩) xs.length c] G K := by
  refine ⟨sorti_enter, fun W w hw => ?_⟩
  obtain ⟨el, fz, hheap, hrw⟩ := hw.ent b _ hb
  obtain ⟨hWb, hfr⟩ := hrw rfl
  have hbs := heap_lt hheap
  have hH : Go.Sort.Holds (Value.int .i64) w b 0 xs.toArray := fun j hj => by
    have hj : j < xs.length := by simpa using hj
    constructor
    · simp only [World.cell?, hheap, Nat.zero_add, Option.isSome_none, Bool.false_eq_true, if_false]
      simp [List.getElem?_append_left, hj, I64]
    · simp only [World.frozen?, hheap, Nat.zero_add]
      have := hfr j (by simp; omega)
      simp only [Bool.and_eq_false_iff, decide_eq_false_iff_not]
      omega
  have main := AnyG.slices_Sort_int (P := Try.prog) (ρ := sri_lay_ren) sri_lay b 0 c xs w hH hbs (by omega)
  refine Calls.mono main ?_
  rintro e w' ⟨rfl, n, os, rfl⟩
  have hln : (xs.mergeSort fun x y => decide (x ≤ y)).length = xs.length := List.length_mergeSort _
  show ∃ v G', _ = _ ∧ K v G' ∧ Holds W (sortWorld (Value.int .i64) w b 0 n (xs.mergeSort fun x y => decide (x ≤ y)).toArray os) G'
  refine ⟨_, _, rfl, hk, ⟨⟨hw.below.os, hw.below.tape, hw.below.output, Nat.le_trans hw.below.size (sw_size _ _ _ _ _ _ _), fun k hk' => ?_⟩, fun x e he => ?_, Nat.le_trans hw.drawn (Nat.le_add_right _ _)⟩⟩
  · rw [sw_heap _ _ _ _ _ _ _ (Nat.lt_of_lt_of_le hk' hw.below.size), if_neg (by omega)]
    exact hw.below.block k hk'
  · unfold put at he
    split at he
    · next q =>
      subst q
      obtain rfl := Option.some.inj he
      refine ⟨el, fz, ?_, fun _ => ⟨hWb, fun i hi => hfr i (by simpa [hln] using hi)⟩⟩
      rw [sw_heap _ _ _ _ _ _ _ hbs, if_pos rfl, hheap]
      show some (Obj.cells (Go.Sort.putCells (Value.int .i64) 0 (xs.mergeSort fun x y => decide (x ≤ y)).toArray (xs.map I64 ++ r).toArray) el fz) = _
      rw [putCells_all _ _ _ _ (by simp)]
      rfl
    · next q =>
      obtain ⟨el', fz', hh, hr⟩ := hw.ent x e he
      exact ⟨el', fz', by rw [sw_heap _ _ _ _ _ _ _ (heap_lt hh), if_neg fun r => q r.symm]; exact hh, hr⟩
theorem rise_pw {xs : List Int} : Rise xs ↔ xs.Pairwise (· < ·) := by
  constructor
  · intro h
    rw [List.pairwise_iff_getElem]
    intro i j hi hj hij
    have key : ∀ d, i + d + 1 < xs.length → xs.getD i 0 < xs.getD (i + d + 1) 0 := by
      intro d
      induction d with
      | zero => intro hd; exact h i hd
      | succ d ih => intro hd; exact Int.lt_trans (ih (by omega)) (h (i + d + 1) (by omega))
    have := key (j - i - 1) (by omega)
    rw [show i + (j - i - 1) + 1 = j by omega] at this
    simpa [List.getD, hi, hj] using this
  · intro h i hi
    have := List.pairwise_iff_getElem.1 h i (i + 1) (by omega) hi (by omega)
    simpa [List.getD, hi, show i < xs.length by omega] using this
theorem rise_unique : ∀ {xs ys : List Int}, xs.Pairwise (· < ·) → ys.Pairwise (· < ·) → (∀ z, z ∈ xs ↔ z ∈ ys) → xs = ys
  | [], [], _, _, _ => rfl
  | [], y :: ys, _, _, h => absurd ((h y).2 (by simp)) (by simp)
  | x :: xs, [], _, _, h => absurd ((h x).1 (by simp)) (by simp)
  | x :: xs, y :: ys, hx, hy, h => by
    obtain ⟨hx1, hx2⟩ := List.pairwise_cons.1 hx
    obtain ⟨hy1, hy2⟩ := List.pairwise_cons.1 hy
    have e : x = y := by
      rcases List.mem_cons.1 ((h x).1 (by simp)) with e | e
      · exact e
      · rcases List.mem_cons.1 ((h y).2 (by simp)) with e' | e'
        · exact e'.symm
        · have := hy1 x e; have := hx1 y e'; omega
    subst e
    rw [rise_unique hx2 hy2 fun z => ?_]
    constructor
    · intro hz
      rcases List.mem_cons.1 ((h z).1 (List.mem_cons_of_mem _ hz)) with e | e
      · have := hx1 z hz; omega
      · exact e
    · intro hz
      rcases List.mem_cons.1 ((h z).2 (List.mem_cons_of_mem _ hz)) with e | e
      · have := hy1 z hz; omega
      · exact e
/-- a number put into a rising list. -/
def insI (n : Int) : List Int → List Int
  | [] => [n]
  | x :: xs => if n ≤ x then (if n < x then n :: x :: xs else x :: xs) else x :: insI n xs
theorem insI_mem {n z : Int} : ∀ {xs : List Int}, z ∈ insI n xs ↔ z = n ∨ z ∈ xs
  | [] => by simp [insI]
  | x :: xs => by
    rw [insI]
    split
    · split
      · simp
      · have : n = x := by omega
        subst this; simp
    · rw [List.mem_cons, insI_mem, List.mem_cons]
      constructor
      · rintro (h | h | h)
        · exact .inr (.inl h)
        · exact .inl h
        · exact .inr (.inr h)
      · rintro (h | h | h)
        · exact .inr (.inl h)
        · exact .inl h
        · exact .inr (.inr h)
theorem insI_pw {n : Int} : ∀ {xs : List Int}, xs.Pairwise (· < ·) → (insI n xs).Pairwise (· < ·)
  | [], _ => by simp [insI]
  | x :: xs, h => by
    obtain ⟨h1, h2⟩ := List.pairwise_cons.1 h
    rw [insI]
    split
    · split
      · refine List.pairwise_cons.2 ⟨fun z hz => ?_, h⟩
        rcases List.mem_cons.1 hz with rfl | hz
        · omega
        · have := h1 z hz; omega
      · exact h
    · refine List.pairwise_cons.2 ⟨fun z hz => ?_, insI_pw h2⟩
      rw [insI_mem] at hz
      rcases hz with rfl | hz
      · omega
      · exact h1 z hz
theorem insI_len (n : Int) : ∀ xs : List Int, (insI n xs).length ≤ xs.length + 1
  | [] => by simp [insI]
  | x :: xs => by
    have := insI_len n xs
    rw [insI]
    split
    · split <;> simp
    · simp; omega
def uniL (a b : List Int) : List Int := b.foldl (fun l n => insI n l) a
theorem uniL_snoc (a b : List Int) (n : Int) : uniL a (b ++ [n]) = insI n (uniL a b) := by simp [uniL, List.foldl_append]
theorem uniL_spec : ∀ (b : List Int) {a : List Int}, a.Pairwise (· < ·) → (uniL a b).Pairwise (· < ·) ∧ (∀ z, z ∈ uniL a b ↔ z ∈ a ∨ z ∈ b) ∧ (uniL a b).length ≤ a.length + b.length
  | [], a, h => ⟨h, by simp [uniL], by simp [uniL]⟩
  | n :: b, a, h => by
    obtain ⟨h1, h2, h3⟩ := uniL_spec b (insI_pw (n := n) h)
    refine ⟨h1, fun z => ?_, ?_⟩
    · show z ∈ uniL (insI n a) b ↔ _
      rw [h2, insI_mem, List.mem_cons]
      constructor
      · rintro ((h | h) | h)
        · exact .inr (.inl h)
        · exact .inl h
        · exact .inr (.inr h)
      · rintro (h | h | h)
        · exact .inl (.inr h)
        · exact .inl (.inl h)
        · exact .inr h
    · have := insI_len n a
      show (uniL (insI n a) b).length ≤ _
      simp; omega
/-- numbers of which each equals not the one ahead. -/
def ddpI : Int → List Int → List Int
  | _, [] => []
  | p, x :: xs => if x = p then ddpI x xs else x :: ddpI x xs
def ddI : List Int → List Int
  | [] => []
  | x :: xs => x :: ddpI x xs
def encI (v : Int) : Value × List Int := (I64 v, [v])
theorem ddpE_enc : ∀ (p : Int) (xs : List Int), ddpE [p] (xs.map encI) = (ddpI p xs).map encI
  | _, [] => rfl
  | p, x :: xs => by
    rw [List.map_cons, ddpE, ddpI]
    have e : ((encI x).2 = [p]) ↔ x = p := by simp [encI]
    by_cases h : x = p
    · rw [if_pos (e.2 h), if_pos h]; exact ddpE_enc x xs
    · rw [if_neg fun y => h (e.1 y), if_neg h, List.map_cons]
      congr 1
      exact ddpE_enc x xs
theorem ddE_enc (xs : List Int) : ddE (xs.map encI) = (ddI xs).map encI := by
  cases xs with
  | nil => rfl
  | cons x xs => rw [List.map_cons, ddE, ddI, List.map_cons]; congr 1; exact ddpE_enc x xs
theorem ddpI_spec : ∀ {p : Int} {xs : List Int}, (p :: xs).Pairwise (· ≤ ·) → (p :: ddpI p xs).Pairwise (· < ·) ∧ ∀ z, z ∈ p :: ddpI p xs ↔ z ∈ p :: xs
  | p, [], _ => by simp [ddpI]
  | p, x :: xs, h => by
    obtain ⟨h1, h2⟩ := List.pairwise_cons.1 h
    obtain ⟨k1, k2⟩ := ddpI_spec h2
    rw [ddpI]
    by_cases e : x = p
    · subst e
      rw [if_pos rfl]
      refine ⟨k1, fun z => ?_⟩
      rw [k2]; simp
    · rw [if_neg e]
      have hx := h1 x (by simp)
      refine ⟨List.pairwise_cons.2 ⟨fun z hz => ?_, k1⟩, fun z => ?_⟩
      · have hz' := (k2 z).1 hz
        rcases List.mem_cons.1 hz' with rfl | hz'
        · omega
        · have := (List.pairwise_cons.1 h2).1 z hz'; omega
      · rw [List.mem_cons, k2]; simp
theorem ddI_spec {xs : List Int} (h : xs.Pairwise (· ≤ ·)) : (ddI xs).Pairwise (· < ·) ∧ ∀ z, z ∈ ddI xs ↔ z ∈ xs := by
  cases xs with
  | nil => simp [ddI]
  | cons x xs => exact ddpI_spec h
theorem ddI_len (xs : List Int) : (ddI xs).length ≤ xs.length := by
  have := ddE_len (xs.map encI)
  rw [ddE_enc, List.length_map, List.length_map] at this
  exact this
/-- numbers in order, each once. -/
def ord (xs : List Int) : List Int := ddI (xs.mergeSort fun x y => decide (x ≤ y))
theorem ord_spec (xs : List Int) : (ord xs).Pairwise (· < ·) ∧ ∀ z, z ∈ ord xs ↔ z ∈ xs := by
  have h := List.pairwise_mergeSort (le := fun x y : Int => decide (x ≤ y)) (by intro a b c; simp; omega) (by intro a b; simp; omega) xs
  have h' : (xs.mergeSort fun x y => decide (x ≤ y)).Pairwise (· ≤ ·) := h.imp (by intro a b; simp)
  obtain ⟨h1, h2⟩ := ddI_spec h'
  exact ⟨h1, fun z => by rw [ord, h2, List.mem_mergeSort]⟩
theorem ord_uni {a b : List Int} (h : Rise a) : ord (a ++ b) = uniL a b := by
  obtain ⟨h1, h2⟩ := ord_spec (a ++ b)
  obtain ⟨k1, k2, _⟩ := uniL_spec b (rise_pw.1 h)
  exact rise_unique h1 k1 fun z => by rw [h2, k2, List.mem_append]
theorem ord_len (xs : List Int) : (ord xs).length ≤ xs.length := by
  have := ddI_len (xs.mergeSort fun x y => decide (x ≤ y))
  rw [List.length_mergeSort] at this
  exact this
theorem enc_get {xs : List Int} {i : Nat} {e0 : Value × List Int} (hi : i < xs.length) : (xs.map encI).getD i e0 = encI (xs.getD i 0) := by simp [List.getD, hi]
theorem enc_map (xs : List Int) : (xs.map encI).map (·.1) = xs.map I64 := by simp [encI, Function.comp_def]
theorem encI_eq {a b : Int} : ((encI a).2 = (encI b).2) ↔ a = b := by simp [encI]
theorem Compact_some_ok {H G : GH} {b c : Nat} {xs : List Int} {r : List Value} (hb : G b = some ⟨xs.map I64 ++ r, true⟩) (hs : Sub H G) (hHb : H b = none) (hl : xs.length < 2 ^ 30) (hc : xs.length + r.length = c) {K : Value → GH → Prop}
    (hk : ∀ G' r', Sub H G' → G' b = some ⟨(ddI xs).map I64 ++ r', true⟩ → (ddI xs).length + r'.length = c → K (.slice (some ⟨b, 0, none⟩) (ddI xs).length c) G') : GC Try.prog 84 [.slice (some ⟨b, 0, none⟩) xs.length c] G K := by
  refine c_slices_Compact_int64_int64_i (by simp) ?_
  obtain ⟨E, hE⟩ : ∃ E : List (Value × List Int), E = xs.map encI := ⟨_, rfl⟩
  have hEl : E.length = xs.length := by rw [hE, List.length_map]
  have hdl : (ddE E).length = (ddI xs).length := by rw [hE, ddE_enc, List.length_map]
  have hdm : (ddE E).map (·.1) = (ddI xs).map I64 := by rw [hE, ddE_enc, enc_map]
  rw [← enc_map, ← hE] at hb
  have hg : ∀ {e0 : Value × List Int} {i}, i < xs.length → E.getD i e0 = encI (xs.getD i 0) := fun hi => by rw [hE]; exact enc_get hi
  simp (maxSteps := 300000) (disch := omega) only [gs, gs2, gs3, gs4, ↓reduceIte, Nat.reduceEqDiff, Int.reduceToNat, Nat.reduceMul, Nat.reduceAdd, Nat.reduceBEq, isLd]
  by_cases h2 : (xs.length : Int) < 2
  · simp (maxSteps := 300000) (disch := omega) only [gs, gs2, gs3, gs4, ↓reduceIte, Nat.reduceEqDiff, Int.reduceToNat, Nat.reduceMul, Nat.reduceAdd, Nat.reduceBEq, isLd, h2]
    have hd : ddI xs = xs := by
      rcases xs with _ | ⟨e, _ | ⟨e', es⟩⟩
      · rfl
      · rfl
      · simp at h2; omega
    rw [hd] at hk
    exact hk G r hs (by rw [hb, hE, enc_map]) hc
  · simp (maxSteps := 300000) (disch := omega) only [gs, gs2, gs3, gs4, ↓reduceIte, Nat.reduceEqDiff, Int.reduceToNat, Nat.reduceMul, Nat.reduceAdd, Nat.reduceBEq, isLd, h2]
    obtain ⟨e0, he0⟩ : ∃ e0 : Value × List Int, e0 = encI 0 := ⟨_, rfl⟩
    refine gLoop_intro (fun m T G' => ∃ j : Nat, T 0 = .slice (some ⟨b, 0, none⟩) xs.length c ∧ T 3 = .int .i64 j ∧ m + j = xs.length ∧ 1 ≤ j ∧ j ≤ xs.length ∧ G' = G ∧ ddE (E.take j) = E.take j) (xs.length - 1)
      ⟨1, by simp (maxSteps := 300000) (disch := omega) only [gs, gs2, gs3, gs4, ↓reduceIte, Nat.reduceEqDiff, Int.reduceToNat, Nat.reduceMul, Nat.reduceAdd, Nat.reduceBEq, isLd], by simp (maxSteps := 300000) (disch := omega) only [gs, gs2, gs3, gs4, ↓reduceIte, Nat.reduceEqDiff, Int.reduceToNat, Nat.reduceMul, Nat.reduceAdd, Nat.reduceBEq, isLd] <;> rfl, by omega, by omega, by omega, rfl, by
        cases E with
        | nil => simp at hEl; omega
        | cons e es => simp [ddE, ddpE]⟩ ?_
    rintro m T G' ⟨j, t0, t3, hm, hj1, hj, rfl, hinv⟩
    simp (maxSteps := 300000) (disch := omega) only [gs, gs2, gs3, gs4, ↓reduceIte, Nat.reduceEqDiff, Int.reduceToNat, Nat.reduceMul, Nat.reduceAdd, Nat.reduceBEq, isLd, t0, t3]
    by_cases hjj : (j : Int) < xs.length
    · have hr : ∀ i, i < xs.length → rd G' (some ⟨b, i, none⟩) = some (.int .i64 (xs.getD i 0)) := fun i hi => by
        simp only [rd, hb, Option.bind_some]
        rw [List.getElem?_append_left (by rw [List.length_map]; omega), hE, enc_map]
        exact ints_get _ i hi
      have w1 : IntKind.i64.wrap ((j : Int) - 1) = ((j - 1 : Nat) : Int) := by rw [w64 (n := (j : Int) - 1) (by omega) (by omega)]; omega
      simp (maxSteps := 300000) (disch := omega) only [gs, gs2, gs3, gs4, ↓reduceIte, Nat.reduceEqDiff, Int.reduceToNat, Nat.reduceMul, Nat.reduceAdd, Nat.reduceBEq, isLd, t0, t3, hjj, w1, hr j (by omega), hr (j - 1) (by omega)]
      by_cases hq : xs.getD j 0 = xs.getD (j - 1) 0
      · have hq' : (E.getD j e0).2 = (E.getD (j - 1) e0).2 := by rw [hg (by omega), hg (by omega)]; exact encI_eq.2 hq
        have hkk0 : ddE (E.take (j + 1)) = E.take j := by rw [ddE_snoc (e0 := e0) hj1 (by omega), if_pos hq', hinv]
        have hlk0 : (E.take j).length = j := by rw [List.length_take, Nat.min_eq_left (by omega)]
        simp (maxSteps := 300000) (disch := omega) only [gs, gs2, gs3, gs4, ↓reduceIte, Nat.reduceEqDiff, Int.reduceToNat, Nat.reduceMul, Nat.reduceAdd, Nat.reduceBEq, isLd, t0, t3, hjj, eq_true hq, sl_rest (show j < xs.length by omega) (show xs.length ≤ c by omega), Option.map_some, Option.map_none]
        refine gLoop_intro (fun m T G' => ∃ (q : Nat) (m0 : List Value), T 0 = .slice (some ⟨b, 0, none⟩) xs.length c ∧ T 3 = .int .i64 (ddE (E.take (j + q))).length ∧ T 4 = .slice (some ⟨b, j, none⟩) (xs.length - j) (c - j) ∧ T 5 = .int .i64 q ∧ m + (j + q) = xs.length ∧ 1 ≤ q ∧ j + q ≤ xs.length ∧
            (ddE (E.take (j + q))).length + m0.length + 1 = j + q ∧ Sub H G' ∧ G' b = some ⟨(ddE (E.take (j + q))).map (·.1) ++ (m0 ++ ((E.getD (j + q - 1) e0).1 :: ((E.drop (j + q)).map (·.1) ++ r))), true⟩) (xs.length - (j + 1))
          ⟨1, [], by simp (maxSteps := 300000) (disch := omega) only [gs, gs2, gs3, gs4, ↓reduceIte, Nat.reduceEqDiff, Int.reduceToNat, Nat.reduceMul, Nat.reduceAdd, Nat.reduceBEq, isLd, t0], by rw [hkk0, hlk0]; simp (maxSteps := 300000) (disch := omega) only [gs, gs2, gs3, gs4, ↓reduceIte, Nat.reduceEqDiff, Int.reduceToNat, Nat.reduceMul, Nat.reduceAdd, Nat.reduceBEq, isLd, t3], by simp (maxSteps := 300000) (disch := omega) only [gs, gs2, gs3, gs4, ↓reduceIte, Nat.reduceEqDiff, Int.reduceToNat, Nat.reduceMul, Nat.reduceAdd, Nat.reduceBEq, isLd], by simp (maxSteps := 300000) (disch := omega) only [gs, gs2, gs3, gs4, ↓reduceIte, Nat.reduceEqDiff, Int.reduceToNat, Nat.reduceMul, Nat.reduceAdd, Nat.reduceBEq, isLd] <;> rfl, by omega, by omega, by omega, by rw [hkk0, hlk0]; simp, hs, by
            rw [hkk0, hb]
            have e1 : E.take j ++ (E.getD j e0 :: E.drop (j + 1)) = E := by rw [← dropE (e0 := e0) (by omega), List.take_append_drop]
            have e2 : (E.take j).map (·.1) ++ ([] ++ ((E.getD (j + 1 - 1) e0).1 :: ((E.drop (j + 1)).map (·.1) ++ r))) = E.map (·.1) ++ r := by
              rw [← congrArg (List.map (·.1)) e1]
              simp only [List.map_append, List.map_cons, List.append_assoc, List.cons_append, List.nil_append, Nat.add_sub_cancel]
            rw [e2]⟩ ?_
        rintro m T G'' ⟨q, m0, t0, t3, t4, t5, hm, hq1, hqj, hkm, hS, hB⟩
        simp (maxSteps := 300000) (disch := omega) only [gs, gs2, gs3, gs4, ↓reduceIte, Nat.reduceEqDiff, Int.reduceToNat, Nat.reduceMul, Nat.reduceAdd, Nat.reduceBEq, isLd, t0, t3, t4, t5]
        by_cases hqq : (q : Int) < ((xs.length - j : Nat) : Int)
        · have hd : E.drop (j + q) = E.getD (j + q) e0 :: E.drop (j + (q + 1)) := dropE (by omega)
          have hr1 : rd G'' (some ⟨b, j + q, none⟩) = some (.int .i64 (xs.getD (j + q) 0)) := by
            have : rd G'' (some ⟨b, j + q, none⟩) = some (E.getD (j + q) e0).1 := by
              simp only [rd, hB, Option.bind_some]
              rw [List.getElem?_append_right (by rw [List.length_map]; omega), List.length_map, List.getElem?_append_right (by omega), hd]
              rw [show j + q - (ddE (E.take (j + q))).length - m0.length = 1 by omega]
              rfl
            rw [this, hg (by omega)]; rfl
          have hr0 : rd G'' (some ⟨b, j + (q - 1), none⟩) = some (.int .i64 (xs.getD (j + q - 1) 0)) := by
            have : rd G'' (some ⟨b, j + (q - 1), none⟩) = some (E.getD (j + q - 1) e0).1 := by
              simp only [rd, hB, Option.bind_some]
              rw [List.getElem?_append_right (by rw [List.length_map]; omega), List.length_map, List.getElem?_append_right (by omega)]
              rw [show j + (q - 1) - (ddE (E.take (j + q))).length - m0.length = 0 by omega]
              rfl
            rw [this, hg (by omega)]; rfl
          have w2 : IntKind.i64.wrap ((q : Int) - 1) = ((q - 1 : Nat) : Int) := by rw [w64 (n := (q : Int) - 1) (by omega) (by omega)]; omega
          simp (maxSteps := 300000) (disch := omega) only [gs, gs2, gs3, gs4, ↓reduceIte, Nat.reduceEqDiff, Int.reduceToNat, Nat.reduceMul, Nat.reduceAdd, Nat.reduceBEq, isLd, t0, t3, t4, t5, hqq, w2, hr1, hr0]
          have hsn := ddE_snoc (E := E) (e0 := e0) (show 1 ≤ j + q by omega) (by omega)
          by_cases hp : xs.getD (j + q) 0 = xs.getD (j + q - 1) 0
          · have hp' : (E.getD (j + q) e0).2 = (E.getD (j + q - 1) e0).2 := by rw [hg (by omega), hg (by omega)]; exact encI_eq.2 hp
            rw [if_pos hp'] at hsn
            simp (maxSteps := 300000) (disch := omega) only [gs, gs2, gs3, gs4, ↓reduceIte, Nat.reduceEqDiff, Int.reduceToNat, Nat.reduceMul, Nat.reduceAdd, Nat.reduceBEq, isLd, t0, t3, t4, t5, eq_true hp, hr1]
            refine ⟨m - 1, by omega, G'', Sub.refl _, q + 1, m0 ++ [(E.getD (j + q - 1) e0).1], by rw [← Nat.add_assoc, hsn], rfl, by omega, by omega, by omega, by rw [← Nat.add_assoc, hsn, List.length_append]; simp; omega, hS, ?_⟩
            rw [hB, ← Nat.add_assoc, hsn, hd]
            simp [← Nat.add_assoc]
          · have hp' : ¬ (E.getD (j + q) e0).2 = (E.getD (j + q - 1) e0).2 := by rw [hg (by omega), hg (by omega)]; exact fun y => hp (encI_eq.1 y)
            rw [if_neg hp'] at hsn
            simp (maxSteps := 300000) (disch := omega) only [gs, gs2, gs3, gs4, ↓reduceIte, Nat.reduceEqDiff, Int.reduceToNat, Nat.reduceMul, Nat.reduceAdd, Nat.reduceBEq, isLd, t0, t3, t4, t5, eq_false hp, hqq, hr1]
            have hkl : (((ddE (E.take (j + q))).length : Nat) : Int) < xs.length := by omega
            refine st_one hB (by simp; omega) rfl ?_
            simp (maxSteps := 300000) (disch := omega) only [gs, gs2, gs3, gs4, ↓reduceIte, Nat.reduceEqDiff, Int.reduceToNat, Nat.reduceMul, Nat.reduceAdd, Nat.reduceBEq, isLd, t0, t3, t4, t5]
            obtain ⟨y, m2, hm2, hm2l⟩ : ∃ y m2, m0 ++ [(E.getD (j + q - 1) e0).1] = y :: m2 ∧ m2.length = m0.length := by
              cases m0 with
              | nil => exact ⟨_, _, rfl, rfl⟩
              | cons y m2 => exact ⟨y, m2 ++ [(E.getD (j + q - 1) e0).1], rfl, by simp⟩
            refine ⟨m - 1, by omega, _, Sub.refl _, q + 1, m2, by rw [← Nat.add_assoc, hsn, List.length_append]; rfl, rfl, by omega, by omega, by omega, by rw [← Nat.add_assoc, hsn, List.length_append]; simp; omega, hS.skip hHb, ?_⟩
            rw [put_same, ← Nat.add_assoc, hsn, hd]
            have e3 : m0 ++ ((E.getD (j + q - 1) e0).1 :: ((E.getD (j + q) e0 :: E.drop (j + (q + 1))).map (·.1) ++ r)) = y :: (m2 ++ ((E.getD (j + q) e0).1 :: ((E.drop (j + (q + 1))).map (·.1) ++ r))) := by
              have e4 : ∀ X : List Value, m0 ++ ((E.getD (j + q - 1) e0).1 :: X) = y :: (m2 ++ X) := fun X => by
                rw [← List.cons_append, ← hm2, List.append_assoc]; rfl
              exact e4 _
            rw [e3]
            congr 2
            rw [List.set_append_right _ _ (by rw [List.length_map]; exact Nat.le_refl _), List.length_map, Nat.sub_self, List.set_cons_zero]
            have e5 : (E.getD (j + q) e0).1 = .int .i64 (xs.getD (j + q) 0) := by rw [hg (by omega)]; rfl
            rw [← e5]
            simp [← Nat.add_assoc]
        · have hjn : j + q = E.length := by omega
          rw [hjn, List.take_length] at t3 hkm hB
          rw [List.drop_length, List.map_nil, List.nil_append] at hB
          rw [hdl] at t3 hkm
          rw [hdm] at hB
          have hkl : (ddI xs).length < xs.length := by omega
          have hnc : xs.length ≤ c := by omega
          simp (maxSteps := 300000) (disch := omega) only [gs, gs2, gs3, gs4, ↓reduceIte, Nat.reduceEqDiff, Int.reduceToNat, Nat.reduceMul, Nat.reduceAdd, Nat.reduceBEq, isLd, t0, t3, t4, t5, hqq, sl_rest hkl hnc, Option.map_none]
          have ho' := over_app (zc [Value.int .i64 0] (xs.length - (ddI xs).length)) ((ddI xs).map I64) ((m0 ++ [(E.getD (E.length - 1) e0).1]) ++ r)
          have hzl : (zc [Value.int .i64 0] (xs.length - (ddI xs).length)).length = xs.length - (ddI xs).length := by rw [zc_one, List.length_replicate]
          rw [hzl, if_pos (by simp; omega), List.length_map, show ((m0 ++ [(E.getD (E.length - 1) e0).1]) ++ r).drop (xs.length - (ddI xs).length) = r by rw [← show (m0 ++ [(E.getD (E.length - 1) e0).1]).length = xs.length - (ddI xs).length by simp; omega]; simp] at ho'
          have hBB : G'' b = some ⟨(ddI xs).map I64 ++ ((m0 ++ [(E.getD (E.length - 1) e0).1]) ++ r), true⟩ := by rw [hB]; simp
          refine ⟨_, _, _, rfl, .inr ⟨b, _, _, rfl, hBB, by simp; omega, fun v hv => by rw [zc_one] at hv; rw [List.eq_of_mem_replicate hv]; rfl, ?_⟩⟩
          rw [ho']
          simp (maxSteps := 300000) (disch := omega) only [gs, gs2, gs3, gs4, ↓reduceIte, Nat.reduceEqDiff, Int.reduceToNat, Nat.reduceMul, Nat.reduceAdd, Nat.reduceBEq, isLd, t0, t3, t4, t5, Option.map_none, sl_init (A := some ⟨b, 0, none⟩) (Nat.le_of_lt hkl) hnc]
          refine hk _ (zc [Value.int .i64 0] (xs.length - (ddI xs).length) ++ r) (hS.skip hHb) ?_ ?_
          · rw [put_same, List.append_assoc]
          · rw [List.length_append, hzl]; omega
      · have hq' : ¬ (E.getD j e0).2 = (E.getD (j - 1) e0).2 := by rw [hg (by omega), hg (by omega)]; exact fun y => hq (encI_eq.1 y)
        simp (maxSteps := 300000) (disch := omega) only [gs, gs2, gs3, gs4, ↓reduceIte, Nat.reduceEqDiff, Int.reduceToNat, Nat.reduceMul, Nat.reduceAdd, Nat.reduceBEq, isLd, t0, t3, hjj, eq_false hq]
        have hsn := ddE_snoc (E := E) (e0 := e0) hj1 (show j < E.length by omega)
        rw [if_neg hq', hinv] at hsn
        refine ⟨m - 1, by omega, G', Sub.refl _, j + 1, rfl, by omega, by omega, by omega, rfl, ?_⟩
        rw [hsn, List.take_succ_eq_append_getElem (show j < E.length by omega)]
        simp [List.getD, show j < E.length by omega]
    · obtain rfl : j = xs.length := by omega
      simp (maxSteps := 300000) (disch := omega) only [gs, gs2, gs3, gs4, ↓reduceIte, Nat.reduceEqDiff, Int.reduceToNat, Nat.reduceMul, Nat.reduceAdd, Nat.reduceBEq, isLd, t0, t3, hjj]
      rw [← hEl, List.take_length] at hinv
      have hd : ddI xs = xs := by
        rw [hE, ddE_enc] at hinv
        have := congrArg (List.map fun e : Value × List Int => e.2.headD 0) hinv
        simpa [encI, Function.comp_def] using this
      rw [hd] at hk
      exact hk G' r hs (by rw [hb, hE, enc_map]) hc
theorem slices_Compact_ok {H G : GH} {A : Option Addr} {c : Nat} {xs : List Int} (hO : Own G A c (xs.map I64) 1 xs.length) (hs : Sub H G) (ho : Off H A) (hl : xs.length < 2 ^ 30) {K : Value → GH → Prop}
    (hk : ∀ G', Sub H G' → Own G' A c ((ddI xs).map I64) 1 (ddI xs).length → K (.slice A (ddI xs).length c) G') : GC Try.prog 84 [.slice A xs.length c] G K := by
  rcases hO with ⟨rfl, rfl, hz, _⟩ | ⟨b, r, rfl, hb, hlen, hc, hnc⟩
  · have hx : xs = [] := List.length_eq_zero_iff.1 hz
    subst hx
    refine c_slices_Compact_int64_int64_i (by simp) ?_
    simp (maxSteps := 300000) (disch := omega) only [gs, gs2, gs3, gs4, ↓reduceIte, Nat.reduceEqDiff, Int.reduceToNat, Nat.reduceMul, Nat.reduceAdd, Nat.reduceBEq, isLd, show (((0 : Nat) : Int) < 2) = True from eq_true (by decide)]
    exact hk G hs (Own.nil _ _)
  · have hcl : xs.length + r.length = c := by rw [List.length_append, List.length_map] at hc; omega
    refine Compact_some_ok hb hs (ho _ rfl) hl hcl fun G' r' hS hB hC => ?_
    exact hk G' hS (.inr ⟨b, r', rfl, hB, by simp, by simp; omega, by omega⟩)
theorem flat_take {xss : List (List Int)} {k : Nat} (hk : k < xss.length) : (xss.take (k + 1)).flatten = (xss.take k).flatten ++ xss.getD k [] := by
  rw [List.take_succ_eq_append_getElem hk, List.flatten_append]
  simp [List.getD, hk]
theorem flat_le (xss : List (List Int)) (k : Nat) : (xss.take k).flatten.length ≤ xss.flatten.length := by
  have := congrArg (fun l : List (List Int) => l.flatten.length) (List.take_append_drop k xss)
  simp only [List.flatten_append, List.length_append] at this
  omega
theorem Grow0_ok {G : GH} {n : Nat} (hn : n < 2 ^ 40) {K : Value → GH → Prop} (hk : ∀ G' A c, New G G' A c [] 1 0 → K (.slice A 0 c) G') : GC Try.prog 85 [.slice none 0 0, .int .i64 n] G K := by
  refine c_slices_Grow_int64_int64_i (by simp) ?_
  have w1 := w64 (((0 : Nat) : Int) - ((0 : Nat) : Int)) (by omega) (by omega)
  have w2 := w64 ((n : Int) - (((0 : Nat) : Int) - ((0 : Nat) : Int))) (by omega) (by omega)
  have l1 : decide ((n : Int) < 0) = false := decide_eq_false (by omega)
  by_cases h0 : n = 0
  · subst h0
    have l2 : decide (0 < ((0 : Nat) : Int) - (((0 : Nat) : Int) - ((0 : Nat) : Int))) = false := rfl
    simp (maxSteps := 300000) (disch := omega) only [gs, gs2, gs3, gs4, ↓reduceIte, Nat.reduceEqDiff, Int.reduceToNat, Nat.reduceMul, Nat.reduceAdd, Nat.reduceBEq, isLd, w1, w2, l1, l2]
    exact hk G none 0 (New.nil _ _)
  have l2 : decide (0 < (n : Int) - (((0 : Nat) : Int) - ((0 : Nat) : Int))) = true := decide_eq_true (by omega)
  have e1 : slV 1 (.slice none 0 0) none (some (.int .i64 ((0 : Nat) : Int))) = some (.slice none 0 0) := rfl
  simp (maxSteps := 300000) (disch := omega) only [gs, gs2, gs3, gs4, ↓reduceIte, Nat.reduceEqDiff, Int.reduceToNat, Nat.reduceMul, Nat.reduceAdd, Nat.reduceBEq, isLd, w1, w2, l1, l2, e1, Option.map_none]
  refine ⟨none, 0, 0, n, [], rfl, by rw [show ((n : Int) - (((0 : Nat) : Int) - ((0 : Nat) : Int))) = n by omega], rfl, fun j v hj => by simp at hj, by omega, by omega, by omega, by omega, fun b c' hb hc => ⟨put G b ⟨zc [.int .i64 0] n ++ zc [.int .i64 0] (c' - n), true⟩, by rw [Nat.zero_add]; exact Sub.refl _, ?_⟩⟩
  have e2 : slV 1 (.slice (some ⟨b, 0, none⟩) n c') none (some (.int .i64 ((0 : Nat) : Int))) = some (.slice (some ⟨b, 0, none⟩) 0 c') := by
    simp only [slV, onSl, bndV, onInt]
    rw [if_pos ⟨by omega, by omega⟩]
    simp only [Option.bind_some, Int.toNat_natCast]
    rw [if_pos (by omega)]
    simp only [Nat.zero_mul, pa_mk, Nat.add_zero, Nat.sub_zero, ite_self]
  simp only [Nat.zero_add]
  simp (maxSteps := 300000) (disch := omega) only [gs, gs2, gs3, gs4, ↓reduceIte, Nat.reduceEqDiff, Int.reduceToNat, Nat.reduceMul, Nat.reduceAdd, Nat.reduceBEq, isLd, e2, Option.map_none]
  refine hk _ _ _ (.inr ⟨b, zc [.int .i64 0] n ++ zc [.int .i64 0] (c' - n), rfl, hb, rfl, rfl, ?_, by omega⟩)
  simp only [List.nil_append, List.length_append]
  simp only [zc, List.length_map, List.length_range, List.length_singleton, Nat.mul_one]
  omega
theorem ConcatR_ok {G : GH} {Y : Option Addr} {cy : Nat} {hs : Nat → Option Addr × Nat} {xss : List (List Int)} (h : RowS G Y cy hs xss) (hl : xss.length < 2 ^ 20) (hf : xss.flatten.length < 2 ^ 30) {K : Value → GH → Prop}
    (hk : ∀ G' A c, New G G' A c (xss.flatten.map I64) 1 xss.flatten.length → K (.slice A xss.flatten.length c) G') : GC Try.prog 62 [.slice Y xss.length cy] G K := by
  refine c_slices_Concat_int64_int64_i (by simp) ?_
  have hsn := h.sn
  have r := h.r
  simp (maxSteps := 300000) (disch := omega) only [gs, gs2, gs3, gs4, ↓reduceIte, Nat.reduceEqDiff, Int.reduceToNat, Nat.reduceMul, Nat.reduceAdd, Nat.reduceBEq, isLd]
  refine gLoop_intro (fun m T G' => ∃ k : Nat, T 0 = .slice Y xss.length cy ∧ T 3 = .int .i64 (((xss.take k).flatten.length : Nat) : Int) ∧ T 9 = .slice Y xss.length cy ∧ T 10 = .int .i64 xss.length ∧ T 11 = .int .i64 k ∧ m + k = xss.length ∧ k ≤ xss.length ∧ G' = G) xss.length
    ⟨0, by simp (maxSteps := 300000) (disch := omega) only [gs, gs2, gs3, gs4, ↓reduceIte, Nat.reduceEqDiff, Int.reduceToNat, Nat.reduceMul, Nat.reduceAdd, Nat.reduceBEq, isLd], by simp (maxSteps := 300000) (disch := omega) only [gs, gs2, gs3, gs4, ↓reduceIte, Nat.reduceEqDiff, Int.reduceToNat, Nat.reduceMul, Nat.reduceAdd, Nat.reduceBEq, isLd] <;> rfl, by simp (maxSteps := 300000) (disch := omega) only [gs, gs2, gs3, gs4, ↓reduceIte, Nat.reduceEqDiff, Int.reduceToNat, Nat.reduceMul, Nat.reduceAdd, Nat.reduceBEq, isLd], by simp (maxSteps := 300000) (disch := omega) only [gs, gs2, gs3, gs4, ↓reduceIte, Nat.reduceEqDiff, Int.reduceToNat, Nat.reduceMul, Nat.reduceAdd, Nat.reduceBEq, isLd], by simp (maxSteps := 300000) (disch := omega) only [gs, gs2, gs3, gs4, ↓reduceIte, Nat.reduceEqDiff, Int.reduceToNat, Nat.reduceMul, Nat.reduceAdd, Nat.reduceBEq, isLd] <;> rfl, by omega, by omega, rfl⟩ ?_
  rintro m T G' ⟨k, e0, e3, e9, e10, e11, hm, hkl, rfl⟩
  simp (maxSteps := 300000) (disch := omega) only [gs, gs2, gs3, gs4, ↓reduceIte, Nat.reduceEqDiff, Int.reduceToNat, Nat.reduceMul, Nat.reduceAdd, Nat.reduceBEq, isLd, e0, e3, e9, e10, e11]
  by_cases hkk : (k : Int) < xss.length
  · have hf1 := flat_take (show k < xss.length by omega)
    have hle := flat_le xss (k + 1)
    have hsum : (xss.take (k + 1)).flatten.length = (xss.take k).flatten.length + (xss.getD k []).length := by rw [hf1, List.length_append]
    have w1 := w64 ((((xss.take k).flatten.length : Nat) : Int) + ((xss.getD k []).length : Int)) (by omega) (by omega)
    have l1 : decide ((((xss.take k).flatten.length : Nat) : Int) + ((xss.getD k []).length : Int) < 0) = false := decide_eq_false (by omega)
    simp (maxSteps := 300000) (disch := omega) only [gs, gs2, gs3, gs4, ↓reduceIte, Nat.reduceEqDiff, Int.reduceToNat, Nat.reduceMul, Nat.reduceAdd, Nat.reduceBEq, isLd, e0, e3, e9, e10, e11, hkk, r k (by omega), w1, l1]
    exact ⟨m - 1, by omega, G', Sub.refl _, k + 1, by rw [hsum]; push_cast; rfl, rfl, by omega, by omega, rfl⟩
  · simp (maxSteps := 300000) (disch := omega) only [gs, gs2, gs3, gs4, ↓reduceIte, Nat.reduceEqDiff, Int.reduceToNat, Nat.reduceMul, Nat.reduceAdd, Nat.reduceBEq, isLd, e0, e3, e9, e10, e11, hkk]
    obtain rfl : k = xss.length := by omega
    rw [List.take_length]
    refine Grow0_ok (by omega) fun G2 A2 c2 hN => ?_
    simp (maxSteps := 300000) (disch := omega) only [gs, gs2, gs3, gs4, ↓reduceIte, Nat.reduceEqDiff, Int.reduceToNat, Nat.reduceMul, Nat.reduceAdd, Nat.reduceBEq, isLd, e0, e3, e9, e10, e11]
    refine gLoop_intro (fun m T Gx => ∃ (i : Nat) (B : Option Addr) (cB : Nat), T 6 = .slice B (xss.take i).flatten.length cB ∧ T 25 = .slice Y xss.length cy ∧ T 26 = .int .i64 xss.length ∧ T 27 = .int .i64 i ∧ m + i = xss.length ∧ i ≤ xss.length ∧ New G' Gx B cB ((xss.take i).flatten.map I64) 1 (xss.take i).flatten.length) xss.length
      ⟨0, A2, c2, by simp (maxSteps := 300000) (disch := omega) only [gs, gs2, gs3, gs4, ↓reduceIte, Nat.reduceEqDiff, Int.reduceToNat, Nat.reduceMul, Nat.reduceAdd, Nat.reduceBEq, isLd] <;> rfl, by simp (maxSteps := 300000) (disch := omega) only [gs, gs2, gs3, gs4, ↓reduceIte, Nat.reduceEqDiff, Int.reduceToNat, Nat.reduceMul, Nat.reduceAdd, Nat.reduceBEq, isLd], by simp (maxSteps := 300000) (disch := omega) only [gs, gs2, gs3, gs4, ↓reduceIte, Nat.reduceEqDiff, Int.reduceToNat, Nat.reduceMul, Nat.reduceAdd, Nat.reduceBEq, isLd], by simp (maxSteps := 300000) (disch := omega) only [gs, gs2, gs3, gs4, ↓reduceIte, Nat.reduceEqDiff, Int.reduceToNat, Nat.reduceMul, Nat.reduceAdd, Nat.reduceBEq, isLd] <;> rfl, by omega, by omega, hN⟩ ?_
    clear e0 e3 e9 e10 e11 hm hkl hN
    rintro m' T' G3 ⟨i, B, cB, e6, e25, e26, e27, hm, hkl, hN⟩
    simp (maxSteps := 300000) (disch := omega) only [gs, gs2, gs3, gs4, ↓reduceIte, Nat.reduceEqDiff, Int.reduceToNat, Nat.reduceMul, Nat.reduceAdd, Nat.reduceBEq, isLd, e6, e25, e26, e27]
    by_cases hii : (i : Int) < xss.length
    · have hri := rd_sub hN.sub (r i (by omega))
      have hrow := (h.row i (by omega)).sub hN.sub
      have hf1 := flat_take (show i < xss.length by omega)
      have hle := flat_le xss (i + 1)
      have hsum : (xss.take (i + 1)).flatten.length = (xss.take i).flatten.length + (xss.getD i []).length := by rw [hf1, List.length_append]
      simp (maxSteps := 300000) (disch := omega) only [gs, gs2, gs3, gs4, ↓reduceIte, Nat.reduceEqDiff, Int.reduceToNat, Nat.reduceMul, Nat.reduceAdd, Nat.reduceBEq, isLd, e6, e25, e26, e27, hii, hri]
      refine ap_new hN (Sub.refl _) (news := (xss.getD i []).map I64) (m := (xss.getD i []).length) (fun j v hj => ?_) (by simp) (by intro v hv; obtain ⟨x, _, rfl⟩ := List.mem_map.1 hv; rfl) rfl (by omega) (by omega) (by omega) fun G4 B4 c4 hN4 => ?_
      · have hj' : j < (xss.getD i []).length := by
          have := (List.getElem?_eq_some_iff.1 hj).1
          simpa using this
        rw [ints_get _ j hj'] at hj
        rw [← hj]; exact hrow.rd j hj'
      simp (maxSteps := 300000) (disch := omega) only [gs, gs2, gs3, gs4, ↓reduceIte, Nat.reduceEqDiff, Int.reduceToNat, Nat.reduceMul, Nat.reduceAdd, Nat.reduceBEq, isLd, e6, e25, e26, e27]
      exact ⟨m' - 1, by omega, G4, Sub.refl _, i + 1, B4, c4, by rw [hsum], rfl, by omega, by omega, hN4.cast (by rw [hf1, List.map_append]) hsum.symm⟩
    · simp (maxSteps := 300000) (disch := omega) only [gs, gs2, gs3, gs4, ↓reduceIte, Nat.reduceEqDiff, Int.reduceToNat, Nat.reduceMul, Nat.reduceAdd, Nat.reduceBEq, isLd, e6, e25, e26, e27, hii]
      obtain rfl : i = xss.length := by omega
      rw [List.take_length] at hN ⊢
      exact hk _ _ _ hN
/-- the columns of all tables, one behind the other. -/
def colsL (ts : List Tab) : List Int := (ts.map (·.cols)).flatten
theorem cols_take {ts : List Tab} {k : Nat} (hk : k < ts.length) : colsL (ts.take (k + 1)) = colsL (ts.take k) ++ (ts.getD k t0).cols := by
  unfold colsL
  rw [List.take_succ_eq_append_getElem hk, List.map_append, List.flatten_append]
  simp [List.getD, hk]
theorem cols_le (ts : List Tab) (k : Nat) : (colsL (ts.take k)).length ≤ (colsL ts).length := by
  have := congrArg (fun l : List Tab => (colsL l).length) (List.take_append_drop k ts)
  simp only [colsL, List.map_append, List.flatten_append, List.length_append] at this ⊢
  omega
theorem impl_allColumns_ok {G : GH} {Y : Option Addr} {cy : Nat} {H : Nat → TH} {ts : List Tab} (h : TabsS G Y cy H ts) (hl : ts.length < 2 ^ 20) (hf : (colsL ts).length < 2 ^ 30) {K : Value → GH → Prop}
    (hk : ∀ G' A c, New G G' A c ((ord (colsL ts)).map I64) 1 (ord (colsL ts)).length → K (.slice A (ord (colsL ts)).length c) G') : GC Try.prog 61 [.slice Y ts.length cy] G K := by
  refine GC_drop (c_impl_allColumns_i (by simp) ?_)
  have hsn := h.sn
  simp (maxSteps := 300000) (disch := omega) only [gs, gs2, gs3, gs4, ↓reduceIte, Nat.reduceEqDiff, Int.reduceToNat, Nat.reduceMul, Nat.reduceAdd, Nat.reduceBEq, isLd]
  refine gLoop_intro (fun m T G' => ∃ (k : Nat) (Z : Option Addr) (z : Nat), T 3 = .slice Z (colsL (ts.take k)).length z ∧ T 6 = .slice Y ts.length cy ∧ T 7 = .int .i64 ts.length ∧ T 8 = .int .i64 k ∧ m + k = ts.length ∧ k ≤ ts.length ∧ Sub G G' ∧ Off G Z ∧ Own G' Z z ((colsL (ts.take k)).map I64) 1 (colsL (ts.take k)).length) ts.length
    ⟨0, none, 0, by simp (maxSteps := 300000) (disch := omega) only [gs, gs2, gs3, gs4, ↓reduceIte, Nat.reduceEqDiff, Int.reduceToNat, Nat.reduceMul, Nat.reduceAdd, Nat.reduceBEq, isLd] <;> rfl, by simp (maxSteps := 300000) (disch := omega) only [gs, gs2, gs3, gs4, ↓reduceIte, Nat.reduceEqDiff, Int.reduceToNat, Nat.reduceMul, Nat.reduceAdd, Nat.reduceBEq, isLd], by simp (maxSteps := 300000) (disch := omega) only [gs, gs2, gs3, gs4, ↓reduceIte, Nat.reduceEqDiff, Int.reduceToNat, Nat.reduceMul, Nat.reduceAdd, Nat.reduceBEq, isLd], by simp (maxSteps := 300000) (disch := omega) only [gs, gs2, gs3, gs4, ↓reduceIte, Nat.reduceEqDiff, Int.reduceToNat, Nat.reduceMul, Nat.reduceAdd, Nat.reduceBEq, isLd] <;> rfl, by omega, by omega, Sub.refl _, Off.nil _, Own.nil _ _⟩ ?_
  rintro m T G' ⟨k, Z, z, e3, e6, e7, e8, hm, hkl, hS, hO, hW⟩
  simp (maxSteps := 300000) (disch := omega) only [gs, gs2, gs3, gs4, ↓reduceIte, Nat.reduceEqDiff, Int.reduceToNat, Nat.reduceMul, Nat.reduceAdd, Nat.reduceBEq, isLd, e3, e6, e7, e8]
  by_cases hkk : (k : Int) < ts.length
  · have hh := h.sub hS
    have q0 := hh.r0 k (by omega)
    have q1 := hh.r1 k (by omega)
    have hct := cols_take (show k < ts.length by omega)
    have hcl := cols_le ts (k + 1)
    have hsum : (colsL (ts.take (k + 1))).length = (colsL (ts.take k)).length + (ts.getD k t0).cols.length := by rw [hct, List.length_append]
    simp (maxSteps := 300000) (disch := omega) only [gs, gs2, gs3, gs4, ↓reduceIte, Nat.reduceEqDiff, Int.reduceToNat, Nat.reduceMul, Nat.reduceAdd, Nat.reduceBEq, isLd, e3, e6, e7, e8, hkk, q0, q1]
    intro b5 hb5
    simp (maxSteps := 300000) (disch := omega) only [gs, gs2, gs3, gs4, ↓reduceIte, Nat.reduceEqDiff, Int.reduceToNat, Nat.reduceMul, Nat.reduceAdd, Nat.reduceBEq, isLd, e3, e6, e7, e8]
    refine st_fresh (vs := [.slice (H k).A (ts.getD k t0).cols.length (H k).c, .slice (H k).B (ts.getD k t0).rows.length (H k).d]) rfl rfl rfl (by intro v hv; simp at hv; rcases hv with rfl | rfl <;> rfl) ?_
    have p5 := TabP.box hb5 (hh.cols k (by omega)) (hh.rows k (by omega))
    have s5 := Sub.put hb5 ⟨tabC (ts.getD k t0) (H k).A (H k).c (H k).B (H k).d, true⟩
    unfold tabC at p5 s5
    have hW5 := hW.sub s5
    have hS5 := hS.trans s5
    revert p5 s5 hW5 hS5
    generalize put G' b5 ⟨[.slice (H k).A (ts.getD k t0).cols.length (H k).c, .slice (H k).B (ts.getD k t0).rows.length (H k).d], true⟩ = G5
    intro p5 s5 hW5 hS5
    simp (maxSteps := 300000) (disch := omega) only [gs, gs2, gs3, gs4, ↓reduceIte, Nat.reduceEqDiff, Int.reduceToNat, Nat.reduceMul, Nat.reduceAdd, Nat.reduceBEq, isLd, e3, e6, e7, e8, p5.f0]
    refine ap_own hW5 (news := (ts.getD k t0).cols.map I64) (m := (ts.getD k t0).cols.length) (fun j v hj => ?_) (by simp) (by intro v hv; obtain ⟨x, _, rfl⟩ := List.mem_map.1 hv; rfl) rfl (by omega) (by omega) (by omega) fun G6 A6 c6 hW6 keep => ?_
    · have hj' : j < (ts.getD k t0).cols.length := by
        have := (List.getElem?_eq_some_iff.1 hj).1
        simpa using this
      rw [ints_get _ j hj'] at hj
      rw [← hj]; exact p5.cols.rd j hj'
    obtain ⟨hS6, hO6⟩ := keep G hS5 hO
    simp (maxSteps := 300000) (disch := omega) only [gs, gs2, gs3, gs4, ↓reduceIte, Nat.reduceEqDiff, Int.reduceToNat, Nat.reduceMul, Nat.reduceAdd, Nat.reduceBEq, isLd, e3, e6, e7, e8]
    exact ⟨m - 1, by omega, G6, Sub.refl _, k + 1, A6, c6, by rw [hsum], rfl, by omega, by omega, hS6, hO6, hW6.cast (by rw [hct, List.map_append]) hsum.symm⟩
  · simp (maxSteps := 300000) (disch := omega) only [gs, gs2, gs3, gs4, ↓reduceIte, Nat.reduceEqDiff, Int.reduceToNat, Nat.reduceMul, Nat.reduceAdd, Nat.reduceBEq, isLd, e3, e6, e7, e8, hkk]
    obtain rfl : k = ts.length := by omega
    rw [List.take_length] at e3 hW ⊢
    have hol := ord_len (colsL ts)
    have fin : ∀ {G'' : GH} {c : Nat}, Sub G G'' → Own G'' Z c ((ord (colsL ts)).map I64) 1 (ord (colsL ts)).length → ∃ G3, Sub G3 G'' ∧ K (.slice Z (ord (colsL ts)).length c) G3 := fun s w => by
      obtain ⟨G4, s4, hN4⟩ := w.new s hO
      exact ⟨G4, s4, hk _ _ _ hN4⟩
    rcases hW with ⟨rfl, rfl, hz, _⟩ | ⟨b, r, rfl, hb, hlen, hc, hnc⟩
    · have hnil : colsL ts = [] := List.length_eq_zero_iff.1 hz
      rw [hnil, show ord ([] : List Int) = [] by simp [ord, ddI]] at fin
      rw [hnil] at e3 ⊢
      refine Sort_int_none_ok ?_
      simp (maxSteps := 300000) (disch := omega) only [gs, gs2, gs3, gs4, ↓reduceIte, Nat.reduceEqDiff, Int.reduceToNat, Nat.reduceMul, Nat.reduceAdd, Nat.reduceBEq, isLd, e3, e6, e7, e8]
      refine slices_Compact_ok (H := G) (xs := []) (Own.nil _ _) hS (Off.nil _) (by simp) fun G'' s'' w'' => ?_
      simp (maxSteps := 300000) (disch := omega) only [gs, gs2, gs3, gs4, ↓reduceIte, Nat.reduceEqDiff, Int.reduceToNat, Nat.reduceMul, Nat.reduceAdd, Nat.reduceBEq, isLd]
      exact fin s'' w''
    · by_cases h0 : (colsL ts).length = 0
      · have hnil : colsL ts = [] := List.length_eq_zero_iff.1 h0
        rw [hnil, show ord ([] : List Int) = [] by simp [ord, ddI]] at fin
        rw [hnil] at e3 ⊢
        refine Sort_int_none_ok ?_
        simp (maxSteps := 300000) (disch := omega) only [gs, gs2, gs3, gs4, ↓reduceIte, Nat.reduceEqDiff, Int.reduceToNat, Nat.reduceMul, Nat.reduceAdd, Nat.reduceBEq, isLd, e3, e6, e7, e8]
        refine slices_Compact_ok (H := G) (xs := []) (.inr ⟨b, r, rfl, by rw [hb, hnil], by simp, by rw [hnil] at hc; exact hc, by simp⟩) hS hO (by simp) fun G'' s'' w'' => ?_
        simp (maxSteps := 300000) (disch := omega) only [gs, gs2, gs3, gs4, ↓reduceIte, Nat.reduceEqDiff, Int.reduceToNat, Nat.reduceMul, Nat.reduceAdd, Nat.reduceBEq, isLd]
        exact fin s'' w''
      · refine Sort_int_some_ok (by omega) hb (by omega) ?_
        simp (maxSteps := 300000) (disch := omega) only [gs, gs2, gs3, gs4, ↓reduceIte, Nat.reduceEqDiff, Int.reduceToNat, Nat.reduceMul, Nat.reduceAdd, Nat.reduceBEq, isLd, e3, e6, e7, e8]
        have hml : ((colsL ts).mergeSort fun x y => decide (x ≤ y)).length = (colsL ts).length := List.length_mergeSort _
        rw [← hml]
        refine slices_Compact_ok (H := G) (.inr ⟨b, r, rfl, put_same _ _ _, by simp, by simpa using hc, by omega⟩) (hS.skip (hO _ rfl)) hO (by omega) fun G'' s'' w'' => ?_
        simp (maxSteps := 300000) (disch := omega) only [gs, gs2, gs3, gs4, ↓reduceIte, Nat.reduceEqDiff, Int.reduceToNat, Nat.reduceMul, Nat.reduceAdd, Nat.reduceBEq, isLd]
        exact fin s'' w''
theorem drop_consI {xs : List Int} {k : Nat} (h : k < xs.length) : xs.drop k = xs.getD k 0 :: xs.drop (k + 1) := by
  rw [List.drop_eq_getElem_cons h]; simp [List.getD, h]
theorem take_snocI {xs : List Int} {k : Nat} (h : k < xs.length) : xs.take (k + 1) = xs.take k ++ [xs.getD k 0] := by
  rw [List.take_succ_eq_append_getElem h]; simp [List.getD, h]
theorem spec_l00Put_ok {G : GH} {A : Option Addr} {c : Nat} {xs : List Int} {n : Int} (h : IntS G A c xs) (hl : xs.length < 2 ^ 30) {K : Value → GH → Prop}
    (hk : ∀ G' A' c', New G G' A' c' ((insI n xs).map I64) 1 (insI n xs).length → K (.slice A' (insI n xs).length c') G') : GC Try.prog 81 [.slice A xs.length c, .int .i64 n] G K := by
  refine GC_drop (c_spec_l00Put_i (by simp) ?_)
  have hsn := h.sn
  simp (maxSteps := 300000) (disch := omega) only [gs, gs2, gs3, gs4, ↓reduceIte, Nat.reduceEqDiff, Int.reduceToNat, Nat.reduceMul, Nat.reduceAdd, Nat.reduceBEq, isLd, gBs]
  refine ⟨fun v hv => (by cases hv), fun bz hbz => ?_⟩
  refine gLoop_intro (fun m T G' => ∃ (k : Nat) (Z : Option Addr) (z : Nat) (os : List Int) (dn : Bool), T 0 = .slice A xs.length c ∧ T 1 = .int .i64 n ∧ T 5 = .slice Z os.length z ∧ T 6 = .bool dn ∧ T 7 = .int .i64 k ∧ m + k = xs.length ∧ k ≤ xs.length ∧ os.length ≤ k + 1 ∧ Sub G G' ∧ Off G Z ∧ Own G' Z z (os.map I64) 1 os.length ∧
      (dn = false → os = xs.take k ∧ insI n xs = xs.take k ++ insI n (xs.drop k)) ∧ (dn = true → os ++ xs.drop k = insI n xs)) xs.length
    ⟨0, some ⟨bz, 0, none⟩, 0, [], false, by simp (maxSteps := 300000) (disch := omega) only [gs, gs2, gs3, gs4, ↓reduceIte, Nat.reduceEqDiff, Int.reduceToNat, Nat.reduceMul, Nat.reduceAdd, Nat.reduceBEq, isLd], by simp (maxSteps := 300000) (disch := omega) only [gs, gs2, gs3, gs4, ↓reduceIte, Nat.reduceEqDiff, Int.reduceToNat, Nat.reduceMul, Nat.reduceAdd, Nat.reduceBEq, isLd], by simp (maxSteps := 300000) (disch := omega) only [gs, gs2, gs3, gs4, ↓reduceIte, Nat.reduceEqDiff, Int.reduceToNat, Nat.reduceMul, Nat.reduceAdd, Nat.reduceBEq, isLd] <;> rfl, by simp (maxSteps := 300000) (disch := omega) only [gs, gs2, gs3, gs4, ↓reduceIte, Nat.reduceEqDiff, Int.reduceToNat, Nat.reduceMul, Nat.reduceAdd, Nat.reduceBEq, isLd], by simp (maxSteps := 300000) (disch := omega) only [gs, gs2, gs3, gs4, ↓reduceIte, Nat.reduceEqDiff, Int.reduceToNat, Nat.reduceMul, Nat.reduceAdd, Nat.reduceBEq, isLd] <;> rfl, by omega, by omega, by simp, Sub.put hbz _, fun a ha => (by cases ha; exact hbz), Own.blk (put_same _ _ _) rfl, fun _ => by simp, fun y => by cases y⟩ ?_
  rintro m T G' ⟨k, Z, z, os, dn, e0, e1, e5, e6, e7, hm, hkl, hol, hS, hO, hW, hF, hT⟩
  simp (maxSteps := 300000) (disch := omega) only [gs, gs2, gs3, gs4, ↓reduceIte, Nat.reduceEqDiff, Int.reduceToNat, Nat.reduceMul, Nat.reduceAdd, Nat.reduceBEq, isLd, e0, e1, e5, e6, e7]
  have rk := fun hk => rd_sub hS (h.rd k hk)
  by_cases hkk : (k : Int) < xs.length
  · have rk := rk (by omega)
    have hsn := hsn (by omega)
    have hd := drop_consI (show k < xs.length by omega)
    have ht := take_snocI (show k < xs.length by omega)
    -- the element itself, behind what is there
    have step : ∀ {G1 : GH} {Z1 : Option Addr} {z1 : Nat} {os1 : List Int} {T1 : Nat → Value}, T1 0 = .slice A xs.length c → T1 1 = .int .i64 n → T1 5 = .slice Z1 os1.length z1 → T1 6 = .bool true → T1 7 = .int .i64 k → os1.length ≤ k + 1 → Sub G G1 → Off G Z1 → Own G1 Z1 z1 (os1.map I64) 1 os1.length → os1 ++ xs.drop k = insI n xs → True := fun _ _ _ _ _ _ _ _ _ _ => trivial
    clear step
    cases dn
    · obtain ⟨hF1, hF2⟩ := hF rfl
      by_cases hge : n ≤ xs.getD k 0
      · by_cases hgt : n < xs.getD k 0
        · simp (maxSteps := 300000) (disch := omega) only [gs, gs2, gs3, gs4, ↓reduceIte, Nat.reduceEqDiff, Int.reduceToNat, Nat.reduceMul, Nat.reduceAdd, Nat.reduceBEq, isLd, e0, e1, e5, e6, e7, hkk, rk, hge, hgt, gBs]
          refine ⟨fun v hv => (by simp at hv; subst hv; rfl), fun bs hbs => ?_⟩
          have sy := Sub.put hbs ⟨[I64 n], true⟩
          refine ap_own (hW.sub sy) (news := [I64 n]) (m := 1) (cells_one _ true) rfl (by intro v hv; simp at hv; subst hv; rfl) rfl (by omega) (by omega) (by omega) fun G6 A6 c6 hW6 keep => ?_
          obtain ⟨hS6, hO6⟩ := keep G (hS.trans sy) hO
          have rk6 := rd_sub hS6 (h.rd k (by omega))
          simp (maxSteps := 300000) (disch := omega) only [gs, gs2, gs3, gs4, ↓reduceIte, Nat.reduceEqDiff, Int.reduceToNat, Nat.reduceMul, Nat.reduceAdd, Nat.reduceBEq, isLd, e0, e1, e5, e6, e7, hkk, rk6, gBs]
          refine ⟨fun v hv => (by simp at hv; subst hv; rfl), fun bs2 hbs2 => ?_⟩
          have sy2 := Sub.put hbs2 ⟨[I64 (xs.getD k 0)], true⟩
          refine ap_own (hW6.sub sy2) (news := [I64 (xs.getD k 0)]) (m := 1) (cells_one _ true) rfl (by intro v hv; simp at hv; subst hv; rfl) rfl (by omega) (by omega) (by omega) fun G7 A7 c7 hW7 keep => ?_
          obtain ⟨hS7, hO7⟩ := keep G (hS6.trans sy2) hO6
          simp (maxSteps := 300000) (disch := omega) only [gs, gs2, gs3, gs4, ↓reduceIte, Nat.reduceEqDiff, Int.reduceToNat, Nat.reduceMul, Nat.reduceAdd, Nat.reduceBEq, isLd, e0, e1, e5, e6, e7]
          refine ⟨m - 1, by omega, G7, Sub.refl _, k + 1, A7, c7, os ++ [n] ++ [xs.getD k 0], true, by simp, rfl, rfl, by omega, by omega, by
            have : os.length = k := by rw [hF1, List.length_take]; omega
            simp; omega, hS7, hO7, hW7.cast (by simp) (by simp), fun y => (by cases y), fun _ => ?_⟩
          rw [hF2, hd, insI, if_pos hge, if_pos hgt, hF1]; simp
        · have hne : ¬ (n < xs.getD k 0) := hgt
          simp (maxSteps := 300000) (disch := omega) only [gs, gs2, gs3, gs4, ↓reduceIte, Nat.reduceEqDiff, Int.reduceToNat, Nat.reduceMul, Nat.reduceAdd, Nat.reduceBEq, isLd, e0, e1, e5, e6, e7, hkk, rk, hge, hgt, gBs]
          refine ⟨fun v hv => (by simp at hv; subst hv; rfl), fun bs2 hbs2 => ?_⟩
          have sy2 := Sub.put hbs2 ⟨[I64 (xs.getD k 0)], true⟩
          refine ap_own (hW.sub sy2) (news := [I64 (xs.getD k 0)]) (m := 1) (cells_one _ true) rfl (by intro v hv; simp at hv; subst hv; rfl) rfl (by omega) (by omega) (by omega) fun G7 A7 c7 hW7 keep => ?_
          obtain ⟨hS7, hO7⟩ := keep G (hS.trans sy2) hO
          simp (maxSteps := 300000) (disch := omega) only [gs, gs2, gs3, gs4, ↓reduceIte, Nat.reduceEqDiff, Int.reduceToNat, Nat.reduceMul, Nat.reduceAdd, Nat.reduceBEq, isLd, e0, e1, e5, e6, e7]
          refine ⟨m - 1, by omega, G7, Sub.refl _, k + 1, A7, c7, os ++ [xs.getD k 0], true, by simp, rfl, rfl, by omega, by omega, by
            have : os.length = k := by rw [hF1, List.length_take]; omega
            simp; omega, hS7, hO7, hW7.cast (by simp) (by simp), fun y => (by cases y), fun _ => ?_⟩
          rw [hF2, hd, insI, if_pos hge, if_neg hgt, hF1]; simp
      · simp (maxSteps := 300000) (disch := omega) only [gs, gs2, gs3, gs4, ↓reduceIte, Nat.reduceEqDiff, Int.reduceToNat, Nat.reduceMul, Nat.reduceAdd, Nat.reduceBEq, isLd, e0, e1, e5, e6, e7, hkk, rk, hge, gBs]
        refine ⟨fun v hv => (by simp at hv; subst hv; rfl), fun bs2 hbs2 => ?_⟩
        have sy2 := Sub.put hbs2 ⟨[I64 (xs.getD k 0)], true⟩
        refine ap_own (hW.sub sy2) (news := [I64 (xs.getD k 0)]) (m := 1) (cells_one _ true) rfl (by intro v hv; simp at hv; subst hv; rfl) rfl (by omega) (by omega) (by omega) fun G7 A7 c7 hW7 keep => ?_
        obtain ⟨hS7, hO7⟩ := keep G (hS.trans sy2) hO
        simp (maxSteps := 300000) (disch := omega) only [gs, gs2, gs3, gs4, ↓reduceIte, Nat.reduceEqDiff, Int.reduceToNat, Nat.reduceMul, Nat.reduceAdd, Nat.reduceBEq, isLd, e0, e1, e5, e6, e7]
        refine ⟨m - 1, by omega, G7, Sub.refl _, k + 1, A7, c7, os ++ [xs.getD k 0], false, by simp, rfl, rfl, by omega, by omega, by
          have : os.length = k := by rw [hF1, List.length_take]; omega
          simp; omega, hS7, hO7, hW7.cast (by simp) (by simp), fun _ => ⟨by rw [hF1, ht], ?_⟩, fun y => (by cases y)⟩
        rw [hF2, hd, insI, if_neg hge, ht]; simp
    · have hT := hT rfl
      simp (maxSteps := 300000) (disch := omega) only [gs, gs2, gs3, gs4, ↓reduceIte, Nat.reduceEqDiff, Int.reduceToNat, Nat.reduceMul, Nat.reduceAdd, Nat.reduceBEq, isLd, e0, e1, e5, e6, e7, hkk, rk, gBs]
      refine ⟨fun v hv => (by simp at hv; subst hv; rfl), fun bs2 hbs2 => ?_⟩
      have sy2 := Sub.put hbs2 ⟨[I64 (xs.getD k 0)], true⟩
      refine ap_own (hW.sub sy2) (news := [I64 (xs.getD k 0)]) (m := 1) (cells_one _ true) rfl (by intro v hv; simp at hv; subst hv; rfl) rfl (by omega) (by omega) (by omega) fun G7 A7 c7 hW7 keep => ?_
      obtain ⟨hS7, hO7⟩ := keep G (hS.trans sy2) hO
      simp (maxSteps := 300000) (disch := omega) only [gs, gs2, gs3, gs4, ↓reduceIte, Nat.reduceEqDiff, Int.reduceToNat, Nat.reduceMul, Nat.reduceAdd, Nat.reduceBEq, isLd, e0, e1, e5, e6, e7]
      refine ⟨m - 1, by omega, G7, Sub.refl _, k + 1, A7, c7, os ++ [xs.getD k 0], true, by simp, rfl, rfl, by omega, by omega, by simp; omega, hS7, hO7, hW7.cast (by simp) (by simp), fun y => (by cases y), fun _ => ?_⟩
      rw [← hT, hd]; simp
  · simp (maxSteps := 300000) (disch := omega) only [gs, gs2, gs3, gs4, ↓reduceIte, Nat.reduceEqDiff, Int.reduceToNat, Nat.reduceMul, Nat.reduceAdd, Nat.reduceBEq, isLd, e0, e1, e5, e6, e7, hkk]
    obtain rfl : k = xs.length := by omega
    rw [List.take_length, List.drop_length] at hF
    rw [List.drop_length, List.append_nil] at hT
    cases dn
    · obtain ⟨hF1, hF2⟩ := hF rfl
      simp (maxSteps := 300000) (disch := omega) only [gs, gs2, gs3, gs4, ↓reduceIte, Nat.reduceEqDiff, Int.reduceToNat, Nat.reduceMul, Nat.reduceAdd, Nat.reduceBEq, isLd, e0, e1, e5, e6, e7, gBs]
      refine ⟨fun v hv => (by simp at hv; subst hv; rfl), fun bs hbs => ?_⟩
      have sy := Sub.put hbs ⟨[I64 n], true⟩
      refine ap_own (hW.sub sy) (news := [I64 n]) (m := 1) (cells_one _ true) rfl (by intro v hv; simp at hv; subst hv; rfl) rfl (by omega) (by omega) (by omega) fun G6 A6 c6 hW6 keep => ?_
      obtain ⟨hS6, hO6⟩ := keep G (hS.trans sy) hO
      simp (maxSteps := 300000) (disch := omega) only [gs, gs2, gs3, gs4, ↓reduceIte, Nat.reduceEqDiff, Int.reduceToNat, Nat.reduceMul, Nat.reduceAdd, Nat.reduceBEq, isLd, e0, e1, e5, e6, e7]
      have hE : os ++ [n] = insI n xs := by rw [hF2, hF1]; rfl
      have hE2 : os.length + 1 = (insI n xs).length := by rw [← hE]; simp
      obtain ⟨G8, s8, hN8⟩ := (hW6.cast (cs' := (insI n xs).map I64) (by rw [← hE]; simp) hE2).new hS6 hO6
      rw [hE2]
      exact ⟨G8, s8, hk _ _ _ hN8⟩
    · have hT := hT rfl
      simp (maxSteps := 300000) (disch := omega) only [gs, gs2, gs3, gs4, ↓reduceIte, Nat.reduceEqDiff, Int.reduceToNat, Nat.reduceMul, Nat.reduceAdd, Nat.reduceBEq, isLd, e0, e1, e5, e6, e7]
      rw [hT] at hW ⊢
      obtain ⟨G8, s8, hN8⟩ := hW.new hS hO
      exact ⟨G8, s8, hk _ _ _ hN8⟩
theorem spec_l20Columns_ok {G : GH} {A B : Option Addr} {c d : Nat} {xs ys : List Int} (h : IntS G A c xs) (h' : IntS G B d ys) (hr : Rise xs) (hl : xs.length + ys.length < 2 ^ 30) {K : Value → GH → Prop}
    (hk : ∀ G' A' c', New G G' A' c' ((uniL xs ys).map I64) 1 (uniL xs ys).length → K (.slice A' (uniL xs ys).length c') G') : GC Try.prog 56 [.slice A xs.length c, .slice B ys.length d] G K := by
  refine GC_drop (c_spec_l20Columns_i (by simp) ?_)
  have hsn := h'.sn
  simp (maxSteps := 300000) (disch := omega) only [gs, gs2, gs3, gs4, ↓reduceIte, Nat.reduceEqDiff, Int.reduceToNat, Nat.reduceMul, Nat.reduceAdd, Nat.reduceBEq, isLd]
  refine spec_l00Own_ok h (by omega) fun G1 A1 c1 hN1 => ?_
  simp (maxSteps := 300000) (disch := omega) only [gs, gs2, gs3, gs4, ↓reduceIte, Nat.reduceEqDiff, Int.reduceToNat, Nat.reduceMul, Nat.reduceAdd, Nat.reduceBEq, isLd]
  refine gLoop_intro (fun m T G' => ∃ (k : Nat) (Z : Option Addr) (z : Nat), T 1 = .slice B ys.length d ∧ T 5 = .slice Z (uniL xs (ys.take k)).length z ∧ T 6 = .int .i64 k ∧ m + k = ys.length ∧ k ≤ ys.length ∧ New G G' Z z ((uniL xs (ys.take k)).map I64) 1 (uniL xs (ys.take k)).length) ys.length
    ⟨0, A1, c1, by simp (maxSteps := 300000) (disch := omega) only [gs, gs2, gs3, gs4, ↓reduceIte, Nat.reduceEqDiff, Int.reduceToNat, Nat.reduceMul, Nat.reduceAdd, Nat.reduceBEq, isLd], by simp (maxSteps := 300000) (disch := omega) only [gs, gs2, gs3, gs4, ↓reduceIte, Nat.reduceEqDiff, Int.reduceToNat, Nat.reduceMul, Nat.reduceAdd, Nat.reduceBEq, isLd] <;> rfl, by simp (maxSteps := 300000) (disch := omega) only [gs, gs2, gs3, gs4, ↓reduceIte, Nat.reduceEqDiff, Int.reduceToNat, Nat.reduceMul, Nat.reduceAdd, Nat.reduceBEq, isLd] <;> rfl, by omega, by omega, hN1⟩ ?_
  rintro m T G' ⟨k, Z, z, e1, e5, e6, hm, hkl, hN⟩
  have hul := (uniL_spec (ys.take k) (rise_pw.1 hr)).2.2
  rw [List.length_take] at hul
  simp (maxSteps := 300000) (disch := omega) only [gs, gs2, gs3, gs4, ↓reduceIte, Nat.reduceEqDiff, Int.reduceToNat, Nat.reduceMul, Nat.reduceAdd, Nat.reduceBEq, isLd, e1, e5, e6]
  by_cases hkk : (k : Int) < ys.length
  · have rk := rd_sub hN.sub (h'.rd k (by omega))
    have hsn := hsn (by omega)
    have ht : uniL xs (ys.take (k + 1)) = insI (ys.getD k 0) (uniL xs (ys.take k)) := by rw [take_snocI (by omega), uniL_snoc]
    simp (maxSteps := 300000) (disch := omega) only [gs, gs2, gs3, gs4, ↓reduceIte, Nat.reduceEqDiff, Int.reduceToNat, Nat.reduceMul, Nat.reduceAdd, Nat.reduceBEq, isLd, e1, e5, e6, hkk, rk]
    refine spec_l00Put_ok hN.ints (by omega) fun G2 A2 c2 hN2 => ?_
    simp (maxSteps := 300000) (disch := omega) only [gs, gs2, gs3, gs4, ↓reduceIte, Nat.reduceEqDiff, Int.reduceToNat, Nat.reduceMul, Nat.reduceAdd, Nat.reduceBEq, isLd, e1, e5, e6]
    rw [← ht] at hN2 ⊢
    obtain ⟨G3, s3, hN3⟩ := hN2.low hN.sub
    exact ⟨m - 1, by omega, G3, s3, k + 1, A2, c2, rfl, rfl, by omega, by omega, hN3⟩
  · simp (maxSteps := 300000) (disch := omega) only [gs, gs2, gs3, gs4, ↓reduceIte, Nat.reduceEqDiff, Int.reduceToNat, Nat.reduceMul, Nat.reduceAdd, Nat.reduceBEq, isLd, e1, e5, e6, hkk]
    obtain rfl : k = ys.length := by omega
    rw [List.take_length] at hN ⊢
    exact ⟨G', Sub.refl _, hk _ _ _ hN⟩
def jcols (a b : Tab) : List Int := uniL a.cols b.cols
def joinRow (a b : Tab) (x y : List Int) : List Int := (jcols a b).map (cellAt (a.cols ++ b.cols) (x ++ y))
open Classical in
noncomputable def joinP (a b : Tab) (x : List Int) (ys : List (List Int)) : List (List Int) := (ys.filter fun y => decide (FitP a.cols b.cols x y)).map (joinRow a b x)
noncomputable def joinR (a b : Tab) (xs : List (List Int)) : List (List Int) := xs.flatMap fun x => joinP a b x b.rows
noncomputable def joinT (a b : Tab) : Tab := ⟨jcols a b, srt (joinR a b a.rows)⟩
open Classical in
noncomputable def joinV (a b : Tab) : Tab × Int := if TabOk a ∧ TabOk b then (if 24 < (joinR a b a.rows).length then (⟨[], []⟩, 5) else (joinT a b, 0)) else (⟨[], []⟩, 1)
theorem joinV_no {a b : Tab} (h : ¬ (TabOk a ∧ TabOk b)) : joinV a b = (⟨[], []⟩, 1) := by unfold joinV; rw [if_neg h]
theorem joinV_full {a b : Tab} (h : TabOk a ∧ TabOk b) (k : 24 < (joinR a b a.rows).length) : joinV a b = (⟨[], []⟩, 5) := by unfold joinV; rw [if_pos h, if_pos k]
theorem joinV_yes {a b : Tab} (h : TabOk a ∧ TabOk b) (k : ¬ 24 < (joinR a b a.rows).length) : joinV a b = (joinT a b, 0) := by unfold joinV; rw [if_pos h, if_neg k]
theorem joinRow_len (a b : Tab) (x y : List Int) : (joinRow a b x y).length = (jcols a b).length := by simp [joinRow]
theorem joinP_snoc {a b : Tab} {x : List Int} {k : Nat} (hk : k < b.rows.length) : (FitP a.cols b.cols x (b.rows.getD k []) → joinP a b x (b.rows.take (k + 1)) = joinP a b x (b.rows.take k) ++ [joinRow a b x (b.rows.getD k [])]) ∧ (¬ FitP a.cols b.cols x (b.rows.getD k []) → joinP a b x (b.rows.take (k + 1)) = joinP a b x (b.rows.take k)) := by
  unfold joinP
  rw [takeL hk, List.filter_append, List.map_append]
  generalize b.rows.getD k [] = r
  constructor
  · intro h; simp [h]
  · intro h; simp [h]
theorem joinR_snoc {a b : Tab} {k : Nat} (hk : k < a.rows.length) : joinR a b (a.rows.take (k + 1)) = joinR a b (a.rows.take k) ++ joinP a b (a.rows.getD k []) b.rows := by
  unfold joinR
  rw [takeL hk, List.flatMap_append]; simp
theorem joinP_len (a b : Tab) (x : List Int) (ys : List (List Int)) : (joinP a b x ys).length ≤ ys.length := by
  unfold joinP; rw [List.length_map]; exact List.length_filter_le _ _
theorem joinR_len (a b : Tab) (xs : List (List Int)) : (joinR a b xs).length ≤ xs.length * b.rows.length := by
  induction xs with
  | nil => simp [joinR]
  | cons x xs ih =>
    have h1 := joinP_len a b x b.rows
    have : joinR a b (x :: xs) = joinP a b x b.rows ++ joinR a b xs := by simp [joinR]
    rw [this, List.length_append, List.length_cons, Nat.add_mul, Nat.one_mul]; omega
theorem joinP_row {a b : Tab} {x r : List Int} {ys : List (List Int)} (h : r ∈ joinP a b x ys) : r.length = (jcols a b).length := by
  unfold joinP at h
  obtain ⟨y, _, rfl⟩ := List.mem_map.1 h
  exact joinRow_len _ _ _ _
theorem joinR_row {a b : Tab} {r : List Int} {xs : List (List Int)} (h : r ∈ joinR a b xs) : r.length = (jcols a b).length := by
  unfold joinR at h
  obtain ⟨x, _, hx⟩ := List.mem_flatMap.1 h
  exact joinP_row hx
theorem rowS_two {G : GH} {b : Nat} {A B : Option Addr} {c d : Nat} {x y : List Int} (hx : IntS G A c x) (hy : IntS G B d y) (hb : G b = some ⟨[.slice A x.length c, .slice B y.length d], true⟩) :
    RowS G (some ⟨b, 0, none⟩) 2 (fun i => if i = 0 then (A, c) else (B, d)) [x, y] := by
  refine ⟨Nat.le_refl _, fun i hi => ?_, fun i hi => ?_⟩
  · have : i = 0 ∨ i = 1 := by simp at hi; omega
    rcases this with rfl | rfl
    · rw [pa_mk]; simp only [rd, hb]; rfl
    · rw [pa_mk]; simp only [rd, hb]; rfl
  · have : i = 0 ∨ i = 1 := by simp at hi; omega
    rcases this with rfl | rfl
    · exact hx
    · exact hy
theorem tabsS_two {G : GH} {q : Nat} {a b : Tab} {A B A' B' : Option Addr} {c d c' d' : Nat} {hs hs' : Nat → Option Addr × Nat} (ha : IntS G A c a.cols) (ra : RowS G B d hs a.rows) (hb : IntS G A' c' b.cols) (rb : RowS G B' d' hs' b.rows)
    (hq : G q = some ⟨[.slice A a.cols.length c, .slice B a.rows.length d, .slice A' b.cols.length c', .slice B' b.rows.length d'], true⟩) :
    TabsS G (some ⟨q, 0, none⟩) 2 (fun i => if i = 0 then ⟨A, c, B, d, hs⟩ else ⟨A', c', B', d', hs'⟩) [a, b] := by
  refine ⟨Nat.le_refl _, fun i hi => ?_, fun i hi => ?_, fun i hi => ?_, fun i hi => ?_⟩ <;>
  · have : i = 0 ∨ i = 1 := by simp at hi; omega
    rcases this with rfl | rfl <;> first | (rw [pa_mk]; simp only [rd, hq]; rfl) | assumption
theorem jcols_mem {a b : Tab} (ha : Rise a.cols) : ∀ v ∈ jcols a b, v ∈ a.cols ++ b.cols := fun v hv => by
  rw [List.mem_append]
  exact ((uniL_spec b.cols (rise_pw.1 ha)).2.1 v).1 hv
theorem jcols_len {a b : Tab} (ha : Rise a.cols) : (jcols a b).length ≤ a.cols.length + b.cols.length := (uniL_spec b.cols (rise_pw.1 ha)).2.2
theorem impl_JoinTables_ok {G : GH} {a b : Tab} {A B A' B' : Option Addr} {c d c' d' : Nat} {hs hs' : Nat → Option Addr × Nat} (h : IntS G A c a.cols) (hr : RowS G B d hs a.rows) (h' : IntS G A' c' b.cols) (hr' : RowS G B' d' hs' b.rows) (hl : a.cols.length < 2 ^ 40) (hl' : b.cols.length < 2 ^ 40) (ha : Sh a.rows) (hb : Sh b.rows)
    {K : Value → GH → Prop} (hk : TI (joinV a b) K G) : GC Try.prog 30 [tabV a A c B d, tabV b A' c' B' d'] G K := by
  refine GC_drop (c_impl_JoinTables_i (by simp) ?_)
  have fb : ∀ {G' : GH} {q : Nat} {N : Tab} {A B : Option Addr} {c d : Nat} {hs : Nat → Option Addr × Nat}, TabP G' (some ⟨q, 0, none⟩) N A c B d hs → rd G' (some ⟨q, 1, none⟩) = some (.slice B N.rows.length d) := fun h => by
    have := h.f1; rwa [pa_mk] at this
  have one2 : ∀ {X Y : Option Addr} {a b x y : Nat}, ∀ v ∈ [Value.slice X a x, Value.slice Y b y], oneB v = true := fun v hv => by simp at hv; rcases hv with rfl | rfl <;> rfl
  unfold tabV tabC
  simp (maxSteps := 300000) (disch := omega) only [gs, gs2, gs3, gs4, ↓reduceIte, Nat.reduceEqDiff, Int.reduceToNat, Nat.reduceMul, Nat.reduceAdd, Nat.reduceBEq, isLd]
  intro b2 hb2
  have p2 := TabP.box hb2 h hr
  have s2 := Sub.put hb2 ⟨tabC a A c B d, true⟩
  unfold tabC at p2 s2
  simp (maxSteps := 300000) (disch := omega) only [gs, gs2, gs3, gs4, ↓reduceIte, Nat.reduceEqDiff, Int.reduceToNat, Nat.reduceMul, Nat.reduceAdd, Nat.reduceBEq, isLd]
  intro b3 hb3
  have p3 := TabP.box hb3 (h'.sub s2) (hr'.sub s2)
  have s3 := Sub.put hb3 ⟨tabC b A' c' B' d', true⟩
  unfold tabC at p3 s3
  have p2 := p2.sub s3
  have s1 := s2.trans s3
  revert s1 p2 p3
  generalize put (put G b2 ⟨[.slice A a.cols.length c, .slice B a.rows.length d], true⟩) b3 ⟨[.slice A' b.cols.length c', .slice B' b.rows.length d'], true⟩ = G1
  intro p3 p2 s1
  clear hb2 hb3 s2 s3
  simp (maxSteps := 300000) (disch := omega) only [gs, gs2, gs3, gs4, ↓reduceIte, Nat.reduceEqDiff, Int.reduceToNat, Nat.reduceMul, Nat.reduceAdd, Nat.reduceBEq, isLd]
  intro b4 hb4
  have s4 := Sub.put hb4 ⟨[.slice none 0 0, .slice none 0 0], true⟩
  have g4 := put_same G1 b4 ⟨[.slice none 0 0, .slice none 0 0], true⟩
  have p2 := p2.sub s4
  have p3 := p3.sub s4
  have s1' := s1.trans s4
  have n4 : G b4 = none := s1.none hb4
  revert s1' p2 p3 g4
  generalize put G1 b4 ⟨[.slice none 0 0, .slice none 0 0], true⟩ = G2
  intro g4 p2 p3 s1'
  clear s4
  have k0 : ∀ {G' : GH} {x y : Value}, rd (put G' b4 ⟨[x, y], true⟩) (some ⟨b4, 0, none⟩) = some x := rd_box _ _ _ 0 _ rfl
  have k1 : ∀ {G' : GH} {x y : Value}, rd (put G' b4 ⟨[x, y], true⟩) (some ⟨b4, 1, none⟩) = some y := rd_box _ _ _ 1 _ rfl
  have hbz : bldV [Value.slice none 0 0, Value.slice none 0 0] [] = some [Value.slice none 0 0, Value.slice none 0 0] := rfl
  simp (maxSteps := 300000) (disch := omega) only [gs, gs2, gs3, gs4, ↓reduceIte, Nat.reduceEqDiff, Int.reduceToNat, Nat.reduceMul, Nat.reduceAdd, Nat.reduceBEq, isLd, p2.f0, fb p2]
  refine impl_ValidTable_ok p2.cols p2.rows hl ha fun z hz => ?_
  cases z
  · simp (maxSteps := 300000) (disch := omega) only [gs, gs2, gs3, gs4, ↓reduceIte, Nat.reduceEqDiff, Int.reduceToNat, Nat.reduceMul, Nat.reduceAdd, Nat.reduceBEq, isLd, p2.f0, fb p2, hbz]
    refine st_many (vs := [.slice none 0 0, .slice none 0 0]) rfl g4 rfl (by simp) (by intro v hv; simp at hv; subst hv; rfl) ?_
    simp only [over, List.set_cons_zero, List.set_cons_succ]
    simp (maxSteps := 300000) (disch := omega) only [gs, gs2, gs3, gs4, ↓reduceIte, Nat.reduceEqDiff, Int.reduceToNat, Nat.reduceMul, Nat.reduceAdd, Nat.reduceBEq, isLd, k0, k1]
    have hno : ¬ (TabOk a ∧ TabOk b) := fun y => by have := hz.2 y.1; simp at this
    rw [joinV_no hno] at hk
    exact ⟨G, s1'.skip n4, hk _ _ _ _ _ _ (NewT.nil G fun _ => (none, 0))⟩
  have hoa := hz.1 rfl
  simp (maxSteps := 300000) (disch := omega) only [gs, gs2, gs3, gs4, ↓reduceIte, Nat.reduceEqDiff, Int.reduceToNat, Nat.reduceMul, Nat.reduceAdd, Nat.reduceBEq, isLd, p2.f0, fb p2, p3.f0, fb p3]
  refine impl_ValidTable_ok p3.cols p3.rows hl' hb fun z hz => ?_
  cases z
  · simp (maxSteps := 300000) (disch := omega) only [gs, gs2, gs3, gs4, ↓reduceIte, Nat.reduceEqDiff, Int.reduceToNat, Nat.reduceMul, Nat.reduceAdd, Nat.reduceBEq, isLd, p2.f0, fb p2, hbz]
    refine st_many (vs := [.slice none 0 0, .slice none 0 0]) rfl g4 rfl (by simp) (by intro v hv; simp at hv; subst hv; rfl) ?_
    simp only [over, List.set_cons_zero, List.set_cons_succ]
    simp (maxSteps := 300000) (disch := omega) only [gs, gs2, gs3, gs4, ↓reduceIte, Nat.reduceEqDiff, Int.reduceToNat, Nat.reduceMul, Nat.reduceAdd, Nat.reduceBEq, isLd, k0, k1]
    have hno : ¬ (TabOk a ∧ TabOk b) := fun y => by have := hz.2 y.2; simp at this
    rw [joinV_no hno] at hk
    exact ⟨G, s1'.skip n4, hk _ _ _ _ _ _ (NewT.nil G fun _ => (none, 0))⟩
  have hob := hz.1 rfl
  obtain ⟨ra, ca, na⟩ := hoa.rowL
  obtain ⟨rb, cb, nb⟩ := hob.rowL
  have hjl := jcols_len (b := b) hoa.1
  have hjm := jcols_mem (b := b) hoa.1
  simp (maxSteps := 300000) (disch := omega) only [gs, gs2, gs3, gs4, ↓reduceIte, Nat.reduceEqDiff, Int.reduceToNat, Nat.reduceMul, Nat.reduceAdd, Nat.reduceBEq, isLd, p2.f0, fb p2, p3.f0, fb p3, gBs]
  refine ⟨fun v hv => (by simp at hv; rcases hv with rfl | rfl <;> rfl), fun bs hbs => ?_⟩
  have ss := Sub.put hbs ⟨[.slice A a.cols.length c, .slice B a.rows.length d, .slice A' b.cols.length c', .slice B' b.rows.length d'], true⟩
  have tt2 := tabsS_two (p2.cols.sub ss) (p2.rows.sub ss) (p3.cols.sub ss) (p3.rows.sub ss) (put_same _ _ _)
  have p2 := p2.sub ss
  have p3 := p3.sub ss
  have g4 := ss _ _ g4
  have s1' := s1'.trans ss
  have e0 : (put G2 bs ⟨List.flatMap (fun v : Value => v.cells.toList) [Value.agg [.slice A a.cols.length c, .slice B a.rows.length d].toArray, Value.agg [.slice A' b.cols.length c', .slice B' b.rows.length d'].toArray], true⟩) = put G2 bs ⟨[.slice A a.cols.length c, .slice B a.rows.length d, .slice A' b.cols.length c', .slice B' b.rows.length d'], true⟩ := rfl
  try rw [e0]
  revert tt2 p2 p3 g4 s1'
  generalize put G2 bs ⟨[.slice A a.cols.length c, .slice B a.rows.length d, .slice A' b.cols.length c', .slice B' b.rows.length d'], true⟩ = G3
  intro tt2 p2 p3 g4 s1'
  clear ss hbs
  have hcl : colsL [a, b] = a.cols ++ b.cols := by simp [colsL]
  refine impl_allColumns_ok tt2 (by simp) (by rw [hcl, List.length_append]; omega) fun H A1 c1 hN1 => ?_
  rw [hcl, ord_uni hoa.1] at hN1 ⊢
  have ejc : uniL a.cols b.cols = jcols a b := rfl
  rw [ejc] at hN1 ⊢
  have p2 := p2.sub hN1.sub
  have p3 := p3.sub hN1.sub
  have g4' := hN1.sub _ _ g4
  have hbl : bldV [Value.slice none 0 0, Value.slice none 0 0] [(0, 1, Value.slice A1 (jcols a b).length c1)] = some [Value.slice A1 (jcols a b).length c1, .slice none 0 0] := rfl
  simp (maxSteps := 300000) (disch := omega) only [gs, gs2, gs3, gs4, ↓reduceIte, Nat.reduceEqDiff, Int.reduceToNat, Nat.reduceMul, Nat.reduceAdd, Nat.reduceBEq, isLd, hbl]
  intro b5 hb5
  simp (maxSteps := 300000) (disch := omega) only [gs, gs2, gs3, gs4, ↓reduceIte, Nat.reduceEqDiff, Int.reduceToNat, Nat.reduceMul, Nat.reduceAdd, Nat.reduceBEq, isLd]
  refine st_fresh (vs := [.slice A1 (jcols a b).length c1, .slice none 0 0]) rfl rfl rfl one2 ?_
  have hX0 : SemG H (put H b5 ⟨[.slice A1 (jcols a b).length c1, .slice none 0 0], true⟩) b5 A1 (jcols a b).length c1 none 0 (fun _ => (none, 0)) [] := ⟨hb5, Sub.refl _, OwnR.nil _ _, Off.nil _, fun i hi => by simp at hi⟩
  have sH := s1'.trans hN1.sub
  have hA1 : Own H A1 c1 ((jcols a b).map I64) 1 (jcols a b).length := hN1.fresh
  have oA1 : Off G A1 := hN1.off.mono s1'
  have n41 : ∀ x, A1 = some x → x.block ≠ b4 := fun x hx y => by have := hN1.off x hx; rw [y, g4] at this; cases this
  have iA1 := hN1.ints
  clear hN1 g4 tt2
  generalize put H b5 ⟨[.slice A1 (jcols a b).length c1, .slice none 0 0], true⟩ = G4 at hX0 ⊢
  have q2 := p2.sub hX0.low
  have q3 := p3.sub hX0.low
  have hs2 := rd_some q2.f0
  simp (maxSteps := 300000) (disch := omega) only [gs, gs2, gs3, gs4, ↓reduceIte, Nat.reduceEqDiff, Int.reduceToNat, Nat.reduceMul, Nat.reduceAdd, Nat.reduceBEq, isLd, q2.f0, q3.f0, gBs]
  refine ⟨fun v hv => (by simp at hv; rcases hv with rfl | rfl <;> rfl), fun bt hbt => ?_⟩
  have st := Sub.put hbt ⟨[.slice A a.cols.length c, .slice A' b.cols.length c'], true⟩
  have e1 : (put G4 bt ⟨List.flatMap (fun v : Value => v.cells.toList) [Value.slice A a.cols.length c, Value.slice A' b.cols.length c'], true⟩) = put G4 bt ⟨[.slice A a.cols.length c, .slice A' b.cols.length c'], true⟩ := rfl
  try rw [e1]
  refine ConcatR_ok (rowS_two (q2.cols.sub st) (q3.cols.sub st) (put_same _ _ _)) (by simp) (by simp; omega) fun Gb D e hD => ?_
  have hfl : ([a.cols, b.cols] : List (List Int)).flatten = a.cols ++ b.cols := by simp
  rw [hfl] at hD ⊢
  have hX1 := hX0.up (st.trans hD.sub)
  have nD : ∀ x y, D = some x → (some ⟨b5, 0, none⟩ : Option Addr) = some y → x.block ≠ y.block := fun x y hx hy q => by
    cases hy
    have := hD.off x hx
    rw [q, st _ _ (hX0.sub _ _ (put_same _ _ _))] at this; cases this
  have hHH : Sub H (wz Gb (some ⟨b5, 0, none⟩)) := fun y f hy => by
    rw [wz_ne fun x hx => by cases hx; exact fun q => by rw [← q] at hy; rw [hX0.nb] at hy; cases hy]
    exact hX1.low _ _ hy
  have iD : IntS (wz Gb (some ⟨b5, 0, none⟩)) D e (a.cols ++ b.cols) := (hD.fresh.wz nD).ints
  have hX1 : SemG (wz Gb (some ⟨b5, 0, none⟩)) Gb b5 A1 (jcols a b).length c1 none 0 (fun _ => (none, 0)) [] := by
    refine ⟨Off.wz Gb _ _ rfl, fun y f hy => ?_, OwnR.nil _ _, Off.nil _, fun i hi => by simp at hi⟩
    by_cases q : y = b5
    · subst q
      rw [put_same] at hy
      rw [← hy]
      exact hX1.sub _ _ (put_same _ _ _)
    · rw [put_ne _ _ q] at hy
      exact Sub.wz _ _ _ _ hy
  have p2 := p2.sub hHH
  have p3 := p3.sub hHH
  have sH := sH.trans hHH
  have hA1 := hA1.sub hHH
  have iA1 := iA1.sub hHH
  have g4' := hHH _ _ g4'
  revert iD hX1 p2 p3 sH hA1 iA1 g4'
  generalize wz Gb (some ⟨b5, 0, none⟩) = H2
  intro iD hX1 p2 p3 sH hA1 iA1 g4'
  clear hX0 hbt st hD q2 q3 nD hHH hb5
  have q2 := p2.sub hX1.low
  have q3 := p3.sub hX1.low
  simp (maxSteps := 300000) (disch := omega) only [gs, gs2, gs3, gs4, ↓reduceIte, Nat.reduceEqDiff, Int.reduceToNat, Nat.reduceMul, Nat.reduceAdd, Nat.reduceBEq, isLd, q2.f0, fb q2]
  refine gLoop_intro (fun m T G' => ∃ (k : Nat) (Z : Option Addr) (z : Nat) (hz : Nat → Option Addr × Nat), T 2 = .pointer (some ⟨b2, 0, none⟩) ∧ T 3 = .pointer (some ⟨b3, 0, none⟩) ∧ T 4 = .pointer (some ⟨b4, 0, none⟩) ∧ T 6 = .pointer (some ⟨b5, 0, none⟩) ∧ T 7 = .slice D (a.cols ++ b.cols).length e ∧ T 33 = .slice B a.rows.length d ∧ T 34 = .int .i64 a.rows.length ∧ T 35 = .int .i64 k ∧ m + k = a.rows.length ∧ k ≤ a.rows.length ∧ SemG H2 G' b5 A1 (jcols a b).length c1 Z z hz (joinR a b (a.rows.take k))) a.rows.length
    ⟨0, none, 0, _, by simp (maxSteps := 300000) (disch := omega) only [gs, gs2, gs3, gs4, ↓reduceIte, Nat.reduceEqDiff, Int.reduceToNat, Nat.reduceMul, Nat.reduceAdd, Nat.reduceBEq, isLd], by simp (maxSteps := 300000) (disch := omega) only [gs, gs2, gs3, gs4, ↓reduceIte, Nat.reduceEqDiff, Int.reduceToNat, Nat.reduceMul, Nat.reduceAdd, Nat.reduceBEq, isLd], by simp (maxSteps := 300000) (disch := omega) only [gs, gs2, gs3, gs4, ↓reduceIte, Nat.reduceEqDiff, Int.reduceToNat, Nat.reduceMul, Nat.reduceAdd, Nat.reduceBEq, isLd], by simp (maxSteps := 300000) (disch := omega) only [gs, gs2, gs3, gs4, ↓reduceIte, Nat.reduceEqDiff, Int.reduceToNat, Nat.reduceMul, Nat.reduceAdd, Nat.reduceBEq, isLd], by simp (maxSteps := 300000) (disch := omega) only [gs, gs2, gs3, gs4, ↓reduceIte, Nat.reduceEqDiff, Int.reduceToNat, Nat.reduceMul, Nat.reduceAdd, Nat.reduceBEq, isLd], by simp (maxSteps := 300000) (disch := omega) only [gs, gs2, gs3, gs4, ↓reduceIte, Nat.reduceEqDiff, Int.reduceToNat, Nat.reduceMul, Nat.reduceAdd, Nat.reduceBEq, isLd], by simp (maxSteps := 300000) (disch := omega) only [gs, gs2, gs3, gs4, ↓reduceIte, Nat.reduceEqDiff, Int.reduceToNat, Nat.reduceMul, Nat.reduceAdd, Nat.reduceBEq, isLd], by simp (maxSteps := 300000) (disch := omega) only [gs, gs2, gs3, gs4, ↓reduceIte, Nat.reduceEqDiff, Int.reduceToNat, Nat.reduceMul, Nat.reduceAdd, Nat.reduceBEq, isLd] <;> rfl, by omega, by omega, hX1⟩ ?_
  clear hX1 q2 q3
  rintro m T G' ⟨k, Z, z, hz, e2, e3, e4, e6, e7, e33, e34, e35, hm, hkl, hX⟩
  simp (maxSteps := 300000) (disch := omega) only [gs, gs2, gs3, gs4, ↓reduceIte, Nat.reduceEqDiff, Int.reduceToNat, Nat.reduceMul, Nat.reduceAdd, Nat.reduceBEq, isLd, e2, e3, e4, e6, e7, e33, e34, e35]
  have hlenR : (joinR a b (a.rows.take k)).length ≤ k * 24 := Nat.le_trans (joinR_len _ _ _) (by rw [List.length_take]; exact Nat.mul_le_mul (Nat.min_le_left _ _) nb)
  by_cases hkk : (k : Int) < a.rows.length
  · have q2 := p2.sub hX.low
    have q3 := p3.sub hX.low
    have rk := q2.rows.r k (by omega)
    have hsB := q2.rows.sn (by omega)
    simp (maxSteps := 300000) (disch := omega) only [gs, gs2, gs3, gs4, ↓reduceIte, Nat.reduceEqDiff, Int.reduceToNat, Nat.reduceMul, Nat.reduceAdd, Nat.reduceBEq, isLd, e2, e3, e4, e6, e7, e33, e34, e35, hkk, rk, q3.f0, fb q3]
    refine gLoop_intro (fun m' T' G'' => ∃ (j : Nat) (Z : Option Addr) (z : Nat) (hz : Nat → Option Addr × Nat), T' 2 = .pointer (some ⟨b2, 0, none⟩) ∧ T' 3 = .pointer (some ⟨b3, 0, none⟩) ∧ T' 4 = .pointer (some ⟨b4, 0, none⟩) ∧ T' 6 = .pointer (some ⟨b5, 0, none⟩) ∧ T' 7 = .slice D (a.cols ++ b.cols).length e ∧ T' 9 = .slice (hs k).1 (a.rows.getD k []).length (hs k).2 ∧ T' 33 = .slice B a.rows.length d ∧ T' 34 = .int .i64 a.rows.length ∧ T' 35 = .int .i64 k ∧
        T' 40 = .slice B' b.rows.length d' ∧ T' 41 = .int .i64 b.rows.length ∧ T' 42 = .int .i64 j ∧ m' + j = b.rows.length ∧ j ≤ b.rows.length ∧ SemG H2 G'' b5 A1 (jcols a b).length c1 Z z hz (joinR a b (a.rows.take k) ++ joinP a b (a.rows.getD k []) (b.rows.take j))) b.rows.length
      ⟨0, Z, z, hz, by simp (maxSteps := 300000) (disch := omega) only [gs, gs2, gs3, gs4, ↓reduceIte, Nat.reduceEqDiff, Int.reduceToNat, Nat.reduceMul, Nat.reduceAdd, Nat.reduceBEq, isLd, e2], by simp (maxSteps := 300000) (disch := omega) only [gs, gs2, gs3, gs4, ↓reduceIte, Nat.reduceEqDiff, Int.reduceToNat, Nat.reduceMul, Nat.reduceAdd, Nat.reduceBEq, isLd, e3], by simp (maxSteps := 300000) (disch := omega) only [gs, gs2, gs3, gs4, ↓reduceIte, Nat.reduceEqDiff, Int.reduceToNat, Nat.reduceMul, Nat.reduceAdd, Nat.reduceBEq, isLd, e4], by simp (maxSteps := 300000) (disch := omega) only [gs, gs2, gs3, gs4, ↓reduceIte, Nat.reduceEqDiff, Int.reduceToNat, Nat.reduceMul, Nat.reduceAdd, Nat.reduceBEq, isLd, e6], by simp (maxSteps := 300000) (disch := omega) only [gs, gs2, gs3, gs4, ↓reduceIte, Nat.reduceEqDiff, Int.reduceToNat, Nat.reduceMul, Nat.reduceAdd, Nat.reduceBEq, isLd, e7], by simp (maxSteps := 300000) (disch := omega) only [gs, gs2, gs3, gs4, ↓reduceIte, Nat.reduceEqDiff, Int.reduceToNat, Nat.reduceMul, Nat.reduceAdd, Nat.reduceBEq, isLd], by simp (maxSteps := 300000) (disch := omega) only [gs, gs2, gs3, gs4, ↓reduceIte, Nat.reduceEqDiff, Int.reduceToNat, Nat.reduceMul, Nat.reduceAdd, Nat.reduceBEq, isLd, e33], by simp (maxSteps := 300000) (disch := omega) only [gs, gs2, gs3, gs4, ↓reduceIte, Nat.reduceEqDiff, Int.reduceToNat, Nat.reduceMul, Nat.reduceAdd, Nat.reduceBEq, isLd, e34], by simp (maxSteps := 300000) (disch := omega) only [gs, gs2, gs3, gs4, ↓reduceIte, Nat.reduceEqDiff, Int.reduceToNat, Nat.reduceMul, Nat.reduceAdd, Nat.reduceBEq, isLd, e35], by simp (maxSteps := 300000) (disch := omega) only [gs, gs2, gs3, gs4, ↓reduceIte, Nat.reduceEqDiff, Int.reduceToNat, Nat.reduceMul, Nat.reduceAdd, Nat.reduceBEq, isLd], by simp (maxSteps := 300000) (disch := omega) only [gs, gs2, gs3, gs4, ↓reduceIte, Nat.reduceEqDiff, Int.reduceToNat, Nat.reduceMul, Nat.reduceAdd, Nat.reduceBEq, isLd], by simp (maxSteps := 300000) (disch := omega) only [gs, gs2, gs3, gs4, ↓reduceIte, Nat.reduceEqDiff, Int.reduceToNat, Nat.reduceMul, Nat.reduceAdd, Nat.reduceBEq, isLd] <;> rfl, by omega, by omega, by rw [show joinP a b (a.rows.getD k []) (b.rows.take 0) = [] by simp [joinP], List.append_nil]; exact hX⟩ ?_
    clear e2 e3 e4 e6 e7 e33 e34 e35 hX q2 q3 rk hsB Z z hz
    rintro m' T' G'' ⟨j, Z, z, hz, e2, e3, e4, e6, e7, e9, e33, e34, e35, e40, e41, e42, hm', hjl, hX⟩
    simp (maxSteps := 300000) (disch := omega) only [gs, gs2, gs3, gs4, ↓reduceIte, Nat.reduceEqDiff, Int.reduceToNat, Nat.reduceMul, Nat.reduceAdd, Nat.reduceBEq, isLd, e2, e3, e4, e6, e7, e9, e33, e34, e35, e40, e41, e42]
    have hlenP := joinP_len a b (a.rows.getD k []) (b.rows.take j)
    rw [List.length_take] at hlenP
    have hlen : (joinR a b (a.rows.take k) ++ joinP a b (a.rows.getD k []) (b.rows.take j)).length < 2 ^ 20 := by rw [List.length_append]; omega
    by_cases hjj : (j : Int) < b.rows.length
    · have q2 := p2.sub hX.low
      have q3 := p3.sub hX.low
      have rj := q3.rows.r j (by omega)
      have hsB' := q3.rows.sn (by omega)
      have hxl := ra k (by omega)
      have hyl := rb j (by omega)
      have hps := joinP_snoc (a := a) (b := b) (x := a.rows.getD k []) (k := j) (by omega)
      simp (maxSteps := 300000) (disch := omega) only [gs, gs2, gs3, gs4, ↓reduceIte, Nat.reduceEqDiff, Int.reduceToNat, Nat.reduceMul, Nat.reduceAdd, Nat.reduceBEq, isLd, e2, e3, e4, e6, e7, e9, e33, e34, e35, e40, e41, e42, hjj, rj, q2.f0, fb q2, q3.f0, fb q3]
      refine impl_fit_ok (a := a) (b := b) q2.cols q3.cols (q2.rows.row k (by omega)) (q3.rows.row j (by omega)) (by omega) (by omega) hxl hyl fun w hw => ?_
      cases w
      · simp (maxSteps := 300000) (disch := omega) only [gs, gs2, gs3, gs4, ↓reduceIte, Nat.reduceEqDiff, Int.reduceToNat, Nat.reduceMul, Nat.reduceAdd, Nat.reduceBEq, isLd, e2, e3, e4, e6, e7, e9, e33, e34, e35, e40, e41, e42]
        refine ⟨m' - 1, by omega, G'', Sub.refl _, j + 1, Z, z, hz, rfl, by omega, by omega, ?_⟩
        rw [hps.2 fun y => by have := hw.2 y; cases this]; exact hX
      · have hX6 := rd_sub hX.sub (rd_box H2 b5 [.slice A1 (jcols a b).length c1, .slice Z (joinR a b (a.rows.take k) ++ joinP a b (a.rows.getD k []) (b.rows.take j)).length z] 1 _ rfl)
        have hX5 := rd_sub hX.sub (rd_box H2 b5 [.slice A1 (jcols a b).length c1, .slice Z (joinR a b (a.rows.take k) ++ joinP a b (a.rows.getD k []) (b.rows.take j)).length z] 0 _ rfl)
        simp (maxSteps := 300000) (disch := omega) only [gs, gs2, gs3, gs4, ↓reduceIte, Nat.reduceEqDiff, Int.reduceToNat, Nat.reduceMul, Nat.reduceAdd, Nat.reduceBEq, isLd, e2, e3, e4, e6, e7, e9, e33, e34, e35, e40, e41, e42, hX5, hX6, gBs]
        refine ⟨fun v hv => (by simp at hv; rcases hv with rfl | rfl <;> rfl), fun bu hbu => ?_⟩
        have su := Sub.put hbu ⟨[.slice (hs k).1 (a.rows.getD k []).length (hs k).2, .slice (hs' j).1 (b.rows.getD j []).length (hs' j).2], true⟩
        refine ⟨⟨rd_sub su hX5, rd_sub su hX6⟩, ?_⟩
        have hfl : ([a.rows.getD k [], b.rows.getD j []] : List (List Int)).flatten = a.rows.getD k [] ++ b.rows.getD j [] := by
          generalize a.rows.getD k [] = x
          generalize b.rows.getD j [] = y
          simp
        refine ConcatR_ok (rowS_two ((q2.rows.row k (by omega)).sub su) ((q3.rows.row j (by omega)).sub su) (put_same _ _ _)) (show 2 < 2 ^ 20 by decide) (by rw [hfl, List.length_append]; omega) fun Gc E f hE => ?_
        rw [hfl] at hE ⊢
        have sc := su.trans hE.sub
        have f5 := rd_sub sc hX5
        have f6 := rd_sub sc hX6
        simp (maxSteps := 300000) (disch := omega) only [gs, gs2, gs3, gs4, ↓reduceIte, Nat.reduceEqDiff, Int.reduceToNat, Nat.reduceMul, Nat.reduceAdd, Nat.reduceBEq, isLd, e2, e3, e4, e6, e7, e9, f5, f6]
        refine impl_project_ok ((iD.sub hX.low).sub sc) hE.ints (iA1.sub (hX.low.trans sc)) hjm (by rw [List.length_append, List.length_append, hxl, hyl]) (by rw [List.length_append]; omega) (by omega) fun G8 D8 d8 hN8 => ?_
        have s8 := sc.trans hN8.sub
        have f5 := rd_sub s8 hX5
        have f6 := rd_sub s8 hX6
        simp (maxSteps := 300000) (disch := omega) only [gs, gs2, gs3, gs4, ↓reduceIte, Nat.reduceEqDiff, Int.reduceToNat, Nat.reduceMul, Nat.reduceAdd, Nat.reduceBEq, isLd, e2, e3, e4, e6, e7, e9, f5, f6, gBs]
        refine ⟨fun v hv => (by simp at hv; subst hv; rfl), fun bv hbv => ?_⟩
        have s9 := Sub.put hbv ⟨[.slice D8 (jcols a b).length d8], true⟩
        refine ⟨⟨rd_sub s9 f5, rd_sub s9 f6⟩, ?_⟩
        have s79 := s8.trans s9
        have oD8 : Off G'' D8 := hN8.off.mono sc
        have hF : Own G8 D8 d8 ((joinRow a b (a.rows.getD k []) (b.rows.getD j [])).map I64) 1 (joinRow a b (a.rows.getD k []) (b.rows.getD j [])).length := hN8.fresh.cast rfl (joinRow_len _ _ _ _).symm
        have hb5 : (put G8 bv ⟨[.slice D8 (jcols a b).length d8], true⟩) b5 = some ⟨[.slice A1 (jcols a b).length c1, .slice Z (joinR a b (a.rows.take k) ++ joinP a b (a.rows.getD k []) (b.rows.take j)).length z], true⟩ := s79 _ _ (hX.sub _ _ (put_same _ _ _))
        refine SemG.add (x := joinRow a b (a.rows.getD k []) (b.rows.getD j [])) (hX.up s79) (hF.sub s9) ((oD8.mono hX.sub).pute) (fun x y hx hy q => ?_) (fun i hi x y hx hy q => ?_) (by rw [joinRow_len]; exact put_same _ _ _) (by omega) fun G4 Z' z' s4 sH4 hst => ?_
        · have := own_ne hX.own.out y hy
          rw [← q, oD8 x hx] at this; exact this rfl
        · have := own_ne (hX.own.row i hi) x hx
          rw [q, oD8 y hy] at this; exact this rfl
        · have fw : rd G4 (some ⟨b5, 0, none⟩) = some (.slice A1 (jcols a b).length c1) := rd_sub s4 (by
            simp only [rd]
            rw [wz_ne (hX.oZ.ne), hb5]; rfl)
          simp (maxSteps := 300000) (disch := omega) only [gs, gs2, gs3, gs4, ↓reduceIte, Nat.reduceEqDiff, Int.reduceToNat, Nat.reduceMul, Nat.reduceAdd, Nat.reduceBEq, isLd, e2, e3, e4, e6, e7, e9, fw]
          refine hst _ fun G5 hs5 hX5 => ?_
          simp (maxSteps := 300000) (disch := omega) only [gs, gs2, gs3, gs4, ↓reduceIte, Nat.reduceEqDiff, Int.reduceToNat, Nat.reduceMul, Nat.reduceAdd, Nat.reduceBEq, isLd, e2, e3, e4, e6, e7, e9, e33, e34, e35, e40, e41, e42]
          refine ⟨m' - 1, by omega, G5, Sub.refl _, j + 1, Z', z', hs5, rfl, by omega, by omega, by rw [hps.1 (hw.1 rfl), ← List.append_assoc]; exact hX5⟩
    · simp (maxSteps := 300000) (disch := omega) only [gs, gs2, gs3, gs4, ↓reduceIte, Nat.reduceEqDiff, Int.reduceToNat, Nat.reduceMul, Nat.reduceAdd, Nat.reduceBEq, isLd, e2, e3, e4, e6, e7, e9, e33, e34, e35, e40, e41, e42, hjj]
      obtain rfl : j = b.rows.length := by omega
      rw [List.take_length] at hX
      exact ⟨m - 1, by omega, G'', Sub.refl _, k + 1, Z, z, hz, rfl, by omega, by omega, by rw [joinR_snoc (by omega)]; exact hX⟩
  · obtain rfl : k = a.rows.length := by omega
    rw [List.take_length] at hX hlenR
    have f51 : rd G' (some ⟨b5, 1, none⟩) = some (.slice Z (joinR a b a.rows).length z) := rd_sub hX.sub (rd_box _ _ _ 1 _ rfl)
    simp (maxSteps := 300000) (disch := omega) only [gs, gs2, gs3, gs4, ↓reduceIte, Nat.reduceEqDiff, Int.reduceToNat, Nat.reduceMul, Nat.reduceAdd, Nat.reduceBEq, isLd, e2, e3, e4, e6, e7, e33, e34, e35, hkk, f51]
    by_cases hfull : (24 : Int) < (joinR a b a.rows).length
    · simp (maxSteps := 300000) (disch := omega) only [gs, gs2, gs3, gs4, ↓reduceIte, Nat.reduceEqDiff, Int.reduceToNat, Nat.reduceMul, Nat.reduceAdd, Nat.reduceBEq, isLd, e2, e3, e4, e6, e7, hfull, f51, hbz]
      refine st_many (vs := [.slice none 0 0, .slice none 0 0]) rfl (hX.low _ _ g4') rfl (by simp) (by intro v hv; simp at hv; subst hv; rfl) ?_
      simp only [over, List.set_cons_zero, List.set_cons_succ]
      simp (maxSteps := 300000) (disch := omega) only [gs, gs2, gs3, gs4, ↓reduceIte, Nat.reduceEqDiff, Int.reduceToNat, Nat.reduceMul, Nat.reduceAdd, Nat.reduceBEq, isLd, e4, k0, k1]
      rw [joinV_full ⟨hoa, hob⟩ (by omega)] at hk
      exact ⟨G, (sH.trans hX.low).skip n4, hk _ _ _ _ _ _ (NewT.nil G fun _ => (none, 0))⟩
    · rw [joinV_yes ⟨hoa, hob⟩ (by omega)] at hk
      simp (maxSteps := 300000) (disch := omega) only [gs, gs2, gs3, gs4, ↓reduceIte, Nat.reduceEqDiff, Int.reduceToNat, Nat.reduceMul, Nat.reduceAdd, Nat.reduceBEq, isLd, e2, e3, e4, e6, e7, hfull, f51]
      refine impl_sortedRows_ok hX.own (by omega) (fun i hi => ?_) fun G6 hs6 s6 hO6 hj6 => ?_
      · have := joinR_row (a := a) (b := b) (xs := a.rows) (r := (joinR a b a.rows).getD i []) (by simp [List.getD, hi])
        omega
      simp (maxSteps := 300000) (disch := omega) only [gs, gs2, gs3, gs4, ↓reduceIte, Nat.reduceEqDiff, Int.reduceToNat, Nat.reduceMul, Nat.reduceAdd, Nat.reduceBEq, isLd, e2, e3, e4, e6, e7]
      refine hX.sorted s6 hO6 hj6 fun G7 hX7 => ?_
      have f50 : rd G7 (some ⟨b5, 0, none⟩) = some (.slice A1 (jcols a b).length c1) := rd_sub hX7.sub (rd_box _ _ _ 0 _ rfl)
      have f51 : rd G7 (some ⟨b5, 1, none⟩) = some (.slice Z (srt (joinR a b a.rows)).length z) := rd_sub hX7.sub (rd_box _ _ _ 1 _ rfl)
      simp (maxSteps := 300000) (disch := omega) only [gs, gs2, gs3, gs4, ↓reduceIte, Nat.reduceEqDiff, Int.reduceToNat, Nat.reduceMul, Nat.reduceAdd, Nat.reduceBEq, isLd, e2, e3, e4, e6, e7, f50, f51]
      refine st_many (vs := [.slice A1 (jcols a b).length c1, .slice Z (srt (joinR a b a.rows)).length z]) rfl (hX7.low _ _ g4') rfl (by simp) one2 ?_
      simp only [over, List.set_cons_zero, List.set_cons_succ]
      have k0 : rd (put G7 b4 ⟨[.slice A1 (jcols a b).length c1, .slice Z (srt (joinR a b a.rows)).length z], true⟩) (some ⟨b4, 0, none⟩) = some (.slice A1 (jcols a b).length c1) := rd_box _ _ _ 0 _ rfl
      have k1 : rd (put G7 b4 ⟨[.slice A1 (jcols a b).length c1, .slice Z (srt (joinR a b a.rows)).length z], true⟩) (some ⟨b4, 1, none⟩) = some (.slice Z (srt (joinR a b a.rows)).length z) := rd_box _ _ _ 1 _ rfl
      simp (maxSteps := 300000) (disch := omega) only [gs, gs2, gs3, gs4, ↓reduceIte, Nat.reduceEqDiff, Int.reduceToNat, Nat.reduceMul, Nat.reduceAdd, Nat.reduceBEq, isLd, e4, k0, k1]
      exact ⟨_, Sub.refl _, hk _ _ _ _ _ _ (hX7.newT (N := joinT a b) sH hA1 oA1 ((sH.trans hX7.low).skip n4) (Oth.put _ _ _) n41 (fun x hx => by subst hx; rw [g4']; simp))⟩
theorem cellAt_app {a b x y : List Int} {v : Int} (h : x.length = a.length) : cellAt (a ++ b) (x ++ y) v = if v ∈ a then cellAt a x v else cellAt b y v := by
  unfold cellAt
  by_cases hv : v ∈ a
  · have hlt := List.idxOf_lt_length_iff.2 hv
    rw [if_pos hv, List.idxOf_append, if_pos hv]
    simp only [List.getD]
    rw [List.getElem?_append_left (by omega)]
  · rw [if_neg hv, List.idxOf_append, if_neg hv]
    simp only [List.getD]
    rw [List.getElem?_append_right (by omega)]
    congr 2; omega
theorem cellAt_in {a x : List Int} {v : Int} (h : x.length = a.length) (hb : InB x 0 3) (hv : v ∈ a) : 0 ≤ cellAt a x v := by
  have hlt := List.idxOf_lt_length_iff.2 hv
  exact (hb _ (by omega)).1
theorem join_cell {a b x y : List Int} {v w1 w2 : Int} (hx : x.length = a.length) (hy : y.length = b.length) (bx : InB x 0 3) (by' : InB y 0 3) (hf : FitP a b x y) (hv : v ∈ a ∨ v ∈ b)
    (h1 : v ∈ a → w1 = cellAt a x v) (h1' : ¬ v ∈ a → w1 = -1) (h2 : v ∈ b → w2 = cellAt b y v) (h2' : ¬ v ∈ b → w2 = -1) : max w1 w2 = cellAt (a ++ b) (x ++ y) v := by
  rw [cellAt_app hx]
  by_cases ha : v ∈ a
  · rw [if_pos ha, h1 ha]
    by_cases hb : v ∈ b
    · rw [h2 hb, ← hf v ha hb]; exact Int.max_self _
    · rw [h2' hb]
      have := cellAt_in hx bx ha
      omega
  · rw [if_neg ha, h1' ha]
    have hb : v ∈ b := hv.resolve_left ha
    rw [h2 hb]
    have := cellAt_in hy by' hb
    omega
theorem rise_idx {a : List Int} (h : Rise a) {i : Nat} (hi : i < a.length) : a.idxOf (a.getD i 0) = i := by
  have hp := rise_pw.1 h
  have hm : a.getD i 0 ∈ a := by simp [List.getD, hi]
  have hlt := List.idxOf_lt_length_iff.2 hm
  have he : a[a.idxOf (a.getD i 0)] = a.getD i 0 := List.getElem_idxOf hlt
  have hg : a.getD i 0 = a[i] := by simp [List.getD, hi]
  rw [List.pairwise_iff_getElem] at hp
  rcases Nat.lt_trichotomy (a.idxOf (a.getD i 0)) i with q | q | q
  · have := hp _ _ hlt hi q; omega
  · exact q
  · have := hp _ _ hi hlt q; omega
theorem row_ext {a x x' : List Int} (h : Rise a) (hx : x.length = a.length) (hx' : x'.length = a.length) (he : ∀ v ∈ a, cellAt a x v = cellAt a x' v) : x = x' := by
  apply List.ext_getElem (by omega)
  intro i h1 h2
  have := he (a.getD i 0) (by simp [List.getD, show i < a.length by omega])
  unfold cellAt at this
  rw [rise_idx h (by omega)] at this
  simpa [List.getD, h1, h2] using this
theorem joinRow_cell {a b : Tab} {x y x' y' : List Int} (h : joinRow a b x y = joinRow a b x' y') (ha : Rise a.cols) {v : Int} (hv : v ∈ a.cols ∨ v ∈ b.cols) : cellAt (a.cols ++ b.cols) (x ++ y) v = cellAt (a.cols ++ b.cols) (x' ++ y') v :=
  List.map_inj_left.1 h v (((uniL_spec b.cols (rise_pw.1 ha)).2.1 v).2 hv)
theorem tab_rows {t : Tab} (h : TabOk t) {x : List Int} (hx : x ∈ t.rows) : x.length = t.cols.length ∧ InB x 0 3 := by
  obtain ⟨i, hi, rfl⟩ := List.mem_iff_getElem.1 hx
  have := h.2.2.2.1 i hi
  rwa [show t.rows.getD i [] = t.rows[i] by simp [List.getD, hi]] at this
theorem tab_asc {t : Tab} (h : TabOk t) : Asc t.rows := by
  unfold Asc
  rw [List.pairwise_iff_getElem]
  intro i j hi hj hij
  have h5 := h.2.2.2.2
  have key : ∀ d, i + d + 1 < t.rows.length → lexC (t.rows.getD i []) (t.rows.getD (i + d + 1) []) < 0 := by
    intro d
    induction d with
    | zero => intro hd; exact h5 i (by omega)
    | succ d ih => intro hd; exact lexC_trans (ih (by omega)) (h5 (i + d + 1) (by omega))
  have := key (j - i - 1) (by omega)
  rw [show i + (j - i - 1) + 1 = j by omega] at this
  simpa [List.getD, hi, hj] using this
theorem asc_nodup {xss : List (List Int)} (h : Asc xss) : xss.Nodup := h.imp fun {a b} q e => by rw [e, lexC_self] at q; omega
theorem joinR_nodup {a b : Tab} (ha : TabOk a) (hb : TabOk b) : (joinR a b a.rows).Nodup := by
  unfold joinR
  rw [List.Nodup, List.pairwise_flatMap]
  constructor
  · intro x hx
    unfold joinP
    rw [List.pairwise_map]
    refine (((asc_nodup (tab_asc hb)).filter _)).imp_of_mem fun {y y'} hy hy' hne he => hne ?_
    obtain ⟨m1, f1⟩ := List.mem_filter.1 hy
    obtain ⟨m2, f2⟩ := List.mem_filter.1 hy'
    have f1 : FitP a.cols b.cols x y := by simpa using f1
    have f2 : FitP a.cols b.cols x y' := by simpa using f2
    obtain ⟨lx, _⟩ := tab_rows ha hx
    refine row_ext hb.1 (tab_rows hb m1).1 (tab_rows hb m2).1 fun v hv => ?_
    have := joinRow_cell he ha.1 (.inr hv)
    rw [cellAt_app lx, cellAt_app lx] at this
    by_cases hva : v ∈ a.cols
    · rw [← f1 v hva hv, ← f2 v hva hv]
    · rw [if_neg hva, if_neg hva] at this; exact this
  · refine (asc_nodup (tab_asc ha)).imp_of_mem fun {x x'} hx hx' hne z hz z' hz' he => hne ?_
    unfold joinP at hz hz'
    obtain ⟨y, _, rfl⟩ := List.mem_map.1 hz
    obtain ⟨y', _, rfl⟩ := List.mem_map.1 hz'
    obtain ⟨lx, _⟩ := tab_rows ha hx
    obtain ⟨lx', _⟩ := tab_rows ha hx'
    refine row_ext ha.1 lx lx' fun v hv => ?_
    have := joinRow_cell he ha.1 (.inl hv)
    rw [cellAt_app lx, cellAt_app lx', if_pos hv, if_pos hv] at this
    exact this
theorem srt_nodup {xss : List (List Int)} (h : xss.Nodup) : (srt xss).length = xss.length :=
  ((List.perm_ext_iff_of_nodup (asc_nodup (srt_asc xss)) h).2 fun z => srt_mem).length_eq
theorem spec_JoinTables_ok {G : GH} {a b : Tab} {A B A' B' : Option Addr} {c d c' d' : Nat} {hs hs' : Nat → Option Addr × Nat} (h : IntS G A c a.cols) (hr : RowS G B d hs a.rows) (h' : IntS G A' c' b.cols) (hr' : RowS G B' d' hs' b.rows) (hl : a.cols.length < 2 ^ 40) (hl' : b.cols.length < 2 ^ 40) (ha : Sh a.rows) (hb : Sh b.rows)
    {K : Value → GH → Prop} (hk : TI (joinV a b) K G) : GC Try.prog 29 [tabV a A c B d, tabV b A' c' B' d'] G K := by
  refine GC_drop (c_spec_JoinTables_i (by simp) ?_)
  have fb : ∀ {G' : GH} {q : Nat} {N : Tab} {A B : Option Addr} {c d : Nat} {hs : Nat → Option Addr × Nat}, TabP G' (some ⟨q, 0, none⟩) N A c B d hs → rd G' (some ⟨q, 1, none⟩) = some (.slice B N.rows.length d) := fun h => by
    have := h.f1; rwa [pa_mk] at this
  have one2 : ∀ {X Y : Option Addr} {a b x y : Nat}, ∀ v ∈ [Value.slice X a x, Value.slice Y b y], oneB v = true := fun v hv => by simp at hv; rcases hv with rfl | rfl <;> rfl
  unfold tabV tabC
  simp (maxSteps := 300000) (disch := omega) only [gs, gs2, gs3, gs4, ↓reduceIte, Nat.reduceEqDiff, Int.reduceToNat, Nat.reduceMul, Nat.reduceAdd, Nat.reduceBEq, isLd]
  intro b2 hb2
  have p2 := TabP.box hb2 h hr
  have s2 := Sub.put hb2 ⟨tabC a A c B d, true⟩
  unfold tabC at p2 s2
  simp (maxSteps := 300000) (disch := omega) only [gs, gs2, gs3, gs4, ↓reduceIte, Nat.reduceEqDiff, Int.reduceToNat, Nat.reduceMul, Nat.reduceAdd, Nat.reduceBEq, isLd]
  intro b3 hb3
  have p3 := TabP.box hb3 (h'.sub s2) (hr'.sub s2)
  have s3 := Sub.put hb3 ⟨tabC b A' c' B' d', true⟩
  unfold tabC at p3 s3
  have p2 := p2.sub s3
  have s1 := s2.trans s3
  revert s1 p2 p3
  generalize put (put G b2 ⟨[.slice A a.cols.length c, .slice B a.rows.length d], true⟩) b3 ⟨[.slice A' b.cols.length c', .slice B' b.rows.length d'], true⟩ = G1
  intro p3 p2 s1
  clear hb2 hb3 s2 s3
  simp (maxSteps := 300000) (disch := omega) only [gs, gs2, gs3, gs4, ↓reduceIte, Nat.reduceEqDiff, Int.reduceToNat, Nat.reduceMul, Nat.reduceAdd, Nat.reduceBEq, isLd]
  intro b4 hb4
  have s4 := Sub.put hb4 ⟨[.slice none 0 0, .slice none 0 0], true⟩
  have g4 := put_same G1 b4 ⟨[.slice none 0 0, .slice none 0 0], true⟩
  have p2 := p2.sub s4
  have p3 := p3.sub s4
  have s1' := s1.trans s4
  have n4 : G b4 = none := s1.none hb4
  revert s1' p2 p3 g4
  generalize put G1 b4 ⟨[.slice none 0 0, .slice none 0 0], true⟩ = G2
  intro g4 p2 p3 s1'
  clear s4
  have k0 : ∀ {G' : GH} {x y : Value}, rd (put G' b4 ⟨[x, y], true⟩) (some ⟨b4, 0, none⟩) = some x := rd_box _ _ _ 0 _ rfl
  have k1 : ∀ {G' : GH} {x y : Value}, rd (put G' b4 ⟨[x, y], true⟩) (some ⟨b4, 1, none⟩) = some y := rd_box _ _ _ 1 _ rfl
  have hbe : bldV [Value.slice none 0 0, Value.slice none 0 0] [] = some [Value.slice none 0 0, Value.slice none 0 0] := rfl
  simp (maxSteps := 300000) (disch := omega) only [gs, gs2, gs3, gs4, ↓reduceIte, Nat.reduceEqDiff, Int.reduceToNat, Nat.reduceMul, Nat.reduceAdd, Nat.reduceBEq, isLd]
  refine spec_l20Ok_ok p2 hl ha fun z hz => ?_
  cases z
  · simp (maxSteps := 300000) (disch := omega) only [gs, gs2, gs3, gs4, ↓reduceIte, Nat.reduceEqDiff, Int.reduceToNat, Nat.reduceMul, Nat.reduceAdd, Nat.reduceBEq, isLd, hbe]
    refine st_many (vs := [.slice none 0 0, .slice none 0 0]) rfl g4 rfl (by simp) (by intro v hv; simp at hv; subst hv; rfl) ?_
    simp only [over, List.set_cons_zero, List.set_cons_succ]
    simp (maxSteps := 300000) (disch := omega) only [gs, gs2, gs3, gs4, ↓reduceIte, Nat.reduceEqDiff, Int.reduceToNat, Nat.reduceMul, Nat.reduceAdd, Nat.reduceBEq, isLd, k0, k1]
    have hno : ¬ (TabOk a ∧ TabOk b) := fun y => by have := hz.2 y.1; simp at this
    rw [joinV_no hno] at hk
    exact ⟨G, s1'.skip n4, hk _ _ _ _ _ _ (NewT.nil G fun _ => (none, 0))⟩
  have hoa := hz.1 rfl
  simp (maxSteps := 300000) (disch := omega) only [gs, gs2, gs3, gs4, ↓reduceIte, Nat.reduceEqDiff, Int.reduceToNat, Nat.reduceMul, Nat.reduceAdd, Nat.reduceBEq, isLd]
  refine spec_l20Ok_ok p3 hl' hb fun z hz => ?_
  cases z
  · simp (maxSteps := 300000) (disch := omega) only [gs, gs2, gs3, gs4, ↓reduceIte, Nat.reduceEqDiff, Int.reduceToNat, Nat.reduceMul, Nat.reduceAdd, Nat.reduceBEq, isLd, hbe]
    refine st_many (vs := [.slice none 0 0, .slice none 0 0]) rfl g4 rfl (by simp) (by intro v hv; simp at hv; subst hv; rfl) ?_
    simp only [over, List.set_cons_zero, List.set_cons_succ]
    simp (maxSteps := 300000) (disch := omega) only [gs, gs2, gs3, gs4, ↓reduceIte, Nat.reduceEqDiff, Int.reduceToNat, Nat.reduceMul, Nat.reduceAdd, Nat.reduceBEq, isLd, k0, k1]
    have hno : ¬ (TabOk a ∧ TabOk b) := fun y => by have := hz.2 y.2; simp at this
    rw [joinV_no hno] at hk
    exact ⟨G, s1'.skip n4, hk _ _ _ _ _ _ (NewT.nil G fun _ => (none, 0))⟩
  have hob := hz.1 rfl
  obtain ⟨ra, ca, na⟩ := hoa.rowL
  obtain ⟨rb, cb, nb⟩ := hob.rowL
  have hjl := jcols_len (b := b) hoa.1
  have hjm := jcols_mem (b := b) hoa.1
  simp (maxSteps := 300000) (disch := omega) only [gs, gs2, gs3, gs4, ↓reduceIte, Nat.reduceEqDiff, Int.reduceToNat, Nat.reduceMul, Nat.reduceAdd, Nat.reduceBEq, isLd, p2.f0, p3.f0]
  refine spec_l20Columns_ok p2.cols p3.cols hoa.1 (by omega) fun H A1 c1 hN1 => ?_
  have ejc : uniL a.cols b.cols = jcols a b := rfl
  rw [ejc] at hN1 ⊢
  have p2 := p2.sub hN1.sub
  have p3 := p3.sub hN1.sub
  have g4' := hN1.sub _ _ g4
  simp (maxSteps := 300000) (disch := omega) only [gs, gs2, gs3, gs4, ↓reduceIte, Nat.reduceEqDiff, Int.reduceToNat, Nat.reduceMul, Nat.reduceAdd, Nat.reduceBEq, isLd, gBs]
  refine ⟨fun v hv => (by cases hv), fun bz hbz => ?_⟩
  have hbl : bldV [Value.slice none 0 0, Value.slice none 0 0] [(0, 1, Value.slice A1 (jcols a b).length c1), (1, 1, Value.slice (some ⟨bz, 0, none⟩) 0 0)] = some [Value.slice A1 (jcols a b).length c1, .slice (some ⟨bz, 0, none⟩) 0 0] := rfl
  simp (maxSteps := 300000) (disch := omega) only [gs, gs2, gs3, gs4, ↓reduceIte, Nat.reduceEqDiff, Int.reduceToNat, Nat.reduceMul, Nat.reduceAdd, Nat.reduceBEq, isLd, hbl]
  intro b5 hb5
  simp (maxSteps := 300000) (disch := omega) only [gs, gs2, gs3, gs4, ↓reduceIte, Nat.reduceEqDiff, Int.reduceToNat, Nat.reduceMul, Nat.reduceAdd, Nat.reduceBEq, isLd]
  refine st_fresh (vs := [.slice A1 (jcols a b).length c1, .slice (some ⟨bz, 0, none⟩) 0 0]) rfl rfl rfl one2 ?_
  have n5z : b5 ≠ bz := (put_none.1 hb5).1
  have hb5' : H b5 = none := (put_none.1 hb5).2
  have hX0 : SemG H (put (put H bz ⟨[], true⟩) b5 ⟨[.slice A1 (jcols a b).length c1, .slice (some ⟨bz, 0, none⟩) 0 0], true⟩) b5 A1 (jcols a b).length c1 (some ⟨bz, 0, none⟩) 0 (fun _ => (none, 0)) [] := by
    refine ⟨hb5', fun x e hx => ?_, ⟨.inr ⟨bz, [], rfl, by rw [put_ne _ _ n5z.symm]; exact put_same _ _ _, rfl, rfl, Nat.le_refl _⟩, fun i hi => by simp at hi, fun i hi => by simp at hi, fun i j hi => by simp at hi⟩, fun a ha => by cases ha; rw [put_ne _ _ n5z.symm]; exact hbz, fun i hi => by simp at hi⟩
    by_cases c : x = b5
    · subst c; rw [put_same] at hx ⊢; exact hx
    · rw [put_ne _ _ c] at hx ⊢
      rw [put_ne _ _ (fun y => by subst y; rw [hbz] at hx; cases hx)]; exact hx
  have sH := s1'.trans hN1.sub
  have hA1 : Own H A1 c1 ((jcols a b).map I64) 1 (jcols a b).length := hN1.fresh
  have oA1 : Off G A1 := hN1.off.mono s1'
  have n41 : ∀ x, A1 = some x → x.block ≠ b4 := fun x hx y => by have := hN1.off x hx; rw [y, g4] at this; cases this
  have iA1 := hN1.ints
  clear hN1 g4
  have e0 : (put (put H bz ⟨List.flatMap (fun v : Value => v.cells.toList) [], true⟩) b5 ⟨[.slice A1 (jcols a b).length c1, .slice (some ⟨bz, 0, none⟩) 0 0], true⟩) = (put (put H bz ⟨[], true⟩) b5 ⟨[.slice A1 (jcols a b).length c1, .slice (some ⟨bz, 0, none⟩) 0 0], true⟩) := rfl
  try rw [e0]
  generalize put (put H bz ⟨[], true⟩) b5 ⟨[.slice A1 (jcols a b).length c1, .slice (some ⟨bz, 0, none⟩) 0 0], true⟩ = G3 at hX0 ⊢
  simp (maxSteps := 300000) (disch := omega) only [gs, gs2, gs3, gs4, ↓reduceIte, Nat.reduceEqDiff, Int.reduceToNat, Nat.reduceMul, Nat.reduceAdd, Nat.reduceBEq, isLd]
  refine gLoop_intro (fun m T G' => ∃ (k : Nat) (Z : Option Addr) (z : Nat) (hz : Nat → Option Addr × Nat), T 2 = .pointer (some ⟨b2, 0, none⟩) ∧ T 3 = .pointer (some ⟨b3, 0, none⟩) ∧ T 4 = .pointer (some ⟨b4, 0, none⟩) ∧ T 6 = .pointer (some ⟨b5, 0, none⟩) ∧ T 7 = .int .i64 k ∧ m + k = a.rows.length ∧ k ≤ a.rows.length ∧
      SemG H G' b5 A1 (jcols a b).length c1 Z z hz (srt (joinR a b (a.rows.take k)))) a.rows.length
    ⟨0, _, 0, _, by simp (maxSteps := 300000) (disch := omega) only [gs, gs2, gs3, gs4, ↓reduceIte, Nat.reduceEqDiff, Int.reduceToNat, Nat.reduceMul, Nat.reduceAdd, Nat.reduceBEq, isLd], by simp (maxSteps := 300000) (disch := omega) only [gs, gs2, gs3, gs4, ↓reduceIte, Nat.reduceEqDiff, Int.reduceToNat, Nat.reduceMul, Nat.reduceAdd, Nat.reduceBEq, isLd], by simp (maxSteps := 300000) (disch := omega) only [gs, gs2, gs3, gs4, ↓reduceIte, Nat.reduceEqDiff, Int.reduceToNat, Nat.reduceMul, Nat.reduceAdd, Nat.reduceBEq, isLd], by simp (maxSteps := 300000) (disch := omega) only [gs, gs2, gs3, gs4, ↓reduceIte, Nat.reduceEqDiff, Int.reduceToNat, Nat.reduceMul, Nat.reduceAdd, Nat.reduceBEq, isLd], by simp (maxSteps := 300000) (disch := omega) only [gs, gs2, gs3, gs4, ↓reduceIte, Nat.reduceEqDiff, Int.reduceToNat, Nat.reduceMul, Nat.reduceAdd, Nat.reduceBEq, isLd] <;> rfl, by omega, by omega, hX0⟩ ?_
  clear hX0
  rintro m T G' ⟨k, Z, z, hz, e2, e3, e4, e6, e7, hm, hkl, hX⟩
  have q2 := p2.sub hX.low
  have hlenR : (joinR a b (a.rows.take k)).length ≤ k * 24 := Nat.le_trans (joinR_len _ _ _) (by rw [List.length_take]; exact Nat.mul_le_mul (Nat.min_le_left _ _) nb)
  simp (maxSteps := 300000) (disch := omega) only [gs, gs2, gs3, gs4, ↓reduceIte, Nat.reduceEqDiff, Int.reduceToNat, Nat.reduceMul, Nat.reduceAdd, Nat.reduceBEq, isLd, e2, e3, e4, e6, e7, fb q2]
  by_cases hkk : (k : Int) < a.rows.length
  · simp (maxSteps := 300000) (disch := omega) only [gs, gs2, gs3, gs4, ↓reduceIte, Nat.reduceEqDiff, Int.reduceToNat, Nat.reduceMul, Nat.reduceAdd, Nat.reduceBEq, isLd, e2, e3, e4, e6, e7, fb q2, hkk]
    refine gLoop_intro (fun m' T' G'' => ∃ (j : Nat) (Z : Option Addr) (z : Nat) (hz : Nat → Option Addr × Nat), T' 2 = .pointer (some ⟨b2, 0, none⟩) ∧ T' 3 = .pointer (some ⟨b3, 0, none⟩) ∧ T' 4 = .pointer (some ⟨b4, 0, none⟩) ∧ T' 6 = .pointer (some ⟨b5, 0, none⟩) ∧ T' 7 = .int .i64 k ∧ T' 8 = .int .i64 j ∧ m' + j = b.rows.length ∧ j ≤ b.rows.length ∧
        SemG H G'' b5 A1 (jcols a b).length c1 Z z hz (srt (joinR a b (a.rows.take k) ++ joinP a b (a.rows.getD k []) (b.rows.take j)))) b.rows.length
      ⟨0, Z, z, hz, by simp (maxSteps := 300000) (disch := omega) only [gs, gs2, gs3, gs4, ↓reduceIte, Nat.reduceEqDiff, Int.reduceToNat, Nat.reduceMul, Nat.reduceAdd, Nat.reduceBEq, isLd, e2], by simp (maxSteps := 300000) (disch := omega) only [gs, gs2, gs3, gs4, ↓reduceIte, Nat.reduceEqDiff, Int.reduceToNat, Nat.reduceMul, Nat.reduceAdd, Nat.reduceBEq, isLd, e3], by simp (maxSteps := 300000) (disch := omega) only [gs, gs2, gs3, gs4, ↓reduceIte, Nat.reduceEqDiff, Int.reduceToNat, Nat.reduceMul, Nat.reduceAdd, Nat.reduceBEq, isLd, e4], by simp (maxSteps := 300000) (disch := omega) only [gs, gs2, gs3, gs4, ↓reduceIte, Nat.reduceEqDiff, Int.reduceToNat, Nat.reduceMul, Nat.reduceAdd, Nat.reduceBEq, isLd, e6], by simp (maxSteps := 300000) (disch := omega) only [gs, gs2, gs3, gs4, ↓reduceIte, Nat.reduceEqDiff, Int.reduceToNat, Nat.reduceMul, Nat.reduceAdd, Nat.reduceBEq, isLd, e7], by simp (maxSteps := 300000) (disch := omega) only [gs, gs2, gs3, gs4, ↓reduceIte, Nat.reduceEqDiff, Int.reduceToNat, Nat.reduceMul, Nat.reduceAdd, Nat.reduceBEq, isLd] <;> rfl, by omega, by omega, by rw [show joinP a b (a.rows.getD k []) (b.rows.take 0) = [] by simp [joinP], List.append_nil]; exact hX⟩ ?_
    clear e2 e3 e4 e6 e7 hX q2 Z z hz
    rintro m' T' G'' ⟨j, Z, z, hz, e2, e3, e4, e6, e7, e8, hm', hjl, hX⟩
    have q2 := p2.sub hX.low
    have q3 := p3.sub hX.low
    have hlenP := joinP_len a b (a.rows.getD k []) (b.rows.take j)
    rw [List.length_take] at hlenP
    have hlen : (srt (joinR a b (a.rows.take k) ++ joinP a b (a.rows.getD k []) (b.rows.take j))).length < 2 ^ 18 := by
      have := srt_len (joinR a b (a.rows.take k) ++ joinP a b (a.rows.getD k []) (b.rows.take j))
      rw [List.length_append] at this; omega
    simp (maxSteps := 300000) (disch := omega) only [gs, gs2, gs3, gs4, ↓reduceIte, Nat.reduceEqDiff, Int.reduceToNat, Nat.reduceMul, Nat.reduceAdd, Nat.reduceBEq, isLd, e2, e3, e4, e6, e7, e8, fb q3]
    by_cases hjj : (j : Int) < b.rows.length
    · have ri := q2.rows.r k (by omega)
      have hsB := q2.rows.sn (by omega)
      have rj := q3.rows.r j (by omega)
      have hsB' := q3.rows.sn (by omega)
      have hxl := ra k (by omega)
      have hyl := rb j (by omega)
      have hps := joinP_snoc (a := a) (b := b) (x := a.rows.getD k []) (k := j) (by omega)
      simp (maxSteps := 300000) (disch := omega) only [gs, gs2, gs3, gs4, ↓reduceIte, Nat.reduceEqDiff, Int.reduceToNat, Nat.reduceMul, Nat.reduceAdd, Nat.reduceBEq, isLd, e2, e3, e4, e6, e7, e8, fb q3, fb q2, hjj, hkk, ri, rj]
      refine spec_l20Fit_ok q2 q3 (q2.rows.row k (by omega)) (q3.rows.row j (by omega)) hoa.1 (by omega) (by omega) hxl hyl (hob.2.2.2.1 j (by omega)).2 fun w hw => ?_
      cases w
      · simp (maxSteps := 300000) (disch := omega) only [gs, gs2, gs3, gs4, ↓reduceIte, Nat.reduceEqDiff, Int.reduceToNat, Nat.reduceMul, Nat.reduceAdd, Nat.reduceBEq, isLd, e2, e3, e4, e6, e7, e8, fb q3, fb q2, hjj, hkk, ri, rj]
        refine ⟨m' - 1, by omega, G'', Sub.refl _, j + 1, Z, z, hz, rfl, by omega, by omega, ?_⟩
        rw [hps.2 fun y => by have := hw.2 y; cases this]; exact hX
      · have hfit := hw.1 rfl
        simp (maxSteps := 300000) (disch := omega) only [gs, gs2, gs3, gs4, ↓reduceIte, Nat.reduceEqDiff, Int.reduceToNat, Nat.reduceMul, Nat.reduceAdd, Nat.reduceBEq, isLd, e2, e3, e4, e6, e7, e8, fb q3, fb q2, hjj, hkk, ri, rj, gBs]
        refine ⟨fun v hv => (by cases hv), fun by' hby => ?_⟩
        refine gLoop_intro (fun m'' T'' G4 => ∃ (l : Nat) (Zr : Option Addr) (zr : Nat), T'' 2 = .pointer (some ⟨b2, 0, none⟩) ∧ T'' 3 = .pointer (some ⟨b3, 0, none⟩) ∧ T'' 4 = .pointer (some ⟨b4, 0, none⟩) ∧ T'' 6 = .pointer (some ⟨b5, 0, none⟩) ∧ T'' 7 = .int .i64 k ∧ T'' 8 = .int .i64 j ∧ T'' 9 = .slice Zr l zr ∧ T'' 10 = .int .i64 l ∧ m'' + l = (jcols a b).length ∧ l ≤ (jcols a b).length ∧ Sub G'' G4 ∧ Off G'' Zr ∧
            Own G4 Zr zr ((((jcols a b).take l).map (cellAt (a.cols ++ b.cols) (a.rows.getD k [] ++ b.rows.getD j []))).map I64) 1 l) (jcols a b).length
          ⟨0, some ⟨by', 0, none⟩, 0, by simp (maxSteps := 300000) (disch := omega) only [gs, gs2, gs3, gs4, ↓reduceIte, Nat.reduceEqDiff, Int.reduceToNat, Nat.reduceMul, Nat.reduceAdd, Nat.reduceBEq, isLd, e2], by simp (maxSteps := 300000) (disch := omega) only [gs, gs2, gs3, gs4, ↓reduceIte, Nat.reduceEqDiff, Int.reduceToNat, Nat.reduceMul, Nat.reduceAdd, Nat.reduceBEq, isLd, e3], by simp (maxSteps := 300000) (disch := omega) only [gs, gs2, gs3, gs4, ↓reduceIte, Nat.reduceEqDiff, Int.reduceToNat, Nat.reduceMul, Nat.reduceAdd, Nat.reduceBEq, isLd, e4], by simp (maxSteps := 300000) (disch := omega) only [gs, gs2, gs3, gs4, ↓reduceIte, Nat.reduceEqDiff, Int.reduceToNat, Nat.reduceMul, Nat.reduceAdd, Nat.reduceBEq, isLd, e6], by simp (maxSteps := 300000) (disch := omega) only [gs, gs2, gs3, gs4, ↓reduceIte, Nat.reduceEqDiff, Int.reduceToNat, Nat.reduceMul, Nat.reduceAdd, Nat.reduceBEq, isLd, e7], by simp (maxSteps := 300000) (disch := omega) only [gs, gs2, gs3, gs4, ↓reduceIte, Nat.reduceEqDiff, Int.reduceToNat, Nat.reduceMul, Nat.reduceAdd, Nat.reduceBEq, isLd, e8], by simp (maxSteps := 300000) (disch := omega) only [gs, gs2, gs3, gs4, ↓reduceIte, Nat.reduceEqDiff, Int.reduceToNat, Nat.reduceMul, Nat.reduceAdd, Nat.reduceBEq, isLd] <;> rfl, by simp (maxSteps := 300000) (disch := omega) only [gs, gs2, gs3, gs4, ↓reduceIte, Nat.reduceEqDiff, Int.reduceToNat, Nat.reduceMul, Nat.reduceAdd, Nat.reduceBEq, isLd] <;> rfl, by omega, by omega, Sub.put hby _, fun a ha => (by cases ha; exact hby), Own.blk (put_same _ _ _) rfl⟩ ?_
        clear e2 e3 e4 e6 e7 e8
        rintro m'' T'' G4 ⟨l, Zr, zr, e2, e3, e4, e6, e7, e8, e9, e10, hm'', hll, hS, hO, hW⟩
        have hX5 := rd_sub (hX.sub.trans hS) (rd_box H b5 [.slice A1 (jcols a b).length c1, .slice Z (srt (joinR a b (a.rows.take k) ++ joinP a b (a.rows.getD k []) (b.rows.take j))).length z] 0 _ rfl)
        have hX6 := rd_sub (hX.sub.trans hS) (rd_box H b5 [.slice A1 (jcols a b).length c1, .slice Z (srt (joinR a b (a.rows.take k) ++ joinP a b (a.rows.getD k []) (b.rows.take j))).length z] 1 _ rfl)
        simp (maxSteps := 300000) (disch := omega) only [gs, gs2, gs3, gs4, ↓reduceIte, Nat.reduceEqDiff, Int.reduceToNat, Nat.reduceMul, Nat.reduceAdd, Nat.reduceBEq, isLd, e2, e3, e4, e6, e7, e8, e9, e10, hX5]
        by_cases hll' : (l : Int) < (jcols a b).length
        · have t2 := q2.sub hS
          have t3 := q3.sub hS
          have ri := t2.rows.r k (by omega)
          have rj := t3.rows.r j (by omega)
          have rc := ((iA1.sub hX.low).sub hS).rd l (by omega)
          have hsc := ((iA1.sub hX.low).sub hS).sn (by omega)
          simp (maxSteps := 300000) (disch := omega) only [gs, gs2, gs3, gs4, ↓reduceIte, Nat.reduceEqDiff, Int.reduceToNat, Nat.reduceMul, Nat.reduceAdd, Nat.reduceBEq, isLd, e2, e3, e4, e6, e7, e8, e9, e10, hX5, hll', hkk, hjj, t2.f0, fb t2, t3.f0, fb t3, ri, rj, rc]
          refine spec_l20Cell_ok t2.cols (t2.rows.row k (by omega)) hxl (by omega) fun w1 hw1 hw1' => ?_
          simp (maxSteps := 300000) (disch := omega) only [gs, gs2, gs3, gs4, ↓reduceIte, Nat.reduceEqDiff, Int.reduceToNat, Nat.reduceMul, Nat.reduceAdd, Nat.reduceBEq, isLd, e2, e3, e4, e6, e7, e8, e9, e10, hX5, hll', hkk, hjj, t2.f0, fb t2, t3.f0, fb t3, ri, rj, rc]
          refine spec_l20Cell_ok t3.cols (t3.rows.row j (by omega)) hyl (by omega) fun w2 hw2 hw2' => ?_
          simp (maxSteps := 300000) (disch := omega) only [gs, gs2, gs3, gs4, ↓reduceIte, Nat.reduceEqDiff, Int.reduceToNat, Nat.reduceMul, Nat.reduceAdd, Nat.reduceBEq, isLd, e2, e3, e4, e6, e7, e8, e9, e10, hX5, hll', hkk, hjj, t2.f0, fb t2, t3.f0, fb t3, ri, rj, rc]
          refine spec_l00Max_ok _ _ ?_
          have hmv : (jcols a b).getD l 0 ∈ a.cols ∨ (jcols a b).getD l 0 ∈ b.cols := List.mem_append.1 (hjm _ (by simp [List.getD, show l < (jcols a b).length by omega]))
          rw [join_cell hxl hyl (hoa.2.2.2.1 k (by omega)).2 (hob.2.2.2.1 j (by omega)).2 hfit hmv hw1 hw1' hw2 hw2']
          simp (maxSteps := 300000) (disch := omega) only [gs, gs2, gs3, gs4, ↓reduceIte, Nat.reduceEqDiff, Int.reduceToNat, Nat.reduceMul, Nat.reduceAdd, Nat.reduceBEq, isLd, e2, e3, e4, e6, e7, e8, e9, e10, hX5, hll', hkk, hjj, t2.f0, fb t2, t3.f0, fb t3, ri, rj, rc, gBs]
          refine ⟨fun v hv => (by simp at hv; subst hv; rfl), fun bs hbs => ?_⟩
          have sy := Sub.put hbs ⟨[I64 (cellAt (a.cols ++ b.cols) (a.rows.getD k [] ++ b.rows.getD j []) ((jcols a b).getD l 0))], true⟩
          refine ⟨⟨rd_sub sy rc, rd_sub sy hX5, rd_sub sy rj, rd_sub sy (fb t3), rd_sub sy t3.f0, rd_sub sy rc, rd_sub sy hX5, rd_sub sy ri, rd_sub sy (fb t2), rd_sub sy t2.f0⟩, ?_⟩
          refine ap_own (hW.sub sy) (news := [I64 (cellAt (a.cols ++ b.cols) (a.rows.getD k [] ++ b.rows.getD j []) ((jcols a b).getD l 0))]) (m := 1) (cells_one _ true) rfl (by intro v hv; simp at hv; subst hv; rfl) rfl (by omega) (by omega) (by omega) fun G6 A6 c6 hW6 keep => ?_
          obtain ⟨hS6, hO6⟩ := keep G'' (hS.trans sy) hO
          have u2 := q2.sub hS6
          have u3 := q3.sub hS6
          have rc6 := ((iA1.sub hX.low).sub hS6).rd l (by omega)
          have hX56 := rd_sub (hX.sub.trans hS6) (rd_box H b5 [.slice A1 (jcols a b).length c1, .slice Z (srt (joinR a b (a.rows.take k) ++ joinP a b (a.rows.getD k []) (b.rows.take j))).length z] 0 _ rfl)
          simp (maxSteps := 300000) (disch := omega) only [gs, gs2, gs3, gs4, ↓reduceIte, Nat.reduceEqDiff, Int.reduceToNat, Nat.reduceMul, Nat.reduceAdd, Nat.reduceBEq, isLd, e2, e3, e4, e6, e7, e8, e9, e10, rc6, hX56, u2.f0, fb u2, u3.f0, fb u3, u2.rows.r k (by omega), u3.rows.r j (by omega)]
          refine ⟨m'' - 1, by omega, G6, Sub.refl _, l + 1, A6, c6, rfl, rfl, by omega, by omega, hS6, hO6, ?_⟩
          refine hW6.cast ?_ rfl
          rw [map_take (d := 0) (show l < (jcols a b).length by omega), List.map_append]
          rfl
        · simp (maxSteps := 300000) (disch := omega) only [gs, gs2, gs3, gs4, ↓reduceIte, Nat.reduceEqDiff, Int.reduceToNat, Nat.reduceMul, Nat.reduceAdd, Nat.reduceBEq, isLd, e2, e3, e4, e6, e7, e8, e9, e10, hX5, hll', hX6]
          obtain rfl : l = (jcols a b).length := by omega
          rw [List.take_length] at hW
          have hX' := hX.up hS
          have hP : IntS G4 Zr zr (joinRow a b (a.rows.getD k []) (b.rows.getD j [])) := hW.ints' (joinRow_len _ _ _ _).symm
          rw [show Value.slice Zr (jcols a b).length zr = Value.slice Zr (joinRow a b (a.rows.getD k []) (b.rows.getD j [])).length zr by rw [joinRow_len]]
          refine spec_l20Put_ok hX'.own (srt_asc _) hP (by omega) (fun i hi => ?_) (by rw [joinRow_len]; omega) fun G5 Z' z' hs5 s5 hO5 oZ5 oR5 => ?_
          · have hm : (srt (joinR a b (a.rows.take k) ++ joinP a b (a.rows.getD k []) (b.rows.take j))).getD i [] ∈ srt (joinR a b (a.rows.take k) ++ joinP a b (a.rows.getD k []) (b.rows.take j)) := getD_memL hi
            rw [srt_mem, List.mem_append] at hm
            rcases hm with hm | hm
            · rw [joinR_row hm]; omega
            · rw [joinP_row hm]; omega
          simp (maxSteps := 300000) (disch := omega) only [gs, gs2, gs3, gs4, ↓reduceIte, Nat.reduceEqDiff, Int.reduceToNat, Nat.reduceMul, Nat.reduceAdd, Nat.reduceBEq, isLd, e2, e3, e4, e6, e7, e8]
          refine hX'.repl s5 hO5 oZ5 oR5 fun G6 hX6 => ?_
          simp (maxSteps := 300000) (disch := omega) only [gs, gs2, gs3, gs4, ↓reduceIte, Nat.reduceEqDiff, Int.reduceToNat, Nat.reduceMul, Nat.reduceAdd, Nat.reduceBEq, isLd, e2, e3, e4, e6, e7, e8]
          exact ⟨m' - 1, by omega, G6, Sub.refl _, j + 1, Z', z', hs5, rfl, by omega, by omega, by rw [hps.1 hfit, ← List.append_assoc, srt_snoc]; exact hX6⟩
    · simp (maxSteps := 300000) (disch := omega) only [gs, gs2, gs3, gs4, ↓reduceIte, Nat.reduceEqDiff, Int.reduceToNat, Nat.reduceMul, Nat.reduceAdd, Nat.reduceBEq, isLd, e2, e3, e4, e6, e7, e8, hjj]
      obtain rfl : j = b.rows.length := by omega
      rw [List.take_length] at hX
      exact ⟨m - 1, by omega, G'', Sub.refl _, k + 1, Z, z, hz, rfl, by omega, by omega, by rw [joinR_snoc (by omega)]; exact hX⟩
  · obtain rfl : k = a.rows.length := by omega
    rw [List.take_length] at hX hlenR
    have f50 : rd G' (some ⟨b5, 0, none⟩) = some (.slice A1 (jcols a b).length c1) := rd_sub hX.sub (rd_box _ _ _ 0 _ rfl)
    have f51 : rd G' (some ⟨b5, 1, none⟩) = some (.slice Z (srt (joinR a b a.rows)).length z) := rd_sub hX.sub (rd_box _ _ _ 1 _ rfl)
    have hnd := srt_nodup (joinR_nodup hoa hob)
    simp (maxSteps := 300000) (disch := omega) only [gs, gs2, gs3, gs4, ↓reduceIte, Nat.reduceEqDiff, Int.reduceToNat, Nat.reduceMul, Nat.reduceAdd, Nat.reduceBEq, isLd, e2, e3, e4, e6, e7, hkk, f51]
    by_cases hfull : (24 : Int) < (srt (joinR a b a.rows)).length
    · simp (maxSteps := 300000) (disch := omega) only [gs, gs2, gs3, gs4, ↓reduceIte, Nat.reduceEqDiff, Int.reduceToNat, Nat.reduceMul, Nat.reduceAdd, Nat.reduceBEq, isLd, e2, e3, e4, e6, e7, hfull, f51, hbe]
      refine st_many (vs := [.slice none 0 0, .slice none 0 0]) rfl (hX.low _ _ g4') rfl (by simp) (by intro v hv; simp at hv; subst hv; rfl) ?_
      simp only [over, List.set_cons_zero, List.set_cons_succ]
      simp (maxSteps := 300000) (disch := omega) only [gs, gs2, gs3, gs4, ↓reduceIte, Nat.reduceEqDiff, Int.reduceToNat, Nat.reduceMul, Nat.reduceAdd, Nat.reduceBEq, isLd, e4, k0, k1]
      rw [joinV_full ⟨hoa, hob⟩ (by omega)] at hk
      exact ⟨G, (sH.trans hX.low).skip n4, hk _ _ _ _ _ _ (NewT.nil G fun _ => (none, 0))⟩
    · rw [joinV_yes ⟨hoa, hob⟩ (by omega)] at hk
      simp (maxSteps := 300000) (disch := omega) only [gs, gs2, gs3, gs4, ↓reduceIte, Nat.reduceEqDiff, Int.reduceToNat, Nat.reduceMul, Nat.reduceAdd, Nat.reduceBEq, isLd, e2, e3, e4, e6, e7, hfull, f51, f50]
      refine st_many (vs := [.slice A1 (jcols a b).length c1, .slice Z (srt (joinR a b a.rows)).length z]) rfl (hX.low _ _ g4') rfl (by simp) one2 ?_
      simp only [over, List.set_cons_zero, List.set_cons_succ]
      have k0 : rd (put G' b4 ⟨[.slice A1 (jcols a b).length c1, .slice Z (srt (joinR a b a.rows)).length z], true⟩) (some ⟨b4, 0, none⟩) = some (.slice A1 (jcols a b).length c1) := rd_box _ _ _ 0 _ rfl
      have k1 : rd (put G' b4 ⟨[.slice A1 (jcols a b).length c1, .slice Z (srt (joinR a b a.rows)).length z], true⟩) (some ⟨b4, 1, none⟩) = some (.slice Z (srt (joinR a b a.rows)).length z) := rd_box _ _ _ 1 _ rfl
      simp (maxSteps := 300000) (disch := omega) only [gs, gs2, gs3, gs4, ↓reduceIte, Nat.reduceEqDiff, Int.reduceToNat, Nat.reduceMul, Nat.reduceAdd, Nat.reduceBEq, isLd, e4, k0, k1]
      exact ⟨_, Sub.refl _, hk _ _ _ _ _ _ (hX.newT (N := joinT a b) sH hA1 oA1 ((sH.trans hX.low).skip n4) (Oth.put _ _ _) n41 (fun x hx => by subst hx; rw [g4']; simp))⟩
theorem join_sm (a b : Tab) : TSm (joinV a b).1 := by
  by_cases h : TabOk a ∧ TabOk b
  · by_cases k : 24 < (joinR a b a.rows).length
    · rw [joinV_full h k]; exact tsm_of (by simp) (by simp) fun x hx => (by cases hx)
    · rw [joinV_yes h k]
      obtain ⟨hr, hc, hn⟩ := h.1.rowL
      obtain ⟨hr', hc', hn'⟩ := h.2.rowL
      have hj := jcols_len (b := b) h.1.1
      have hs := srt_len (joinR a b a.rows)
      refine tsm_of (N := joinT a b) ?_ ?_ fun x hx => ?_
      · show (jcols a b).length ≤ 2 ^ 10; omega
      · show (srt (joinR a b a.rows)).length ≤ 2 ^ 10; omega
      · have hx' : x ∈ srt (joinR a b a.rows) := hx
        rw [srt_mem] at hx'
        rw [joinR_row hx']; omega
  · rw [joinV_no h]; exact tsm_of (by simp) (by simp) fun x hx => (by cases hx)
theorem jj_w {G : GH} {N0 N1 : Tab} {A0 B0 A1 B1 : Option Addr} {c0 d0 c1 d1 b2 b3 : Nat} {hs0 hs1 : Nat → Option Addr × Nat} {T : Nat → Value} {K : (Nat → Value) → GH → Prop} (e2 : T 2 = .pointer (some ⟨b2, 0, none⟩)) (e3 : T 3 = .pointer (some ⟨b3, 0, none⟩))
    (f20 : rd G (some ⟨b2, 0, none⟩) = some (.slice A0 N0.cols.length c0)) (f21 : rd G (some ⟨b2, 1, none⟩) = some (.slice B0 N0.rows.length d0)) (f30 : rd G (some ⟨b3, 0, none⟩) = some (.slice A1 N1.cols.length c1)) (f31 : rd G (some ⟨b3, 1, none⟩) = some (.slice B1 N1.rows.length d1))
    (h0 : IntS G A0 c0 N0.cols) (r0 : RowS G B0 d0 hs0 N0.rows) (h1 : IntS G A1 c1 N1.cols) (r1 : RowS G B1 d1 hs1 N1.rows) (l0 : N0.cols.length ≤ 2 ^ 20) (l1 : N1.cols.length ≤ 2 ^ 20) (m0 : Sm N0.rows) (m1 : Sm N1.rows)
    (hK : ∀ T' G' b6 X x Y y hs, BoxT G G' b6 (joinV N0 N1).1 X x Y y hs → (∀ i, i < 6 → T' i = T i) → T' 6 = .pointer (some ⟨b6, 0, none⟩) → T' 7 = .int .i64 (joinV N0 N1).2 → K T' G') : gT Try.prog c_laws_FnExactJoinTables_8 [] K T G := by
  have one2 : ∀ (X Y : Option Addr) (a b x y : Nat), ∀ v ∈ [Value.slice X a x, Value.slice Y b y], oneB v = true := fun X Y a b x y v hv => by simp at hv; rcases hv with rfl | rfl <;> rfl
  simp (maxSteps := 300000) (disch := omega) only [gs, gs2, gs3, gs4, ↓reduceIte, Nat.reduceEqDiff, Int.reduceToNat, Nat.reduceMul, Nat.reduceAdd, Nat.reduceBEq, isLd, e2, e3, f20, f21, f30, f31]
  refine ⟨?_, ?_⟩
  · skip
    refine laws_toTable_new (h0) (r0) l0 m0 fun Aa Ba ka Ga na => ?_
    have sa := na.sub
    unfold tabV tabC
    simp (maxSteps := 300000) (disch := omega) only [gs, gs2, gs3, gs4, ↓reduceIte, Nat.reduceEqDiff, Int.reduceToNat, Nat.reduceMul, Nat.reduceAdd, Nat.reduceBEq, isLd, rd_sub sa f20, rd_sub sa f21, rd_sub sa f30, rd_sub sa f31]
    refine ⟨?_, ?_⟩
    · skip
      refine laws_toTable_new (h1.sub sa) (r1.sub sa) l1 m1 fun Ab Bb kb Gb nb => ?_
      have sb := sa.trans nb.sub
      unfold tabV tabC
      simp (maxSteps := 300000) (disch := omega) only [gs, gs2, gs3, gs4, ↓reduceIte, Nat.reduceEqDiff, Int.reduceToNat, Nat.reduceMul, Nat.reduceAdd, Nat.reduceBEq, isLd, rd_sub sb f20, rd_sub sb f21, rd_sub sb f30, rd_sub sb f31]
      refine ⟨?_, ?_⟩
      · skip
        refine spec_JoinTables_ok ((na.i.1).sub nb.sub) ((na.i.2).sub nb.sub) (nb.i.1) (nb.i.2) (by omega) (by omega) m0.sh m1.sh fun G9 X x Y y ks hN => ?_
        have s9 := sb.trans hN.sub
        unfold tabV tabC
        simp (maxSteps := 300000) (disch := omega) only [gs, gs2, gs3, gs4, ↓reduceIte, Nat.reduceEqDiff, Int.reduceToNat, Nat.reduceMul, Nat.reduceAdd, Nat.reduceBEq, isLd, rd_sub s9 f20, rd_sub s9 f21, rd_sub s9 f30, rd_sub s9 f31]
        intro b6 hb6
        have sl := s9.trans (Sub.put hb6 ⟨[Value.slice none 0 0, Value.slice none 0 0], true⟩)
        simp (maxSteps := 300000) (disch := omega) only [gs, gs2, gs3, gs4, ↓reduceIte, Nat.reduceEqDiff, Int.reduceToNat, Nat.reduceMul, Nat.reduceAdd, Nat.reduceBEq, isLd, rd_sub sl f20, rd_sub sl f21, rd_sub sl f30, rd_sub sl f31]
        refine st_fresh (vs := [.slice X (joinV N0 N1).1.cols.length x, .slice Y (joinV N0 N1).1.rows.length y]) rfl rfl rfl (one2 _ _ _ _ _ _) ?_
        simp (maxSteps := 300000) (disch := omega) only [gs, gs2, gs3, gs4, ↓reduceIte, Nat.reduceEqDiff, Int.reduceToNat, Nat.reduceMul, Nat.reduceAdd, Nat.reduceBEq, isLd]
        exact hK _ _ b6 X x Y y ks (BoxT.mk1 hN sb hb6) (fun i hi => by repeat rw [upd_app, if_neg (by omega)]) (by simp (maxSteps := 300000) (disch := omega) only [gs, gs2, gs3, gs4, ↓reduceIte, Nat.reduceEqDiff, Int.reduceToNat, Nat.reduceMul, Nat.reduceAdd, Nat.reduceBEq, isLd]) (by simp (maxSteps := 300000) (disch := omega) only [gs, gs2, gs3, gs4, ↓reduceIte, Nat.reduceEqDiff, Int.reduceToNat, Nat.reduceMul, Nat.reduceAdd, Nat.reduceBEq, isLd])
      · skip
        intro b6 hb6
        have sl := Sub.put hb6 ⟨[Value.slice none 0 0, Value.slice none 0 0], true⟩
        have sll := sb.trans sl
        have q6 := put_same Gb b6 ⟨[Value.slice none 0 0, Value.slice none 0 0], true⟩
        have n6 : G b6 = none := sb.none hb6
        simp (maxSteps := 300000) (disch := omega) only [gs, gs2, gs3, gs4, ↓reduceIte, Nat.reduceEqDiff, Int.reduceToNat, Nat.reduceMul, Nat.reduceAdd, Nat.reduceBEq, isLd, rd_sub sll f20, rd_sub sll f21, rd_sub sll f30, rd_sub sll f31]
        refine spec_JoinTables_ok (((na.i.1).sub nb.sub).sub sl) (((na.i.2).sub nb.sub).sub sl) ((nb.i.1).sub sl) ((nb.i.2).sub sl) (by omega) (by omega) m0.sh m1.sh fun G9 X x Y y ks hN => ?_
        have s9 := sll.trans hN.sub
        unfold tabV tabC
        simp (maxSteps := 300000) (disch := omega) only [gs, gs2, gs3, gs4, ↓reduceIte, Nat.reduceEqDiff, Int.reduceToNat, Nat.reduceMul, Nat.reduceAdd, Nat.reduceBEq, isLd, rd_sub s9 f20, rd_sub s9 f21, rd_sub s9 f30, rd_sub s9 f31]
        have q7 := q6
        refine st_many (vs := [.slice X (joinV N0 N1).1.cols.length x, .slice Y (joinV N0 N1).1.rows.length y]) rfl (hN.sub _ _ q7) rfl (by simp) (one2 _ _ _ _ _ _) ?_
        simp only [over, List.set_cons_zero, List.set_cons_succ]
        simp (maxSteps := 300000) (disch := omega) only [gs, gs2, gs3, gs4, ↓reduceIte, Nat.reduceEqDiff, Int.reduceToNat, Nat.reduceMul, Nat.reduceAdd, Nat.reduceBEq, isLd]
        exact hK _ _ b6 X x Y y ks (BoxT.mk2 hN sll n6 q7) (fun i hi => by repeat rw [upd_app, if_neg (by omega)]) (by simp (maxSteps := 300000) (disch := omega) only [gs, gs2, gs3, gs4, ↓reduceIte, Nat.reduceEqDiff, Int.reduceToNat, Nat.reduceMul, Nat.reduceAdd, Nat.reduceBEq, isLd]) (by simp (maxSteps := 300000) (disch := omega) only [gs, gs2, gs3, gs4, ↓reduceIte, Nat.reduceEqDiff, Int.reduceToNat, Nat.reduceMul, Nat.reduceAdd, Nat.reduceBEq, isLd])
    · skip
      intro b6 hb6
      have sl := Sub.put hb6 ⟨[Value.slice none 0 0, Value.slice none 0 0], true⟩
      have sll := sa.trans sl
      have q6 := put_same Ga b6 ⟨[Value.slice none 0 0, Value.slice none 0 0], true⟩
      have n6 : G b6 = none := sa.none hb6
      simp (maxSteps := 300000) (disch := omega) only [gs, gs2, gs3, gs4, ↓reduceIte, Nat.reduceEqDiff, Int.reduceToNat, Nat.reduceMul, Nat.reduceAdd, Nat.reduceBEq, isLd, rd_sub sll f20, rd_sub sll f21, rd_sub sll f30, rd_sub sll f31]
      refine laws_toTable_new (h1.sub sll) (r1.sub sll) l1 m1 fun Ab Bb kb Gb nb => ?_
      have sb := sll.trans nb.sub
      unfold tabV tabC
      simp (maxSteps := 300000) (disch := omega) only [gs, gs2, gs3, gs4, ↓reduceIte, Nat.reduceEqDiff, Int.reduceToNat, Nat.reduceMul, Nat.reduceAdd, Nat.reduceBEq, isLd, rd_sub sb f20, rd_sub sb f21, rd_sub sb f30, rd_sub sb f31]
      refine spec_JoinTables_ok (((na.i.1).sub sl).sub nb.sub) (((na.i.2).sub sl).sub nb.sub) (nb.i.1) (nb.i.2) (by omega) (by omega) m0.sh m1.sh fun G9 X x Y y ks hN => ?_
      have s9 := sb.trans hN.sub
      unfold tabV tabC
      simp (maxSteps := 300000) (disch := omega) only [gs, gs2, gs3, gs4, ↓reduceIte, Nat.reduceEqDiff, Int.reduceToNat, Nat.reduceMul, Nat.reduceAdd, Nat.reduceBEq, isLd, rd_sub s9 f20, rd_sub s9 f21, rd_sub s9 f30, rd_sub s9 f31]
      have q7 := nb.sub _ _ (q6)
      refine st_many (vs := [.slice X (joinV N0 N1).1.cols.length x, .slice Y (joinV N0 N1).1.rows.length y]) rfl (hN.sub _ _ q7) rfl (by simp) (one2 _ _ _ _ _ _) ?_
      simp only [over, List.set_cons_zero, List.set_cons_succ]
      simp (maxSteps := 300000) (disch := omega) only [gs, gs2, gs3, gs4, ↓reduceIte, Nat.reduceEqDiff, Int.reduceToNat, Nat.reduceMul, Nat.reduceAdd, Nat.reduceBEq, isLd]
      exact hK _ _ b6 X x Y y ks (BoxT.mk2 hN sb n6 q7) (fun i hi => by repeat rw [upd_app, if_neg (by omega)]) (by simp (maxSteps := 300000) (disch := omega) only [gs, gs2, gs3, gs4, ↓reduceIte, Nat.reduceEqDiff, Int.reduceToNat, Nat.reduceMul, Nat.reduceAdd, Nat.reduceBEq, isLd]) (by simp (maxSteps := 300000) (disch := omega) only [gs, gs2, gs3, gs4, ↓reduceIte, Nat.reduceEqDiff, Int.reduceToNat, Nat.reduceMul, Nat.reduceAdd, Nat.reduceBEq, isLd])
  · skip
    intro b6 hb6
    have sl := Sub.put hb6 ⟨[Value.slice none 0 0, Value.slice none 0 0], true⟩
    have sll := sl
    have q6 := put_same G b6 ⟨[Value.slice none 0 0, Value.slice none 0 0], true⟩
    have n6 : G b6 = none := hb6
    simp (maxSteps := 300000) (disch := omega) only [gs, gs2, gs3, gs4, ↓reduceIte, Nat.reduceEqDiff, Int.reduceToNat, Nat.reduceMul, Nat.reduceAdd, Nat.reduceBEq, isLd, rd_sub sll f20, rd_sub sll f21, rd_sub sll f30, rd_sub sll f31]
    refine laws_toTable_new (h0.sub sll) (r0.sub sll) l0 m0 fun Aa Ba ka Ga na => ?_
    have sa := sll.trans na.sub
    unfold tabV tabC
    simp (maxSteps := 300000) (disch := omega) only [gs, gs2, gs3, gs4, ↓reduceIte, Nat.reduceEqDiff, Int.reduceToNat, Nat.reduceMul, Nat.reduceAdd, Nat.reduceBEq, isLd, rd_sub sa f20, rd_sub sa f21, rd_sub sa f30, rd_sub sa f31]
    refine laws_toTable_new (h1.sub sa) (r1.sub sa) l1 m1 fun Ab Bb kb Gb nb => ?_
    have sb := sa.trans nb.sub
    unfold tabV tabC
    simp (maxSteps := 300000) (disch := omega) only [gs, gs2, gs3, gs4, ↓reduceIte, Nat.reduceEqDiff, Int.reduceToNat, Nat.reduceMul, Nat.reduceAdd, Nat.reduceBEq, isLd, rd_sub sb f20, rd_sub sb f21, rd_sub sb f30, rd_sub sb f31]
    refine spec_JoinTables_ok ((na.i.1).sub nb.sub) ((na.i.2).sub nb.sub) (nb.i.1) (nb.i.2) (by omega) (by omega) m0.sh m1.sh fun G9 X x Y y ks hN => ?_
    have s9 := sb.trans hN.sub
    unfold tabV tabC
    simp (maxSteps := 300000) (disch := omega) only [gs, gs2, gs3, gs4, ↓reduceIte, Nat.reduceEqDiff, Int.reduceToNat, Nat.reduceMul, Nat.reduceAdd, Nat.reduceBEq, isLd, rd_sub s9 f20, rd_sub s9 f21, rd_sub s9 f30, rd_sub s9 f31]
    have q7 := nb.sub _ _ (na.sub _ _ (q6))
    refine st_many (vs := [.slice X (joinV N0 N1).1.cols.length x, .slice Y (joinV N0 N1).1.rows.length y]) rfl (hN.sub _ _ q7) rfl (by simp) (one2 _ _ _ _ _ _) ?_
    simp only [over, List.set_cons_zero, List.set_cons_succ]
    simp (maxSteps := 300000) (disch := omega) only [gs, gs2, gs3, gs4, ↓reduceIte, Nat.reduceEqDiff, Int.reduceToNat, Nat.reduceMul, Nat.reduceAdd, Nat.reduceBEq, isLd]
    exact hK _ _ b6 X x Y y ks (BoxT.mk2 hN sb n6 q7) (fun i hi => by repeat rw [upd_app, if_neg (by omega)]) (by simp (maxSteps := 300000) (disch := omega) only [gs, gs2, gs3, gs4, ↓reduceIte, Nat.reduceEqDiff, Int.reduceToNat, Nat.reduceMul, Nat.reduceAdd, Nat.reduceBEq, isLd]) (by simp (maxSteps := 300000) (disch := omega) only [gs, gs2, gs3, gs4, ↓reduceIte, Nat.reduceEqDiff, Int.reduceToNat, Nat.reduceMul, Nat.reduceAdd, Nat.reduceBEq, isLd])
theorem jj_h {G : GH} {N0 N1 : Tab} {A0 B0 A1 B1 : Option Addr} {c0 d0 c1 d1 b2 b3 : Nat} {hs0 hs1 : Nat → Option Addr × Nat} {T : Nat → Value} {K : (Nat → Value) → GH → Prop} (e2 : T 2 = .pointer (some ⟨b2, 0, none⟩)) (e3 : T 3 = .pointer (some ⟨b3, 0, none⟩))
    (f20 : rd G (some ⟨b2, 0, none⟩) = some (.slice A0 N0.cols.length c0)) (f21 : rd G (some ⟨b2, 1, none⟩) = some (.slice B0 N0.rows.length d0)) (f30 : rd G (some ⟨b3, 0, none⟩) = some (.slice A1 N1.cols.length c1)) (f31 : rd G (some ⟨b3, 1, none⟩) = some (.slice B1 N1.rows.length d1))
    (h0 : IntS G A0 c0 N0.cols) (r0 : RowS G B0 d0 hs0 N0.rows) (h1 : IntS G A1 c1 N1.cols) (r1 : RowS G B1 d1 hs1 N1.rows) (l0 : N0.cols.length ≤ 2 ^ 20) (l1 : N1.cols.length ≤ 2 ^ 20) (m0 : Sm N0.rows) (m1 : Sm N1.rows)
    (hK : ∀ T' G' b6 X x Y y hs, BoxT G G' b6 (joinV N0 N1).1 X x Y y hs → (∀ i, i < 15 → T' i = T i) → T' 15 = .pointer (some ⟨b6, 0, none⟩) → T' 16 = .int .i64 (joinV N0 N1).2 → K T' G') : gT Try.prog c_laws_FnExactJoinTables_31 [] K T G := by
  have one2 : ∀ (X Y : Option Addr) (a b x y : Nat), ∀ v ∈ [Value.slice X a x, Value.slice Y b y], oneB v = true := fun X Y a b x y v hv => by simp at hv; rcases hv with rfl | rfl <;> rfl
  simp (maxSteps := 300000) (disch := omega) only [gs, gs2, gs3, gs4, ↓reduceIte, Nat.reduceEqDiff, Int.reduceToNat, Nat.reduceMul, Nat.reduceAdd, Nat.reduceBEq, isLd, e2, e3, f20, f21, f30, f31]
  refine ⟨?_, ?_⟩
  · skip
    refine laws_toTable_new (h0) (r0) l0 m0 fun Aa Ba ka Ga na => ?_
    have sa := na.sub
    unfold tabV tabC
    simp (maxSteps := 300000) (disch := omega) only [gs, gs2, gs3, gs4, ↓reduceIte, Nat.reduceEqDiff, Int.reduceToNat, Nat.reduceMul, Nat.reduceAdd, Nat.reduceBEq, isLd, rd_sub sa f20, rd_sub sa f21, rd_sub sa f30, rd_sub sa f31]
    refine ⟨?_, ?_⟩
    · skip
      refine laws_toTable_new (h1.sub sa) (r1.sub sa) l1 m1 fun Ab Bb kb Gb nb => ?_
      have sb := sa.trans nb.sub
      unfold tabV tabC
      simp (maxSteps := 300000) (disch := omega) only [gs, gs2, gs3, gs4, ↓reduceIte, Nat.reduceEqDiff, Int.reduceToNat, Nat.reduceMul, Nat.reduceAdd, Nat.reduceBEq, isLd, rd_sub sb f20, rd_sub sb f21, rd_sub sb f30, rd_sub sb f31]
      refine ⟨?_, ?_⟩
      · skip
        refine impl_JoinTables_ok ((na.i.1).sub nb.sub) ((na.i.2).sub nb.sub) (nb.i.1) (nb.i.2) (by omega) (by omega) m0.sh m1.sh fun G9 X x Y y ks hN => ?_
        have s9 := sb.trans hN.sub
        unfold tabV tabC
        simp (maxSteps := 300000) (disch := omega) only [gs, gs2, gs3, gs4, ↓reduceIte, Nat.reduceEqDiff, Int.reduceToNat, Nat.reduceMul, Nat.reduceAdd, Nat.reduceBEq, isLd, rd_sub s9 f20, rd_sub s9 f21, rd_sub s9 f30, rd_sub s9 f31]
        intro b6 hb6
        have sl := s9.trans (Sub.put hb6 ⟨[Value.slice none 0 0, Value.slice none 0 0], true⟩)
        simp (maxSteps := 300000) (disch := omega) only [gs, gs2, gs3, gs4, ↓reduceIte, Nat.reduceEqDiff, Int.reduceToNat, Nat.reduceMul, Nat.reduceAdd, Nat.reduceBEq, isLd, rd_sub sl f20, rd_sub sl f21, rd_sub sl f30, rd_sub sl f31]
        refine st_fresh (vs := [.slice X (joinV N0 N1).1.cols.length x, .slice Y (joinV N0 N1).1.rows.length y]) rfl rfl rfl (one2 _ _ _ _ _ _) ?_
        simp (maxSteps := 300000) (disch := omega) only [gs, gs2, gs3, gs4, ↓reduceIte, Nat.reduceEqDiff, Int.reduceToNat, Nat.reduceMul, Nat.reduceAdd, Nat.reduceBEq, isLd]
        exact hK _ _ b6 X x Y y ks (BoxT.mk1 hN sb hb6) (fun i hi => by repeat rw [upd_app, if_neg (by omega)]) (by simp (maxSteps := 300000) (disch := omega) only [gs, gs2, gs3, gs4, ↓reduceIte, Nat.reduceEqDiff, Int.reduceToNat, Nat.reduceMul, Nat.reduceAdd, Nat.reduceBEq, isLd]) (by simp (maxSteps := 300000) (disch := omega) only [gs, gs2, gs3, gs4, ↓reduceIte, Nat.reduceEqDiff, Int.reduceToNat, Nat.reduceMul, Nat.reduceAdd, Nat.reduceBEq, isLd])
      · skip
        intro b6 hb6
        have sl := Sub.put hb6 ⟨[Value.slice none 0 0, Value.slice none 0 0], true⟩
        have sll := sb.trans sl
        have q6 := put_same Gb b6 ⟨[Value.slice none 0 0, Value.slice none 0 0], true⟩
        have n6 : G b6 = none := sb.none hb6
        simp (maxSteps := 300000) (disch := omega) only [gs, gs2, gs3, gs4, ↓reduceIte, Nat.reduceEqDiff, Int.reduceToNat, Nat.reduceMul, Nat.reduceAdd, Nat.reduceBEq, isLd, rd_sub sll f20, rd_sub sll f21, rd_sub sll f30, rd_sub sll f31]
        refine impl_JoinTables_ok (((na.i.1).sub nb.sub).sub sl) (((na.i.2).sub nb.sub).sub sl) ((nb.i.1).sub sl) ((nb.i.2).sub sl) (by omega) (by omega) m0.sh m1.sh fun G9 X x Y y ks hN => ?_
        have s9 := sll.trans hN.sub
        unfold tabV tabC
        simp (maxSteps := 300000) (disch := omega) only [gs, gs2, gs3, gs4, ↓reduceIte, Nat.reduceEqDiff, Int.reduceToNat, Nat.reduceMul, Nat.reduceAdd, Nat.reduceBEq, isLd, rd_sub s9 f20, rd_sub s9 f21, rd_sub s9 f30, rd_sub s9 f31]
        have q7 := q6
        refine st_many (vs := [.slice X (joinV N0 N1).1.cols.length x, .slice Y (joinV N0 N1).1.rows.length y]) rfl (hN.sub _ _ q7) rfl (by simp) (one2 _ _ _ _ _ _) ?_
        simp only [over, List.set_cons_zero, List.set_cons_succ]
        simp (maxSteps := 300000) (disch := omega) only [gs, gs2, gs3, gs4, ↓reduceIte, Nat.reduceEqDiff, Int.reduceToNat, Nat.reduceMul, Nat.reduceAdd, Nat.reduceBEq, isLd]
        exact hK _ _ b6 X x Y y ks (BoxT.mk2 hN sll n6 q7) (fun i hi => by repeat rw [upd_app, if_neg (by omega)]) (by simp (maxSteps := 300000) (disch := omega) only [gs, gs2, gs3, gs4, ↓reduceIte, Nat.reduceEqDiff, Int.reduceToNat, Nat.reduceMul, Nat.reduceAdd, Nat.reduceBEq, isLd]) (by simp (maxSteps := 300000) (disch := omega) only [gs, gs2, gs3, gs4, ↓reduceIte, Nat.reduceEqDiff, Int.reduceToNat, Nat.reduceMul, Nat.reduceAdd, Nat.reduceBEq, isLd])
    · skip
      intro b6 hb6
      have sl := Sub.put hb6 ⟨[Value.slice none 0 0, Value.slice none 0 0], true⟩
      have sll := sa.trans sl
      have q6 := put_same Ga b6 ⟨[Value.slice none 0 0, Value.slice none 0 0], true⟩
      have n6 : G b6 = none := sa.none hb6
      simp (maxSteps := 300000) (disch := omega) only [gs, gs2, gs3, gs4, ↓reduceIte, Nat.reduceEqDiff, Int.reduceToNat, Nat.reduceMul, Nat.reduceAdd, Nat.reduceBEq, isLd, rd_sub sll f20, rd_sub sll f21, rd_sub sll f30, rd_sub sll f31]
      refine laws_toTable_new (h1.sub sll) (r1.sub sll) l1 m1 fun Ab Bb kb Gb nb => ?_
      have sb := sll.trans nb.sub
      unfold tabV tabC
      simp (maxSteps := 300000) (disch := omega) only [gs, gs2, gs3, gs4, ↓reduceIte, Nat.reduceEqDiff, Int.reduceToNat, Nat.reduceMul, Nat.reduceAdd, Nat.reduceBEq, isLd, rd_sub sb f20, rd_sub sb f21, rd_sub sb f30, rd_sub sb f31]
      refine impl_JoinTables_ok (((na.i.1).sub sl).sub nb.sub) (((na.i.2).sub sl).sub nb.sub) (nb.i.1) (nb.i.2) (by omega) (by omega) m0.sh m1.sh fun G9 X x Y y ks hN => ?_
      have s9 := sb.trans hN.sub
      unfold tabV tabC
      simp (maxSteps := 300000) (disch := omega) only [gs, gs2, gs3, gs4, ↓reduceIte, Nat.reduceEqDiff, Int.reduceToNat, Nat.reduceMul, Nat.reduceAdd, Nat.reduceBEq, isLd, rd_sub s9 f20, rd_sub s9 f21, rd_sub s9 f30, rd_sub s9 f31]
      have q7 := nb.sub _ _ (q6)
      refine st_many (vs := [.slice X (joinV N0 N1).1.cols.length x, .slice Y (joinV N0 N1).1.rows.length y]) rfl (hN.sub _ _ q7) rfl (by simp) (one2 _ _ _ _ _ _) ?_
      simp only [over, List.set_cons_zero, List.set_cons_succ]
      simp (maxSteps := 300000) (disch := omega) only [gs, gs2, gs3, gs4, ↓reduceIte, Nat.reduceEqDiff, Int.reduceToNat, Nat.reduceMul, Nat.reduceAdd, Nat.reduceBEq, isLd]
      exact hK _ _ b6 X x Y y ks (BoxT.mk2 hN sb n6 q7) (fun i hi => by repeat rw [upd_app, if_neg (by omega)]) (by simp (maxSteps := 300000) (disch := omega) only [gs, gs2, gs3, gs4, ↓reduceIte, Nat.reduceEqDiff, Int.reduceToNat, Nat.reduceMul, Nat.reduceAdd, Nat.reduceBEq, isLd]) (by simp (maxSteps := 300000) (disch := omega) only [gs, gs2, gs3, gs4, ↓reduceIte, Nat.reduceEqDiff, Int.reduceToNat, Nat.reduceMul, Nat.reduceAdd, Nat.reduceBEq, isLd])
  · skip
    intro b6 hb6
    have sl := Sub.put hb6 ⟨[Value.slice none 0 0, Value.slice none 0 0], true⟩
    have sll := sl
    have q6 := put_same G b6 ⟨[Value.slice none 0 0, Value.slice none 0 0], true⟩
    have n6 : G b6 = none := hb6
    simp (maxSteps := 300000) (disch := omega) only [gs, gs2, gs3, gs4, ↓reduceIte, Nat.reduceEqDiff, Int.reduceToNat, Nat.reduceMul, Nat.reduceAdd, Nat.reduceBEq, isLd, rd_sub sll f20, rd_sub sll f21, rd_sub sll f30, rd_sub sll f31]
    refine laws_toTable_new (h0.sub sll) (r0.sub sll) l0 m0 fun Aa Ba ka Ga na => ?_
    have sa := sll.trans na.sub
    unfold tabV tabC
    simp (maxSteps := 300000) (disch := omega) only [gs, gs2, gs3, gs4, ↓reduceIte, Nat.reduceEqDiff, Int.reduceToNat, Nat.reduceMul, Nat.reduceAdd, Nat.reduceBEq, isLd, rd_sub sa f20, rd_sub sa f21, rd_sub sa f30, rd_sub sa f31]
    refine laws_toTable_new (h1.sub sa) (r1.sub sa) l1 m1 fun Ab Bb kb Gb nb => ?_
    have sb := sa.trans nb.sub
    unfold tabV tabC
    simp (maxSteps := 300000) (disch := omega) only [gs, gs2, gs3, gs4, ↓reduceIte, Nat.reduceEqDiff, Int.reduceToNat, Nat.reduceMul, Nat.reduceAdd, Nat.reduceBEq, isLd, rd_sub sb f20, rd_sub sb f21, rd_sub sb f30, rd_sub sb f31]
    refine impl_JoinTables_ok ((na.i.1).sub nb.sub) ((na.i.2).sub nb.sub) (nb.i.1) (nb.i.2) (by omega) (by omega) m0.sh m1.sh fun G9 X x Y y ks hN => ?_
    have s9 := sb.trans hN.sub
    unfold tabV tabC
    simp (maxSteps := 300000) (disch := omega) only [gs, gs2, gs3, gs4, ↓reduceIte, Nat.reduceEqDiff, Int.reduceToNat, Nat.reduceMul, Nat.reduceAdd, Nat.reduceBEq, isLd, rd_sub s9 f20, rd_sub s9 f21, rd_sub s9 f30, rd_sub s9 f31]
    have q7 := nb.sub _ _ (na.sub _ _ (q6))
    refine st_many (vs := [.slice X (joinV N0 N1).1.cols.length x, .slice Y (joinV N0 N1).1.rows.length y]) rfl (hN.sub _ _ q7) rfl (by simp) (one2 _ _ _ _ _ _) ?_
    simp only [over, List.set_cons_zero, List.set_cons_succ]
    simp (maxSteps := 300000) (disch := omega) only [gs, gs2, gs3, gs4, ↓reduceIte, Nat.reduceEqDiff, Int.reduceToNat, Nat.reduceMul, Nat.reduceAdd, Nat.reduceBEq, isLd]
    exact hK _ _ b6 X x Y y ks (BoxT.mk2 hN sb n6 q7) (fun i hi => by repeat rw [upd_app, if_neg (by omega)]) (by simp (maxSteps := 300000) (disch := omega) only [gs, gs2, gs3, gs4, ↓reduceIte, Nat.reduceEqDiff, Int.reduceToNat, Nat.reduceMul, Nat.reduceAdd, Nat.reduceBEq, isLd]) (by simp (maxSteps := 300000) (disch := omega) only [gs, gs2, gs3, gs4, ↓reduceIte, Nat.reduceEqDiff, Int.reduceToNat, Nat.reduceMul, Nat.reduceAdd, Nat.reduceBEq, isLd])
theorem jj_head {G : GH} {v0 v1 : Value} {x0 x1 : Tab} {X : GCode} (h0 : TableV G v0 x0) (h1 : TableV G v1 x1)
    (hX : ∀ (T : Nat → Value) (H : GH) (b2 b3 : Nat) (A0 B0 A1 B1 : Option Addr) (c0 d0 c1 d1 : Nat) (hs0 hs1 : Nat → Option Addr × Nat), T 2 = .pointer (some ⟨b2, 0, none⟩) → T 3 = .pointer (some ⟨b3, 0, none⟩) → TabP H (some ⟨b2, 0, none⟩) x0 A0 c0 B0 d0 hs0 → TabP H (some ⟨b3, 0, none⟩) x1 A1 c1 B1 d1 hs1 →
      x0.cols.length ≤ 2 ^ 20 → x1.cols.length ≤ 2 ^ 20 → Sm x0.rows → Sm x1.rows → pre x0.rows x0.rows.length ≤ 2 ^ 20 → pre x1.rows x1.rows.length ≤ 2 ^ 20 → gW Try.prog X (RetK [RV.t 4] fun v _ => v = .bool true) T H) :
    gW Try.prog (.seq (.reg c_laws_FnExactJoinTables_0) (.seq (.reg c_laws_FnExactJoinTables_1) (.seq (.reg c_laws_FnExactJoinTables_2) (.seq (.seq (.reg c_laws_FnExactJoinTables_3) (.cond (tt 21) (.seq (.reg c_laws_FnExactJoinTables_4) (.ret)) (.skip))) (.seq (.reg c_laws_FnExactJoinTables_5) (.seq (.seq (.reg c_laws_FnExactJoinTables_6) (.cond (tt 26) (.seq (.reg c_laws_FnExactJoinTables_7) (.ret)) (.skip))) X)))))) (RetK [RV.t 4] fun v _ => v = .bool true) (T0 [v0, v1]) G := by
  obtain ⟨A0, c0, B0, d0, H0, rfl, h0, k0, l0, m0, n0, e0, ee0⟩ := h0
  obtain ⟨A1, c1, B1, d1, H1, rfl, h1, k1, l1, m1, n1, e1, ee1⟩ := h1
  unfold tabV tabC
  simp (maxSteps := 300000) (disch := omega) only [gs, gs2, gs3, gs4, ↓reduceIte, Nat.reduceEqDiff, Int.reduceToNat, Nat.reduceMul, Nat.reduceAdd, Nat.reduceBEq, isLd]
  intro b2 hb2
  have p2 := TabP.box hb2 h0 k0
  have s2 := Sub.put hb2 ⟨tabC x0 A0 c0 B0 d0, true⟩
  unfold tabC at p2 s2
  simp (maxSteps := 300000) (disch := omega) only [gs, gs2, gs3, gs4, ↓reduceIte, Nat.reduceEqDiff, Int.reduceToNat, Nat.reduceMul, Nat.reduceAdd, Nat.reduceBEq, isLd]
  intro b3 hb3
  have p3 := TabP.box hb3 (h1.sub s2) (k1.sub s2)
  have s3 := Sub.put hb3 ⟨tabC x1 A1 c1 B1 d1, true⟩
  unfold tabC at p3 s3
  have p2 := p2.sub s3
  revert p2 p3
  generalize put (put G b2 ⟨[.slice A0 x0.cols.length c0, .slice B0 x0.rows.length d0], true⟩) b3 ⟨[.slice A1 x1.cols.length c1, .slice B1 x1.rows.length d1], true⟩ = H
  intro p3 p2
  clear s2 s3 hb2 hb3 h0 k0 h1 k1
  simp (maxSteps := 300000) (disch := omega) only [gs, gs2, gs3, gs4, ↓reduceIte, Nat.reduceEqDiff, Int.reduceToNat, Nat.reduceMul, Nat.reduceAdd, Nat.reduceBEq, isLd, p2.f0, p2.g1]
  refine laws_szTable_ok2 (N := x0) p2.rows ⟨by omega, by omega⟩ l0 m0 n0 fun q0 q0a q0b q0c => ?_
  simp (maxSteps := 300000) (disch := omega) only [gs, gs2, gs3, gs4, ↓reduceIte, Nat.reduceEqDiff, Int.reduceToNat, Nat.reduceMul, Nat.reduceAdd, Nat.reduceBEq, isLd]
  by_cases g0 : q0 < 0
  · simp (maxSteps := 300000) (disch := omega) only [gs, gs2, gs3, gs4, ↓reduceIte, Nat.reduceEqDiff, Int.reduceToNat, Nat.reduceMul, Nat.reduceAdd, Nat.reduceBEq, isLd, g0]
  simp (maxSteps := 300000) (disch := omega) only [gs, gs2, gs3, gs4, ↓reduceIte, Nat.reduceEqDiff, Int.reduceToNat, Nat.reduceMul, Nat.reduceAdd, Nat.reduceBEq, isLd, g0, p3.f0, p3.g1]
  obtain ⟨y0, w0, z0, u0⟩ := q0c (by omega)
  refine laws_szTable_ok2 (N := x1) p3.rows ⟨by omega, by omega⟩ l1 m1 n1 fun q1 q1a q1b q1c => ?_
  simp (maxSteps := 300000) (disch := omega) only [gs, gs2, gs3, gs4, ↓reduceIte, Nat.reduceEqDiff, Int.reduceToNat, Nat.reduceMul, Nat.reduceAdd, Nat.reduceBEq, isLd]
  by_cases g1 : q1 < 0
  · simp (maxSteps := 300000) (disch := omega) only [gs, gs2, gs3, gs4, ↓reduceIte, Nat.reduceEqDiff, Int.reduceToNat, Nat.reduceMul, Nat.reduceAdd, Nat.reduceBEq, isLd, g1]
  simp (maxSteps := 300000) (disch := omega) only [gs, gs2, gs3, gs4, ↓reduceIte, Nat.reduceEqDiff, Int.reduceToNat, Nat.reduceMul, Nat.reduceAdd, Nat.reduceBEq, isLd, g1]
  obtain ⟨y1, w1, z1, u1⟩ := q1c (by omega)
  exact hX _ H b2 b3 A0 B0 A1 B1 c0 d0 c1 d1 H0 H1 (by simp (maxSteps := 300000) (disch := omega) only [gs, gs2, gs3, gs4, ↓reduceIte, Nat.reduceEqDiff, Int.reduceToNat, Nat.reduceMul, Nat.reduceAdd, Nat.reduceBEq, isLd]) (by simp (maxSteps := 300000) (disch := omega) only [gs, gs2, gs3, gs4, ↓reduceIte, Nat.reduceEqDiff, Int.reduceToNat, Nat.reduceMul, Nat.reduceAdd, Nat.reduceBEq, isLd]) p2 p3 w0 w1 z0 z1 u0 u1
theorem jj_mid {G : GH} {x0 x1 : Tab} {X : GCode} {T : Nat → Value} {b2 b3 b6 : Nat} {A0 B0 A1 B1 Xw Yw : Option Addr} {c0 d0 c1 d1 xw yw : Nat} {hs0 hs1 kw : Nat → Option Addr × Nat} (e2 : T 2 = .pointer (some ⟨b2, 0, none⟩)) (e3 : T 3 = .pointer (some ⟨b3, 0, none⟩)) (e6 : T 6 = .pointer (some ⟨b6, 0, none⟩)) (e7 : T 7 = .int .i64 (joinV x0 x1).2)
    (p2 : TabP G (some ⟨b2, 0, none⟩) x0 A0 c0 B0 d0 hs0) (p3 : TabP G (some ⟨b3, 0, none⟩) x1 A1 c1 B1 d1 hs1) (pw : TabP G (some ⟨b6, 0, none⟩) (joinV x0 x1).1 Xw xw Yw yw kw) (l0 : x0.cols.length ≤ 2 ^ 20) (l1 : x1.cols.length ≤ 2 ^ 20) (m0 : Sm x0.rows) (m1 : Sm x1.rows) (u0 : pre x0.rows x0.rows.length ≤ 2 ^ 20) (u1 : pre x1.rows x1.rows.length ≤ 2 ^ 20)
    (hX : ∀ (T' : Nat → Value) (H : GH) (b10 : Nat) (Xg Yg : Option Addr) (xg yg : Nat) (kg : Nat → Option Addr × Nat), T' 2 = .pointer (some ⟨b2, 0, none⟩) → T' 3 = .pointer (some ⟨b3, 0, none⟩) → T' 6 = .pointer (some ⟨b6, 0, none⟩) → T' 7 = .int .i64 (joinV x0 x1).2 → T' 10 = .pointer (some ⟨b10, 0, none⟩) → T' 13 = .int .i64 (1 + (joinV x0 x1).1.cols.length + pre (joinV x0 x1).1.rows (joinV x0 x1).1.rows.length) → Sub G H →
      rd H (some ⟨b10, 0, none⟩) = some (.slice Xg (joinV x0 x1).1.cols.length xg) → rd H (some ⟨b10, 1, none⟩) = some (.slice Yg (joinV x0 x1).1.rows.length yg) → OwnT H (mkT 1 (joinV x0 x1).1) Xg xg Yg yg kg → gW Try.prog X (RetK [RV.t 4] fun v _ => v = .bool true) T' H) :
    gW Try.prog (.seq (.reg c_laws_FnExactJoinTables_9) (.seq (.reg c_laws_FnExactJoinTables_10) (.seq (.reg c_laws_FnExactJoinTables_11) (.seq (.seq (.reg c_laws_FnExactJoinTables_12) (.cond (tt 53) (.seq (.reg c_laws_FnExactJoinTables_13) (.ret)) (.skip))) (.seq (.seq (.dreg c_laws_FnExactJoinTables_14) (.cond (tt 58) (.seq (.reg c_laws_FnExactJoinTables_15) (.ret)) (.skip))) (.seq (.seq (.dreg c_laws_FnExactJoinTables_16) (.cond (tt 63) (.seq (.reg c_laws_FnExactJoinTables_17) (.ret)) (.skip))) (.seq (.reg c_laws_FnExactJoinTables_18) (.seq (.reg c_laws_FnExactJoinTables_19) (.seq (.reg c_laws_FnExactJoinTables_20) (.seq (.seq (.reg c_laws_FnExactJoinTables_21) (.cond (tt 82) (.seq (.reg c_laws_FnExactJoinTables_22) (.ret)) (.skip))) (.seq (.reg c_laws_FnExactJoinTables_23) (.seq (.reg c_laws_FnExactJoinTables_24) (.seq (.reg c_laws_FnExactJoinTables_25) (.seq (.reg c_laws_FnExactJoinTables_26) (.seq (.seq (.reg c_laws_FnExactJoinTables_27) (.cond (tt 90) (.seq (.reg c_laws_FnExactJoinTables_28) (.ret)) (.skip))) (.seq (.seq (.reg c_laws_FnExactJoinTables_29) (.cond (tt 93) (.seq (.reg c_laws_FnExactJoinTables_30) (.ret)) (.skip))) X)))))))))))))))) (RetK [RV.t 4] fun v _ => v = .bool true) T G := by
  have one2 : ∀ {X Y : Option Addr} {a b x y : Nat}, ∀ v ∈ [Value.slice X a x, Value.slice Y b y], oneB v = true := fun v hv => by simp at hv; rcases hv with rfl | rfl <;> rfl
  obtain ⟨vc, vm, vp⟩ := join_sm x0 x1
  have z0 : ((joinV x0 x1).2 = (joinV x0 x1).2) = True := eq_true rfl
  -- the copies
  simp (maxSteps := 300000) (disch := omega) only [gs, gs2, gs3, gs4, ↓reduceIte, Nat.reduceEqDiff, Int.reduceToNat, Nat.reduceMul, Nat.reduceAdd, Nat.reduceBEq, isLd, e2, e3, e6, e7, p2.f0, p2.g1]
  refine laws_toTable_new p2.cols p2.rows l0 m0 fun Aa Ba ka Ga na => ?_
  unfold tabV tabC
  simp (maxSteps := 300000) (disch := omega) only [gs, gs2, gs3, gs4, ↓reduceIte, Nat.reduceEqDiff, Int.reduceToNat, Nat.reduceMul, Nat.reduceAdd, Nat.reduceBEq, isLd]
  intro b8 hb8
  simp (maxSteps := 300000) (disch := omega) only [gs, gs2, gs3, gs4, ↓reduceIte, Nat.reduceEqDiff, Int.reduceToNat, Nat.reduceMul, Nat.reduceAdd, Nat.reduceBEq, isLd]
  refine st_fresh (vs := [.slice Aa x0.cols.length x0.cols.length, .slice Ba x0.rows.length x0.rows.length]) rfl rfl rfl one2 ?_
  have ba := BoxT.mk1 na (Sub.refl G) hb8
  revert ba
  generalize put Ga b8 ⟨[.slice Aa x0.cols.length x0.cols.length, .slice Ba x0.rows.length x0.rows.length], true⟩ = G8
  intro ba
  clear na hb8
  have p38 := p3.sub ba.sub
  simp (maxSteps := 300000) (disch := omega) only [gs, gs2, gs3, gs4, ↓reduceIte, Nat.reduceEqDiff, Int.reduceToNat, Nat.reduceMul, Nat.reduceAdd, Nat.reduceBEq, isLd, e2, e3, e6, e7, p38.f0, p38.g1]
  refine laws_toTable_new p38.cols p38.rows l1 m1 fun Ab Bb kb Gb nb => ?_
  unfold tabV tabC
  simp (maxSteps := 300000) (disch := omega) only [gs, gs2, gs3, gs4, ↓reduceIte, Nat.reduceEqDiff, Int.reduceToNat, Nat.reduceMul, Nat.reduceAdd, Nat.reduceBEq, isLd]
  intro b9 hb9
  simp (maxSteps := 300000) (disch := omega) only [gs, gs2, gs3, gs4, ↓reduceIte, Nat.reduceEqDiff, Int.reduceToNat, Nat.reduceMul, Nat.reduceAdd, Nat.reduceBEq, isLd]
  refine st_fresh (vs := [.slice Ab x1.cols.length x1.cols.length, .slice Bb x1.rows.length x1.rows.length]) rfl rfl rfl one2 ?_
  have bb := BoxT.mk1 nb (Sub.refl G8) hb9
  revert bb
  generalize put Gb b9 ⟨[.slice Ab x1.cols.length x1.cols.length, .slice Bb x1.rows.length x1.rows.length], true⟩ = G9
  intro bb
  clear nb hb9 p38
  have pa9 := ba.p.sub ((Sub.rest _ _).trans bb.sub)
  have pb9 := bb.p.sub (Sub.rest _ _)
  simp (maxSteps := 300000) (disch := omega) only [gs, gs2, gs3, gs4, ↓reduceIte, Nat.reduceEqDiff, Int.reduceToNat, Nat.reduceMul, Nat.reduceAdd, Nat.reduceBEq, isLd, e2, e3, e6, e7, pa9.f0, pa9.g1, pb9.f0, pb9.g1]
  refine impl_JoinTables_ok pa9.cols pa9.rows pb9.cols pb9.rows (by omega) (by omega) m0.sh m1.sh fun Gg Xg xg Yg yg kg hN => ?_
  unfold tabV tabC
  simp (maxSteps := 300000) (disch := omega) only [gs, gs2, gs3, gs4, ↓reduceIte, Nat.reduceEqDiff, Int.reduceToNat, Nat.reduceMul, Nat.reduceAdd, Nat.reduceBEq, isLd]
  intro b10 hb10
  simp (maxSteps := 300000) (disch := omega) only [gs, gs2, gs3, gs4, ↓reduceIte, Nat.reduceEqDiff, Int.reduceToNat, Nat.reduceMul, Nat.reduceAdd, Nat.reduceBEq, isLd]
  refine st_fresh (vs := [.slice Xg (joinV x0 x1).1.cols.length xg, .slice Yg (joinV x0 x1).1.rows.length yg]) rfl rfl rfl one2 ?_
  have bg := BoxT.mk1 hN (Sub.refl G9) hb10
  revert bg
  generalize put Gg b10 ⟨[.slice Xg (joinV x0 x1).1.cols.length xg, .slice Yg (joinV x0 x1).1.rows.length yg], true⟩ = C
  intro bg
  clear hN hb10 pa9 pb9
  have sG : Sub G C := (ba.sub.trans bb.sub).trans bg.sub
  have sa : Sub (rest G G8) C := ((Sub.rest _ _).trans bb.sub).trans bg.sub
  have sb : Sub (rest G8 G9) C := (Sub.rest _ _).trans bg.sub
  have sg : Sub (rest G9 C) C := Sub.rest _ _
  -- the results are the same
  have pg := bg.p.sub sg
  have pw' := pw.sub sG
  simp (maxSteps := 300000) (disch := omega) only [gs, gs2, gs3, gs4, ↓reduceIte, Nat.reduceEqDiff, Int.reduceToNat, Nat.reduceMul, Nat.reduceAdd, Nat.reduceBEq, isLd, e2, e3, e6, e7, pg.f0, pg.g1, pw'.f0, pw'.g1]
  refine laws_eqTable_ok pg.cols pg.rows pw'.cols pw'.rows (by omega) (by have := vm.1; omega) (fun i hi => by have := vm.2 i hi; omega) fun z hz => ?_
  obtain rfl : z = true := hz.2 rfl
  simp (maxSteps := 300000) (disch := omega) only [gs, gs2, gs3, gs4, ↓reduceIte, Nat.reduceEqDiff, Int.reduceToNat, Nat.reduceMul, Nat.reduceAdd, Nat.reduceBEq, isLd, e2, e3, e6, e7, z0]
  -- the arguments stand
  have q2 := p2.sub sG
  have q3 := p3.sub sG
  have qa := ba.p.sub sa
  have qb := bb.p.sub sb
  simp (maxSteps := 300000) (disch := omega) only [gs, gs2, gs3, gs4, ↓reduceIte, Nat.reduceEqDiff, Int.reduceToNat, Nat.reduceMul, Nat.reduceAdd, Nat.reduceBEq, isLd, e2, e3, e6, e7, qa.f0, qa.g1, q2.f0, q2.g1]
  refine laws_toTable_ok' q2.cols q2.rows l0 m0 fun Ae Be ke Ge se ie re => ?_
  simp (maxSteps := 300000) (disch := omega) only [gs, gs2, gs3, gs4, ↓reduceIte, Nat.reduceEqDiff, Int.reduceToNat, Nat.reduceMul, Nat.reduceAdd, Nat.reduceBEq, isLd, e2, e3, e6, e7, rd_sub se qa.f0, rd_sub se qa.g1, rd_sub se q2.f0, rd_sub se q2.g1]
  refine laws_eqTable_ok (N := x0) (M := x0) (qa.cols.sub se) (qa.rows.sub se) ie re (by omega) (by have := m0.1; omega) (fun i hi => by have := m0.2 i hi; omega) fun z hz => ?_
  obtain rfl : z = true := hz.2 rfl
  have sG := sG.trans se
  have sa := sa.trans se
  have sb := sb.trans se
  have sg := sg.trans se
  have q2 := p2.sub sG
  have q3 := p3.sub sG
  have qa := ba.p.sub sa
  have qb := bb.p.sub sb
  simp (maxSteps := 300000) (disch := omega) only [gs, gs2, gs3, gs4, ↓reduceIte, Nat.reduceEqDiff, Int.reduceToNat, Nat.reduceMul, Nat.reduceAdd, Nat.reduceBEq, isLd, e2, e3, e6, e7, q2.f0, q2.g1, q3.f0, q3.g1, qa.f0, qa.g1, qb.f0, qb.g1]
  refine laws_toTable_ok' q3.cols q3.rows l1 m1 fun Af Bf kf Gf sf iff rf => ?_
  simp (maxSteps := 300000) (disch := omega) only [gs, gs2, gs3, gs4, ↓reduceIte, Nat.reduceEqDiff, Int.reduceToNat, Nat.reduceMul, Nat.reduceAdd, Nat.reduceBEq, isLd, e2, e3, e6, e7, rd_sub sf qb.f0, rd_sub sf qb.g1, rd_sub sf q3.f0, rd_sub sf q3.g1]
  refine laws_eqTable_ok (N := x1) (M := x1) (qb.cols.sub sf) (qb.rows.sub sf) iff rf (by omega) (by have := m1.1; omega) (fun i hi => by have := m1.2 i hi; omega) fun z hz => ?_
  obtain rfl : z = true := hz.2 rfl
  have sG := sG.trans sf
  have sa := sa.trans sf
  have sb := sb.trans sf
  have sg := sg.trans sf
  clear q2 q3 qa qb se ie re iff rf
  -- marks in the arguments
  have q2 := p2.sub sG
  have q3 := p3.sub sG
  have qa := ba.p.sub sa
  have qb := bb.p.sub sb
  simp (maxSteps := 300000) (disch := omega) only [gs, gs2, gs3, gs4, ↓reduceIte, Nat.reduceEqDiff, Int.reduceToNat, Nat.reduceMul, Nat.reduceAdd, Nat.reduceBEq, isLd, e2, e3, e6, e7, q2.f0, q2.g1, q3.f0, q3.g1, qa.f0, qa.g1, qb.f0, qb.g1]
  refine laws_markTable_ok (ba.own.sub sa) l0 m0 u0 (by omega) fun Gh1 v1 _ => ?_
  have sG := v1.sub sG fun x hx => (ba.off x hx).1
  have sb := v1.sub sb fun x hx => rest_no (ba.off x hx).2
  have sg := v1.sub sg fun x hx => rest_no (on_sub bb.sub (ba.off x hx).2)
  have qb := bb.p.sub sb
  simp (maxSteps := 300000) (disch := omega) only [gs, gs2, gs3, gs4, ↓reduceIte, Nat.reduceEqDiff, Int.reduceToNat, Nat.reduceMul, Nat.reduceAdd, Nat.reduceBEq, isLd, e2, e3, e6, e7, qb.f0, qb.g1]
  refine laws_markTable_ok (bb.own.sub sb) l1 m1 u1 (by omega) fun Gh2 v2 _ => ?_
  have sG := v2.sub sG fun x hx => ba.sub.none (bb.off x hx).1
  have sg := v2.sub sg fun x hx => rest_no (bb.off x hx).2
  have pg := bg.p.sub sg
  have pw' := pw.sub sG
  have nn : ∀ z : Int, 0 ≤ z → (z < 0) = False := fun z hz => eq_false (by omega)
  simp (maxSteps := 300000) (disch := omega) only [gs, gs2, gs3, gs4, ↓reduceIte, Nat.reduceEqDiff, Int.reduceToNat, Nat.reduceMul, Nat.reduceAdd, Nat.reduceBEq, isLd, e2, e3, e6, e7, pg.f0, pg.g1, pw'.f0, pw'.g1, nn]
  refine laws_eqTable_ok pg.cols pg.rows pw'.cols pw'.rows (by omega) (by have := vm.1; omega) (fun i hi => by have := vm.2 i hi; omega) fun z hz => ?_
  obtain rfl : z = true := hz.2 rfl
  simp (maxSteps := 300000) (disch := omega) only [gs, gs2, gs3, gs4, ↓reduceIte, Nat.reduceEqDiff, Int.reduceToNat, Nat.reduceMul, Nat.reduceAdd, Nat.reduceBEq, isLd, e2, e3, e6, e7, z0, pg.f0, pg.g1]
  -- marks in the result
  refine laws_markTable_ok (bg.own.sub sg) vc vm vp (by omega) fun Gh3 v3 hm => ?_
  have sG := v3.sub sG fun x hx => (ba.sub.trans bb.sub).none (bg.off x hx).1
  have hb : Gh3 b10 = Gh2 b10 := v3 b10 bg.nb
  have k0 : rd Gh3 (some ⟨b10, 0, none⟩) = some (.slice Xg (joinV x0 x1).1.cols.length xg) := by
    have := pg.f0; simp only [rd] at this ⊢; rw [hb]; exact this
  have k1 : rd Gh3 (some ⟨b10, 1, none⟩) = some (.slice Yg (joinV x0 x1).1.rows.length yg) := by
    have := pg.g1; simp only [rd] at this ⊢; rw [hb]; exact this
  simp (maxSteps := 300000) (disch := omega) only [gs, gs2, gs3, gs4, ↓reduceIte, Nat.reduceEqDiff, Int.reduceToNat, Nat.reduceMul, Nat.reduceAdd, Nat.reduceBEq, isLd, e2, e3, e6, e7, k0, k1]
  refine laws_heldTable_ok hm vc vm vp (by omega) ?_
  simp (maxSteps := 300000) (disch := omega) only [gs, gs2, gs3, gs4, ↓reduceIte, Nat.reduceEqDiff, Int.reduceToNat, Nat.reduceMul, Nat.reduceAdd, Nat.reduceBEq, isLd, e2, e3, e6, e7, k0, k1, nn, eq_true (show (1 : Int) + ((joinV x0 x1).1.cols.length : Int) + (pre (joinV x0 x1).1.rows (joinV x0 x1).1.rows.length : Int) = 1 + ((joinV x0 x1).1.cols.length : Int) + (pre (joinV x0 x1).1.rows (joinV x0 x1).1.rows.length : Int) from rfl)]
  exact hX _ Gh3 b10 Xg Yg xg yg kg (by simp (maxSteps := 300000) (disch := omega) only [gs, gs2, gs3, gs4, ↓reduceIte, Nat.reduceEqDiff, Int.reduceToNat, Nat.reduceMul, Nat.reduceAdd, Nat.reduceBEq, isLd, e2]) (by simp (maxSteps := 300000) (disch := omega) only [gs, gs2, gs3, gs4, ↓reduceIte, Nat.reduceEqDiff, Int.reduceToNat, Nat.reduceMul, Nat.reduceAdd, Nat.reduceBEq, isLd, e3]) (by simp (maxSteps := 300000) (disch := omega) only [gs, gs2, gs3, gs4, ↓reduceIte, Nat.reduceEqDiff, Int.reduceToNat, Nat.reduceMul, Nat.reduceAdd, Nat.reduceBEq, isLd, e6]) (by simp (maxSteps := 300000) (disch := omega) only [gs, gs2, gs3, gs4, ↓reduceIte, Nat.reduceEqDiff, Int.reduceToNat, Nat.reduceMul, Nat.reduceAdd, Nat.reduceBEq, isLd, e7]) (by simp (maxSteps := 300000) (disch := omega) only [gs, gs2, gs3, gs4, ↓reduceIte, Nat.reduceEqDiff, Int.reduceToNat, Nat.reduceMul, Nat.reduceAdd, Nat.reduceBEq, isLd]) (by simp (maxSteps := 300000) (disch := omega) only [gs, gs2, gs3, gs4, ↓reduceIte, Nat.reduceEqDiff, Int.reduceToNat, Nat.reduceMul, Nat.reduceAdd, Nat.reduceBEq, isLd]) sG k0 k1 hm
theorem jj_tail {G : GH} {x0 x1 : Tab} {T : Nat → Value} {b2 b3 b6 b10 : Nat} {A0 B0 A1 B1 Xw Yw Xg Yg : Option Addr} {c0 d0 c1 d1 xw yw xg yg : Nat} {hs0 hs1 kw kg : Nat → Option Addr × Nat} (e2 : T 2 = .pointer (some ⟨b2, 0, none⟩)) (e3 : T 3 = .pointer (some ⟨b3, 0, none⟩)) (e6 : T 6 = .pointer (some ⟨b6, 0, none⟩)) (e7 : T 7 = .int .i64 (joinV x0 x1).2)
    (e10 : T 10 = .pointer (some ⟨b10, 0, none⟩)) (e13 : T 13 = .int .i64 (1 + (joinV x0 x1).1.cols.length + pre (joinV x0 x1).1.rows (joinV x0 x1).1.rows.length))
    (p2 : TabP G (some ⟨b2, 0, none⟩) x0 A0 c0 B0 d0 hs0) (p3 : TabP G (some ⟨b3, 0, none⟩) x1 A1 c1 B1 d1 hs1) (pw : TabP G (some ⟨b6, 0, none⟩) (joinV x0 x1).1 Xw xw Yw yw kw) (l0 : x0.cols.length ≤ 2 ^ 20) (l1 : x1.cols.length ≤ 2 ^ 20) (m0 : Sm x0.rows) (m1 : Sm x1.rows)
    (k0 : rd G (some ⟨b10, 0, none⟩) = some (.slice Xg (joinV x0 x1).1.cols.length xg)) (k1 : rd G (some ⟨b10, 1, none⟩) = some (.slice Yg (joinV x0 x1).1.rows.length yg)) (hm : OwnT G (mkT 1 (joinV x0 x1).1) Xg xg Yg yg kg) :
    gW Try.prog (.seq (.dtree c_laws_FnExactJoinTables_31) (.seq (.seq (.reg c_laws_FnExactJoinTables_32) (.cond (tt 110) (.seq (.reg c_laws_FnExactJoinTables_33) (.ret)) (.skip))) (.seq (.reg c_laws_FnExactJoinTables_34) (.seq (.reg c_laws_FnExactJoinTables_35) (.seq (.seq (.reg c_laws_FnExactJoinTables_36) (.cond (tt 115) (.seq (.reg c_laws_FnExactJoinTables_37) (.ret)) (.skip))) (.seq (.seq (.reg c_laws_FnExactJoinTables_38) (.cond (tt 118) (.seq (.reg c_laws_FnExactJoinTables_39) (.ret)) (.skip))) (.seq (.reg c_laws_FnExactJoinTables_40) (.ret)))))))) (RetK [RV.t 4] fun v _ => v = .bool true) T G := by
  obtain ⟨vc, vm, vp⟩ := join_sm x0 x1
  have z0 : ((joinV x0 x1).2 = (joinV x0 x1).2) = True := eq_true rfl
  have nn : ∀ z : Int, 0 ≤ z → (z < 0) = False := fun z hz => eq_false (by omega)
  simp only [gW_seq, gW_dtree]
  refine jj_h e2 e3 p2.f0 p2.g1 p3.f0 p3.g1 p2.cols p2.rows p3.cols p3.rows l0 l1 m0 m1 fun T' G' b15 Xh xh Yh yh kh bh hT e15 e16 => ?_
  have f6 := (hT 6 (by omega)).trans e6
  have f7 := (hT 7 (by omega)).trans e7
  have f10 := (hT 10 (by omega)).trans e10
  have f13 := (hT 13 (by omega)).trans e13
  have ph := bh.p.sub (Sub.rest _ _)
  have pw' := pw.sub bh.sub
  simp (maxSteps := 300000) (disch := omega) only [gs, gs2, gs3, gs4, ↓reduceIte, Nat.reduceEqDiff, Int.reduceToNat, Nat.reduceMul, Nat.reduceAdd, Nat.reduceBEq, isLd, f6, f7, f10, f13, e15, e16, ph.f0, ph.g1, pw'.f0, pw'.g1]
  refine laws_eqTable_ok ph.cols ph.rows pw'.cols pw'.rows (by omega) (by have := vm.1; omega) (fun i hi => by have := vm.2 i hi; omega) fun z hz => ?_
  obtain rfl : z = true := hz.2 rfl
  simp (maxSteps := 300000) (disch := omega) only [gs, gs2, gs3, gs4, ↓reduceIte, Nat.reduceEqDiff, Int.reduceToNat, Nat.reduceMul, Nat.reduceAdd, Nat.reduceBEq, isLd, f6, f7, f10, f13, e15, e16, z0, rd_sub bh.sub k0, rd_sub bh.sub k1]
  refine laws_heldTable_ok (hm.sub bh.sub) vc vm vp (by omega) ?_
  simp (maxSteps := 300000) (disch := omega) only [gs, gs2, gs3, gs4, ↓reduceIte, Nat.reduceEqDiff, Int.reduceToNat, Nat.reduceMul, Nat.reduceAdd, Nat.reduceBEq, isLd, f6, f7, f10, f13, e15, e16, nn, eq_true (show (1 : Int) + ((joinV x0 x1).1.cols.length : Int) + (pre (joinV x0 x1).1.rows (joinV x0 x1).1.rows.length : Int) = 1 + ((joinV x0 x1).1.cols.length : Int) + (pre (joinV x0 x1).1.rows (joinV x0 x1).1.rows.length : Int) from rfl)]
theorem law_JoinTables {G : GH} {v0 v1 : Value} {x0 x1 : Tab} (h0 : TableV G v0 x0) (h1 : TableV G v1 x1) : GC Try.prog 7 [v0, v1] G fun v _ => v = .bool true := by
  refine c_laws_FnExactJoinTables_i (by simp) ?_
  refine jj_head h0 h1 fun T H b2 b3 A0 B0 A1 B1 c0 d0 c1 d1 hs0 hs1 e2 e3 p2 p3 l0 l1 m0 m1 u0 u1 => ?_
  simp only [gW_seq, gW_dtree]
  refine jj_w e2 e3 p2.f0 p2.g1 p3.f0 p3.g1 p2.cols p2.rows p3.cols p3.rows l0 l1 m0 m1 fun T' G' b6 Xw xw Yw yw kw bw hT e6 e7 => ?_
  simp only [SeqK_nrm]
  refine jj_mid ((hT 2 (by omega)).trans e2) ((hT 3 (by omega)).trans e3) e6 e7 (p2.sub bw.sub) (p3.sub bw.sub) (bw.p.sub (Sub.rest _ _)) l0 l1 m0 m1 u0 u1 fun T2 H2 b10 Xg Yg xg yg kg f2 f3 f6 f7 f10 f13 s2 k0 k1 hm => ?_
  exact jj_tail f2 f3 f6 f7 f10 f13 ((p2.sub bw.sub).sub s2) ((p3.sub bw.sub).sub s2) ((bw.p.sub (Sub.rest _ _)).sub s2) l0 l1 m0 m1 k0 k1 hm

end Go.Proofs.Ytanpmilodaejpaa.Gh
