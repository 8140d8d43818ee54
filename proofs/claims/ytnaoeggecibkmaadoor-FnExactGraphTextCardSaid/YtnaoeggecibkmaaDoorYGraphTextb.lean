/- What the functions that the law GraphText reaches return, and the law; it stands under no condition. -/
import Derived.Test.YtnaoeggecibkmaaDoorYGraphTexta
import Derived.Deep.Draws
import Derived.Lib.ItoaNum
import Derived.Shelf.Lays
import Derived.Shelf.LaysM
import Derived.Shelf.Strconv.Itoa4
import Derived.Shelf.Strings.OnBuilder
import Derived.Shelf.Strings.Builder2
import Derived.Lib.Join
import Derived.Lib.ParseIntB
namespace Go.Proofs.YtnaoeggecibkmaaDoor.Gh
open Go Go.RowKit Go.Proofs
open Nat (reduceEqDiff reduceMul reduceAdd)
open Int (reduceToNat)
set_option linter.unusedVariables false
set_option linter.unusedSimpArgs false
set_option maxHeartbeats 4000000

theorem gws : (type_of% @gs) ∧ (type_of% @gs2) ∧ (type_of% @gs3) ∧ (type_of% @gs4) := ⟨@gs, @gs2, @gs3, @gs4⟩
theorem st_one {G : GH} {b o : Nat} {cs : List Value} {v : Value} {K : Value → GH → Prop} (hb : G b = some ⟨cs, true⟩) (ho : o < cs.length) (h1 : oneB v = true) (hk : K undef (put G b ⟨cs.set o v, true⟩)) : gSt 1 (.pointer (some ⟨b, o, none⟩)) v G K := by
  have hc : v.cells = #[v] := by cases v <;> first | rfl | simp [oneB] at h1
  refine ⟨b, o, cs, rfl, hb, by rw [hc]; rfl, by omega, ?_, ?_⟩
  · rw [hc]; intro u hu; simp at hu; subst hu; exact h1
  · rw [hc]; exact hk
theorem laws_szEdgeS_ok {G : GH} {A : Option Addr} {n c : Nat} {left : Int} (h0 : -1 ≤ left ∧ left ≤ 2 ^ 20) (hn : n ≤ 2 ^ 63 - 1) {K : Value → GH → Prop} (hk : ∀ l : Int, -1 ≤ l → l ≤ 2 ^ 20 → (0 ≤ l → l + n ≤ left) → K (.int .i64 l) G) :
    GC Tryd.prog 36 [.slice A n c, .int .i64 left] G K := by
  refine k3p (by simp) ?_
  simp (maxSteps := 300000) (disch := omega) only [gws, ↓reduceIte, reduceEqDiff, reduceToNat, reduceMul, reduceAdd, Nat.reduceBEq, isLd]
  by_cases h : left - (n : Int) < 0
  · simp (maxSteps := 300000) (disch := omega) only [gws, ↓reduceIte, reduceEqDiff, reduceToNat, reduceMul, reduceAdd, Nat.reduceBEq, isLd, h]; exact hk _ (by omega) (by omega) (by omega)
  · simp (maxSteps := 300000) (disch := omega) only [gws, ↓reduceIte, reduceEqDiff, reduceToNat, reduceMul, reduceAdd, Nat.reduceBEq, isLd, h]; exact hk _ (by omega) (by omega) (by omega)
theorem laws_toEdge_ok {G : GH} (e : T3) {K : Value → GH → Prop} (hk : K (V3 e) G) : GC Tryd.prog 82 [V3 e] G K := by
  refine GC_drop (k46 (by simp) ?_)
  unfold V3 c3
  simp (maxSteps := 300000) (disch := omega) only [gws, ↓reduceIte, reduceEqDiff, reduceToNat, reduceMul, reduceAdd, Nat.reduceBEq, isLd]
  intro b1 hb1
  simp (maxSteps := 300000) (disch := omega) only [gws, ↓reduceIte, reduceEqDiff, reduceToNat, reduceMul, reduceAdd, Nat.reduceBEq, isLd]
  intro b2 hb2
  simp (maxSteps := 300000) (disch := omega) only [gws, ↓reduceIte, reduceEqDiff, reduceToNat, reduceMul, reduceAdd, Nat.reduceBEq, isLd]
  intro b3 hb3
  simp only [put_none] at hb2 hb3
  obtain ⟨n12, f2⟩ := hb2
  obtain ⟨n23, n13, f3⟩ := hb3
  simp (maxSteps := 300000) (disch := omega) only [gws, ↓reduceIte, reduceEqDiff, reduceToNat, reduceMul, reduceAdd, Nat.reduceBEq, isLd]
  refine st_one (put_same _ _ _) (by simp) rfl ?_
  simp (maxSteps := 300000) (disch := omega) only [gws, ↓reduceIte, reduceEqDiff, reduceToNat, reduceMul, reduceAdd, Nat.reduceBEq, isLd]
  refine st_one (put_same _ _ _) (by simp) rfl ?_
  simp (maxSteps := 300000) (disch := omega) only [gws, ↓reduceIte, reduceEqDiff, reduceToNat, reduceMul, reduceAdd, Nat.reduceBEq, isLd]
  refine st_one (put_same _ _ _) (by simp) rfl ?_
  simp (maxSteps := 300000) (disch := omega) only [gws, ↓reduceIte, reduceEqDiff, reduceToNat, reduceMul, reduceAdd, Nat.reduceBEq, isLd]
  refine st_many rfl (by rw [put_ne _ _ n23.symm]; exact put_same _ _ _) rfl (by simp) (c3_one e) ?_
  simp (maxSteps := 300000) (disch := omega) only [gws, ↓reduceIte, reduceEqDiff, reduceToNat, reduceMul, reduceAdd, Nat.reduceBEq, isLd, over]
  exact ⟨G, (((Sub.refl G).skip hb1).skip f2 |>.skip f3).skip f2, hk⟩
theorem laws_toEdgeS_ok {G : GH} {A : Option Addr} {c : Nat} {xs : List T3} (h : T3S G A c xs) (hl : xs.length ≤ 2 ^ 20) {K : Value → GH → Prop}
    (hk : ∀ b, G b = none → K (.slice (some ⟨b, 0, none⟩) xs.length xs.length) (put G b ⟨flat3 xs, true⟩)) : GC Tryd.prog 39 [.slice A xs.length c] G K := by
  refine k4h (by simp) ?_
  have hsn := h.sn
  simp (maxSteps := 300000) (disch := omega) only [gws, ↓reduceIte, reduceEqDiff, reduceToNat, reduceMul, reduceAdd, Nat.reduceBEq, isLd]
  refine ⟨xs.length, xs.length, rfl, rfl, Nat.le_refl _, by omega, by omega, fun b hb => ?_⟩
  simp (maxSteps := 300000) (disch := omega) only [gws, ↓reduceIte, reduceEqDiff, reduceToNat, reduceMul, reduceAdd, Nat.reduceBEq, isLd]
  refine gLoop_intro (fun m T G' => ∃ k : Nat, T 0 = .slice A xs.length c ∧ T 3 = .slice (some ⟨b, 0, none⟩) xs.length xs.length ∧ T 4 = .int .i64 k ∧ m + k = xs.length ∧ k ≤ xs.length ∧
    G' = put G b ⟨flat3 (xs.take k) ++ List.replicate ((xs.length - k) * 3) (.int .i64 0), true⟩) xs.length ⟨0, by simp (maxSteps := 300000) (disch := omega) only [gws, ↓reduceIte, reduceEqDiff, reduceToNat, reduceMul, reduceAdd, Nat.reduceBEq, isLd], by simp (maxSteps := 300000) (disch := omega) only [gws, ↓reduceIte, reduceEqDiff, reduceToNat, reduceMul, reduceAdd, Nat.reduceBEq, isLd], by simp (maxSteps := 300000) (disch := omega) only [gws, ↓reduceIte, reduceEqDiff, reduceToNat, reduceMul, reduceAdd, Nat.reduceBEq, isLd] <;> rfl, by omega, by omega, by rw [show [Value.int .i64 0, .int .i64 0, .int .i64 0] = List.replicate 3 (.int .i64 0) from rfl, zc_rep]; simp [flat3]⟩ ?_
  rintro m T G' ⟨k, h0, h3, h4, hm, hkl, rfl⟩
  have h' := h.sub (Sub.put hb ⟨flat3 (xs.take k) ++ List.replicate ((xs.length - k) * 3) (.int .i64 0), true⟩)
  have q0 := h'.r0
  have q1 := h'.r1
  have q2 := h'.r2
  simp (maxSteps := 300000) (disch := omega) only [gws, ↓reduceIte, reduceEqDiff, reduceToNat, reduceMul, reduceAdd, Nat.reduceBEq, isLd, h0, h3, h4]
  by_cases hlt : (k : Int) < xs.length
  · simp (maxSteps := 300000) (disch := omega) only [gws, ↓reduceIte, reduceEqDiff, reduceToNat, reduceMul, reduceAdd, Nat.reduceBEq, isLd, h0, h3, h4, hlt, q0, q1, q2]
    refine laws_toEdge_ok (xs.getD k z3) ?_
    simp (maxSteps := 300000) (disch := omega) only [gws, ↓reduceIte, reduceEqDiff, reduceToNat, reduceMul, reduceAdd, Nat.reduceBEq, isLd, h0, h3, h4]
    refine st_many (vs := c3 (xs.getD k z3)) rfl (put_same _ _ _) rfl (by rw [List.length_append, flat3_len]; simp; omega) (c3_one _) ?_
    simp (maxSteps := 300000) (disch := omega) only [gws, ↓reduceIte, reduceEqDiff, reduceToNat, reduceMul, reduceAdd, Nat.reduceBEq, isLd, h0, h3, h4]
    rw [fill_set3 xs k (by omega)]
    refine ⟨m - 1, by omega, _, Sub.refl _, k + 1, rfl, by omega, by omega, rfl⟩
  · simp (maxSteps := 300000) (disch := omega) only [gws, ↓reduceIte, reduceEqDiff, reduceToNat, reduceMul, reduceAdd, Nat.reduceBEq, isLd, h0, h3, h4, hlt]
    have := hk b hb
    rw [show k = xs.length by omega]
    simpa using this
theorem laws_eqEdge_ok {G : GH} (e f : T3) {K : Value → GH → Prop} (hk : K (.bool (decide (e = f))) G) : GC Tryd.prog 87 [V3 e, V3 f] G K := by
  refine GC_drop (k2v (by simp) ?_)
  unfold V3 c3
  simp (maxSteps := 300000) (disch := omega) only [gws, ↓reduceIte, reduceEqDiff, reduceToNat, reduceMul, reduceAdd, Nat.reduceBEq, isLd]
  intro b1 hb1
  simp (maxSteps := 300000) (disch := omega) only [gws, ↓reduceIte, reduceEqDiff, reduceToNat, reduceMul, reduceAdd, Nat.reduceBEq, isLd]
  intro b2 hb2
  simp only [put_none] at hb2
  obtain ⟨n12, f2⟩ := hb2
  have hs : Sub G (put (put G b1 ⟨[.int .i64 e.1, .int .i64 e.2.1, .int .i64 e.2.2], true⟩) b2 ⟨[.int .i64 f.1, .int .i64 f.2.1, .int .i64 f.2.2], true⟩) := ((Sub.refl G).skip hb1).skip f2
  have he : ∀ b, decide (e = f) = b → ∃ G'', Sub G'' (put (put G b1 ⟨[.int .i64 e.1, .int .i64 e.2.1, .int .i64 e.2.2], true⟩) b2 ⟨[.int .i64 f.1, .int .i64 f.2.1, .int .i64 f.2.2], true⟩) ∧ K (.bool b) G'' := fun b hb => ⟨G, hs, hb ▸ hk⟩
  simp (maxSteps := 300000) (disch := omega) only [gws, ↓reduceIte, reduceEqDiff, reduceToNat, reduceMul, reduceAdd, Nat.reduceBEq, isLd]
  cases h1 : decide (¬ e.1 = f.1)
  · simp (maxSteps := 300000) (disch := omega) only [gws, ↓reduceIte, reduceEqDiff, reduceToNat, reduceMul, reduceAdd, Nat.reduceBEq, isLd]
    cases h2 : decide (¬ e.2.1 = f.2.1)
    · simp (maxSteps := 300000) (disch := omega) only [gws, ↓reduceIte, reduceEqDiff, reduceToNat, reduceMul, reduceAdd, Nat.reduceBEq, isLd]
      cases h3 : decide (¬ e.2.2 = f.2.2)
      · simp (maxSteps := 300000) (disch := omega) only [gws, ↓reduceIte, reduceEqDiff, reduceToNat, reduceMul, reduceAdd, Nat.reduceBEq, isLd]
        simp at h1 h2 h3
        exact he true (by simp [Prod.ext_iff, h1, h2, h3])
      · simp (maxSteps := 300000) (disch := omega) only [gws, ↓reduceIte, reduceEqDiff, reduceToNat, reduceMul, reduceAdd, Nat.reduceBEq, isLd]
        simp at h3
        exact he false (by simp [Prod.ext_iff, h3])
    · simp (maxSteps := 300000) (disch := omega) only [gws, ↓reduceIte, reduceEqDiff, reduceToNat, reduceMul, reduceAdd, Nat.reduceBEq, isLd]
      simp at h2
      exact he false (by simp [Prod.ext_iff, h2])
  · simp (maxSteps := 300000) (disch := omega) only [gws, ↓reduceIte, reduceEqDiff, reduceToNat, reduceMul, reduceAdd, Nat.reduceBEq, isLd]
    simp at h1
    exact he false (by simp [Prod.ext_iff, h1])
theorem laws_eqEdgeS_ok {G : GH} {A B : Option Addr} {c d : Nat} {xs ys : List T3} (h : T3S G A c xs) (h' : T3S G B d ys) (hl : xs.length < 2 ^ 40) {K : Value → GH → Prop}
    (hk : K (.bool (decide (xs = ys))) G) : GC Tryd.prog 44 [.slice A xs.length c, .slice B ys.length d] G K := by
  refine k38 (by simp) ?_
  have hsn := h.sn
  have hsn' := h'.sn
  have p0 := h.r0
  have p1 := h.r1
  have p2 := h.r2
  have q0 := h'.r0
  have q1 := h'.r1
  have q2 := h'.r2
  simp (maxSteps := 300000) (disch := omega) only [gws, ↓reduceIte, reduceEqDiff, reduceToNat, reduceMul, reduceAdd, Nat.reduceBEq, isLd]
  by_cases hne : xs.length = ys.length
  · simp (maxSteps := 300000) (disch := omega) only [gws, ↓reduceIte, reduceEqDiff, reduceToNat, reduceMul, reduceAdd, Nat.reduceBEq, isLd, show ((xs.length : Int) = ys.length) = True by simp [hne]]
    refine gLoop_intro (fun m T G' => ∃ k : Nat, T 0 = .slice A xs.length c ∧ T 1 = .slice B ys.length d ∧ T 5 = .int .i64 k ∧ m + k = xs.length ∧ k ≤ xs.length ∧ G' = G ∧ ∀ i, i < k → xs.getD i z3 = ys.getD i z3) xs.length
      ⟨0, by simp (maxSteps := 300000) (disch := omega) only [gws, ↓reduceIte, reduceEqDiff, reduceToNat, reduceMul, reduceAdd, Nat.reduceBEq, isLd], by simp (maxSteps := 300000) (disch := omega) only [gws, ↓reduceIte, reduceEqDiff, reduceToNat, reduceMul, reduceAdd, Nat.reduceBEq, isLd], by simp (maxSteps := 300000) (disch := omega) only [gws, ↓reduceIte, reduceEqDiff, reduceToNat, reduceMul, reduceAdd, Nat.reduceBEq, isLd] <;> rfl, by omega, by omega, rfl, fun i hi => by omega⟩ ?_
    rintro m T G' ⟨k, h0, h1, h5, hm, hkl, rfl, hinv⟩
    simp (maxSteps := 300000) (disch := omega) only [gws, ↓reduceIte, reduceEqDiff, reduceToNat, reduceMul, reduceAdd, Nat.reduceBEq, isLd, h0, h1, h5]
    by_cases hlt : (k : Int) < xs.length
    · simp (maxSteps := 300000) (disch := omega) only [gws, ↓reduceIte, reduceEqDiff, reduceToNat, reduceMul, reduceAdd, Nat.reduceBEq, isLd, h0, h1, h5, hlt, p0, p1, p2, q0, q1, q2]
      refine laws_eqEdge_ok (xs.getD k z3) (ys.getD k z3) ?_
      simp (maxSteps := 300000) (disch := omega) only [gws, ↓reduceIte, reduceEqDiff, reduceToNat, reduceMul, reduceAdd, Nat.reduceBEq, isLd, h0, h1, h5]
      cases hkk : decide (xs.getD k z3 = ys.getD k z3)
      · have hkk : ¬ xs.getD k z3 = ys.getD k z3 := of_decide_eq_false hkk
        simp (maxSteps := 300000) (disch := omega) only [gws, ↓reduceIte, reduceEqDiff, reduceToNat, reduceMul, reduceAdd, Nat.reduceBEq, isLd]
        have : ¬ xs = ys := by rintro rfl; exact hkk rfl
        simpa [this] using hk
      · have hkk : xs.getD k z3 = ys.getD k z3 := of_decide_eq_true hkk
        simp (maxSteps := 300000) (disch := omega) only [gws, ↓reduceIte, reduceEqDiff, reduceToNat, reduceMul, reduceAdd, Nat.reduceBEq, isLd, h0, h1, h5]
        refine ⟨m - 1, by omega, _, Sub.refl _, k + 1, rfl, by omega, by omega, rfl, fun i hi => ?_⟩
        by_cases hik : i = k
        · subst hik; exact hkk
        · exact hinv i (by omega)
    · simp (maxSteps := 300000) (disch := omega) only [gws, ↓reduceIte, reduceEqDiff, reduceToNat, reduceMul, reduceAdd, Nat.reduceBEq, isLd, h0, h1, h5, hlt]
      have : xs = ys := (t3_eq_iff hne).2 fun i hi => hinv i (by omega)
      simpa [this] using hk
  · simp (maxSteps := 300000) (disch := omega) only [gws, ↓reduceIte, reduceEqDiff, reduceToNat, reduceMul, reduceAdd, Nat.reduceBEq, isLd, show ((xs.length : Int) = ys.length) = False by simp; omega]
    have : ¬ xs = ys := by rintro rfl; exact hne rfl
    simpa [this] using hk
theorem laws_szGraph_ok {G : GH} {N : Gra} {A : Option Addr} {c : Nat} {left : Int} (h0 : -1 ≤ left ∧ left ≤ 2 ^ 20) (hn : N.edges.length ≤ 2 ^ 63 - 1) {K : Value → GH → Prop} (hk : ∀ l : Int, -1 ≤ l → l ≤ 2 ^ 20 → (0 ≤ l → l + N.edges.length ≤ left) → K (.int .i64 l) G) :
    GC Tryd.prog 9 [graV N A c, .int .i64 left] G K := by
  refine GC_drop (k3x (by simp) ?_)
  unfold graV graC
  simp (maxSteps := 300000) (disch := omega) only [gws, ↓reduceIte, reduceEqDiff, reduceToNat, reduceMul, reduceAdd, Nat.reduceBEq, isLd]
  intro b1 hb1
  simp (maxSteps := 300000) (disch := omega) only [gws, ↓reduceIte, reduceEqDiff, reduceToNat, reduceMul, reduceAdd, Nat.reduceBEq, isLd]
  refine laws_szEdgeS_ok h0 hn fun l hl1 hl2 hl3 => ?_
  simp (maxSteps := 300000) (disch := omega) only [gws, ↓reduceIte, reduceEqDiff, reduceToNat, reduceMul, reduceAdd, Nat.reduceBEq, isLd]
  by_cases h : l < 0
  · simp (maxSteps := 300000) (disch := omega) only [gws, ↓reduceIte, reduceEqDiff, reduceToNat, reduceMul, reduceAdd, Nat.reduceBEq, isLd, h]; exact ⟨G, Sub.put hb1 _, hk _ (by omega) (by omega) (by omega)⟩
  · simp (maxSteps := 300000) (disch := omega) only [gws, ↓reduceIte, reduceEqDiff, reduceToNat, reduceMul, reduceAdd, Nat.reduceBEq, isLd, h]; exact ⟨G, Sub.put hb1 _, hk _ (by omega) (by omega) (by omega)⟩
theorem laws_toGraph_ok {G : GH} {N : Gra} {A : Option Addr} {c : Nat} (h : T3S G A c N.edges) (hl : N.edges.length ≤ 2 ^ 20) {K : Value → GH → Prop}
    (hk : ∀ b, G b = none → K (graV N (some ⟨b, 0, none⟩) N.edges.length) (put G b ⟨flat3 N.edges, true⟩)) : GC Tryd.prog 11 [graV N A c] G K := by
  refine GC_drop (k4p (by simp) ?_)
  unfold graV graC
  simp (maxSteps := 300000) (disch := omega) only [gws, ↓reduceIte, reduceEqDiff, reduceToNat, reduceMul, reduceAdd, Nat.reduceBEq, isLd]
  intro b1 hb1
  simp (maxSteps := 300000) (disch := omega) only [gws, ↓reduceIte, reduceEqDiff, reduceToNat, reduceMul, reduceAdd, Nat.reduceBEq, isLd]
  intro b2 hb2
  simp (maxSteps := 300000) (disch := omega) only [gws, ↓reduceIte, reduceEqDiff, reduceToNat, reduceMul, reduceAdd, Nat.reduceBEq, isLd]
  intro b3 hb3
  simp only [put_none] at hb2 hb3
  obtain ⟨n12, f2⟩ := hb2
  obtain ⟨n23, n13, f3⟩ := hb3
  simp (maxSteps := 300000) (disch := omega) only [gws, ↓reduceIte, reduceEqDiff, reduceToNat, reduceMul, reduceAdd, Nat.reduceBEq, isLd]
  refine st_one (put_same _ _ _) (by simp) rfl ?_
  simp (maxSteps := 300000) (disch := omega) only [gws, ↓reduceIte, reduceEqDiff, reduceToNat, reduceMul, reduceAdd, Nat.reduceBEq, isLd]
  refine laws_toEdgeS_ok (h.sub ((((Sub.refl G).skip hb1).skip f2).skip f3)) hl fun b4 hb4 => ?_
  simp only [put_none] at hb4
  obtain ⟨n34, n24, n14, f4⟩ := hb4
  simp (maxSteps := 300000) (disch := omega) only [gws, ↓reduceIte, reduceEqDiff, reduceToNat, reduceMul, reduceAdd, Nat.reduceBEq, isLd]
  refine st_one (by rw [put_ne _ _ (by omega)]; exact put_same _ _ _) (by simp) rfl ?_
  simp (maxSteps := 300000) (disch := omega) only [gws, ↓reduceIte, reduceEqDiff, reduceToNat, reduceMul, reduceAdd, Nat.reduceBEq, isLd]
  refine st_many (vs := graC N (some ⟨b4, 0, none⟩) N.edges.length) rfl (by rw [put_ne _ _ (by omega), put_ne _ _ (by omega), put_ne _ _ (by omega)]; exact put_same _ _ _) rfl (by simp) (by intro v hv; simp [graC] at hv; rcases hv with rfl | rfl <;> rfl) ?_
  simp (maxSteps := 300000) (disch := omega) only [gws, ↓reduceIte, reduceEqDiff, reduceToNat, reduceMul, reduceAdd, Nat.reduceBEq, isLd, over, graC]
  refine ⟨_, ?_, hk b4 f4⟩
  refine Sub.skip (Sub.skip (Sub.both ((((Sub.refl G).skip hb1).skip f2).skip f3)) ?_) ?_
  · rw [put_none]; exact ⟨by omega, f3⟩
  · rw [put_none]; exact ⟨by omega, f2⟩
theorem laws_eqGraph_ok {G : GH} {N M : Gra} {A B : Option Addr} {c d : Nat} (h : T3S G A c N.edges) (h' : T3S G B d M.edges) (hl : N.edges.length < 2 ^ 40) {K : Value → GH → Prop}
    (hk : ∀ b : Bool, (b = true ↔ N = M) → K (.bool b) G) : GC Tryd.prog 13 [graV N A c, graV M B d] G K := by
  refine GC_drop (k3h (by simp) ?_)
  unfold graV graC
  simp (maxSteps := 300000) (disch := omega) only [gws, ↓reduceIte, reduceEqDiff, reduceToNat, reduceMul, reduceAdd, Nat.reduceBEq, isLd]
  intro b1 hb1
  simp (maxSteps := 300000) (disch := omega) only [gws, ↓reduceIte, reduceEqDiff, reduceToNat, reduceMul, reduceAdd, Nat.reduceBEq, isLd]
  intro b2 hb2
  simp only [put_none] at hb2
  obtain ⟨n12, f2⟩ := hb2
  have hs := ((Sub.refl G).skip hb1 (e := ⟨graC N A c, true⟩)).skip f2 (e := ⟨graC M B d, true⟩)
  unfold graC at hs
  simp (maxSteps := 300000) (disch := omega) only [gws, ↓reduceIte, reduceEqDiff, reduceToNat, reduceMul, reduceAdd, Nat.reduceBEq, isLd]
  have hN : N = M ↔ N.n = M.n ∧ N.edges = M.edges := by cases N; cases M; simp
  rw [hN] at hk
  cases h1 : decide (¬ N.n = M.n)
  · simp (maxSteps := 300000) (disch := omega) only [gws, ↓reduceIte, reduceEqDiff, reduceToNat, reduceMul, reduceAdd, Nat.reduceBEq, isLd]
    refine laws_eqEdgeS_ok (h.sub hs) (h'.sub hs) hl ?_
    simp (maxSteps := 300000) (disch := omega) only [gws, ↓reduceIte, reduceEqDiff, reduceToNat, reduceMul, reduceAdd, Nat.reduceBEq, isLd]
    cases h4 : decide (N.edges = M.edges)
    · simp (maxSteps := 300000) (disch := omega) only [gws, ↓reduceIte, reduceEqDiff, reduceToNat, reduceMul, reduceAdd, Nat.reduceBEq, isLd]
      simp at h4
      exact ⟨G, hs, hk false (by simp [h4])⟩
    · simp (maxSteps := 300000) (disch := omega) only [gws, ↓reduceIte, reduceEqDiff, reduceToNat, reduceMul, reduceAdd, Nat.reduceBEq, isLd]
      simp at h1 h4
      exact ⟨G, hs, hk true (by simp [h1, h4])⟩
  · simp (maxSteps := 300000) (disch := omega) only [gws, ↓reduceIte, reduceEqDiff, reduceToNat, reduceMul, reduceAdd, Nat.reduceBEq, isLd]
    simp at h1
    exact ⟨G, hs, hk false (by simp [h1])⟩
theorem laws_toGraph_ok' {G : GH} {N : Gra} {A : Option Addr} {c : Nat} (h : T3S G A c N.edges) (hl : N.edges.length ≤ 2 ^ 20) {K : Value → GH → Prop}
    (hk : ∀ A' G', Sub G G' → T3S G' A' N.edges.length N.edges → K (graV N A' N.edges.length) G') : GC Tryd.prog 11 [graV N A c] G K :=
  laws_toGraph_ok h hl fun b hb => hk _ _ (Sub.put hb _) (New.t3 (New.mk hb _ 3 _ (flat3_len _)))
theorem Own.t3 {G : GH} {A : Option Addr} {c : Nat} {es : List T3} (h : Own G A c (flat3 es) 3 es.length) : T3S G A c es := h.cells.t3 h.cap
theorem Own.mk {G : GH} {A : Option Addr} {c n : Nat} {k : Int} (h : Own G A c ((marks k n).map I64) 1 n) : IntS G A c (marks k n) := ⟨by rw [marks_len]; exact h.cap, cells_int' h.cells⟩
theorem spec_l00In_ok (a b c : Int) {G : GH} {K : Value → GH → Prop} (hk : K (.bool (decide (b ≤ a ∧ a ≤ c))) G) : GC Tryd.prog 80 [.int .i64 a, .int .i64 b, .int .i64 c] G K := by
  refine k51 (by simp) ?_
  simp (maxSteps := 300000) (disch := omega) only [gws, ↓reduceIte, reduceEqDiff, reduceToNat, reduceMul, reduceAdd, Nat.reduceBEq, isLd]
  by_cases h1 : b ≤ a
  · simp (maxSteps := 300000) (disch := omega) only [gws, ↓reduceIte, reduceEqDiff, reduceToNat, reduceMul, reduceAdd, Nat.reduceBEq, isLd, h1]
    simpa [h1] using hk
  · simp (maxSteps := 300000) (disch := omega) only [gws, ↓reduceIte, reduceEqDiff, reduceToNat, reduceMul, reduceAdd, Nat.reduceBEq, isLd, h1]
    simpa [h1] using hk
theorem impl_within_ok (a b c : Int) {G : GH} {K : Value → GH → Prop} (hk : K (.bool (decide (b ≤ a ∧ a ≤ c))) G) : GC Tryd.prog 83 [.int .i64 a, .int .i64 b, .int .i64 c] G K := by
  refine k24 (by simp) ?_
  simp (maxSteps := 300000) (disch := omega) only [gws, ↓reduceIte, reduceEqDiff, reduceToNat, reduceMul, reduceAdd, Nat.reduceBEq, isLd]
  by_cases h1 : b ≤ a
  · simp (maxSteps := 300000) (disch := omega) only [gws, ↓reduceIte, reduceEqDiff, reduceToNat, reduceMul, reduceAdd, Nat.reduceBEq, isLd, h1]
    simpa [h1] using hk
  · simp (maxSteps := 300000) (disch := omega) only [gws, ↓reduceIte, reduceEqDiff, reduceToNat, reduceMul, reduceAdd, Nat.reduceBEq, isLd, h1]
    simpa [h1] using hk
def cmp3 (a b : Int) : Int := if a < b then -1 else if b < a then 1 else 0
theorem cmp_isNaN_ok (a : Int) {G : GH} {K : Value → GH → Prop} (hk : K (.bool false) G) : GC Tryd.prog 110 [.int .i64 a] G K := by
  refine ky (by simp) ?_
  simp (maxSteps := 300000) (disch := omega) only [gws, ↓reduceIte, reduceEqDiff, reduceToNat, reduceMul, reduceAdd, Nat.reduceBEq, isLd]
  exact hk
theorem cmp_Compare_ok (a b : Int) {G : GH} {K : Value → GH → Prop} (hk : K (.int .i64 (cmp3 a b)) G) : GC Tryd.prog 92 [.int .i64 a, .int .i64 b] G K := by
  refine kg (by simp) ?_
  simp (maxSteps := 300000) (disch := omega) only [gws, ↓reduceIte, reduceEqDiff, reduceToNat, reduceMul, reduceAdd, Nat.reduceBEq, isLd]
  refine cmp_isNaN_ok _ ?_
  simp (maxSteps := 300000) (disch := omega) only [gws, ↓reduceIte, reduceEqDiff, reduceToNat, reduceMul, reduceAdd, Nat.reduceBEq, isLd]
  refine cmp_isNaN_ok _ ?_
  simp (maxSteps := 300000) (disch := omega) only [gws, ↓reduceIte, reduceEqDiff, reduceToNat, reduceMul, reduceAdd, Nat.reduceBEq, isLd]
  unfold cmp3 at hk
  by_cases h1 : a < b
  · simp (maxSteps := 300000) (disch := omega) only [gws, ↓reduceIte, reduceEqDiff, reduceToNat, reduceMul, reduceAdd, Nat.reduceBEq, isLd, h1]; rwa [if_pos h1] at hk
  · rw [if_neg h1] at hk
    simp (maxSteps := 300000) (disch := omega) only [gws, ↓reduceIte, reduceEqDiff, reduceToNat, reduceMul, reduceAdd, Nat.reduceBEq, isLd, h1]
    by_cases h2 : b < a
    · simp (maxSteps := 300000) (disch := omega) only [gws, ↓reduceIte, reduceEqDiff, reduceToNat, reduceMul, reduceAdd, Nat.reduceBEq, isLd, h2]; rwa [if_pos h2] at hk
    · simp (maxSteps := 300000) (disch := omega) only [gws, ↓reduceIte, reduceEqDiff, reduceToNat, reduceMul, reduceAdd, Nat.reduceBEq, isLd, h2]; rwa [if_neg h2] at hk
/-- cmp.Or of two numbers. -/
theorem cmp_Or_ok (a b : Int) {G : GH} {A : Option Addr} {c : Nat} (h0 : rd G A = some (.int .i64 a)) (h1 : rd G (pa A 1) = some (.int .i64 b)) {K : Value → GH → Prop} (hk : K (.int .i64 (if a = 0 then b else a)) G) : GC Tryd.prog 91 [.slice A 2 c] G K := by
  refine kt (by simp) ?_
  have hsn := rd_some h0
  simp (maxSteps := 300000) (disch := omega) only [gws, ↓reduceIte, reduceEqDiff, reduceToNat, reduceMul, reduceAdd, Nat.reduceBEq, isLd]
  refine gLoop_intro (fun m T G' => ∃ k : Nat, T 3 = .int .i64 0 ∧ T 6 = .slice A 2 c ∧ T 7 = .int .i64 2 ∧ T 8 = .int .i64 k ∧ m + k = 2 ∧ G' = G ∧ (k = 1 → a = 0) ∧ (k = 2 → a = 0 ∧ b = 0)) 2 ⟨0, by simp (maxSteps := 300000) (disch := omega) only [gws, ↓reduceIte, reduceEqDiff, reduceToNat, reduceMul, reduceAdd, Nat.reduceBEq, isLd], by simp (maxSteps := 300000) (disch := omega) only [gws, ↓reduceIte, reduceEqDiff, reduceToNat, reduceMul, reduceAdd, Nat.reduceBEq, isLd], by simp (maxSteps := 300000) (disch := omega) only [gws, ↓reduceIte, reduceEqDiff, reduceToNat, reduceMul, reduceAdd, Nat.reduceBEq, isLd] <;> rfl, by simp (maxSteps := 300000) (disch := omega) only [gws, ↓reduceIte, reduceEqDiff, reduceToNat, reduceMul, reduceAdd, Nat.reduceBEq, isLd] <;> rfl, by omega, rfl, by omega, by omega⟩ ?_
  rintro m T G' ⟨k, e3, e6, e7, e8, hm, rfl, ha, hb⟩
  simp (maxSteps := 300000) (disch := omega) only [gws, ↓reduceIte, reduceEqDiff, reduceToNat, reduceMul, reduceAdd, Nat.reduceBEq, isLd, e3, e6, e7, e8]
  have hk2 : k = 0 ∨ k = 1 ∨ k = 2 := by omega
  rcases hk2 with rfl | rfl | rfl
  · simp (maxSteps := 300000) (disch := omega) only [gws, ↓reduceIte, reduceEqDiff, reduceToNat, reduceMul, reduceAdd, Nat.reduceBEq, isLd, e3, e6, e7, e8, Int.natCast_zero, Int.reduceLT, Int.le_refl, h0]
    cases hz : decide (¬ a = 0)
    · simp (maxSteps := 300000) (disch := omega) only [gws, ↓reduceIte, reduceEqDiff, reduceToNat, reduceMul, reduceAdd, Nat.reduceBEq, isLd, e3, e6, e7, e8]
      have hz : a = 0 := by simpa using hz
      exact ⟨m - 1, by omega, _, Sub.refl _, 1, rfl, by omega, rfl, fun _ => hz, by omega⟩
    · simp (maxSteps := 300000) (disch := omega) only [gws, ↓reduceIte, reduceEqDiff, reduceToNat, reduceMul, reduceAdd, Nat.reduceBEq, isLd]
      have hz : ¬ a = 0 := by simpa using hz
      rwa [if_neg hz] at hk
  · rw [if_pos (ha rfl)] at hk
    simp (maxSteps := 300000) (disch := omega) only [gws, ↓reduceIte, reduceEqDiff, reduceToNat, reduceMul, reduceAdd, Nat.reduceBEq, isLd, e3, e6, e7, e8, Int.natCast_one, Int.reduceLT, Int.le_refl, h1]
    cases hz : decide (¬ b = 0)
    · simp (maxSteps := 300000) (disch := omega) only [gws, ↓reduceIte, reduceEqDiff, reduceToNat, reduceMul, reduceAdd, Nat.reduceBEq, isLd, e3, e6, e7, e8]
      have hz : b = 0 := by simpa using hz
      exact ⟨m - 1, by omega, _, Sub.refl _, 2, rfl, by omega, rfl, by omega, fun _ => ⟨ha rfl, hz⟩⟩
    · simp (maxSteps := 300000) (disch := omega) only [gws, ↓reduceIte, reduceEqDiff, reduceToNat, reduceMul, reduceAdd, Nat.reduceBEq, isLd]
      exact hk
  · rw [if_pos (hb rfl).1, (hb rfl).2] at hk
    simp (maxSteps := 300000) (disch := omega) only [gws, ↓reduceIte, reduceEqDiff, reduceToNat, reduceMul, reduceAdd, Nat.reduceBEq, isLd, e3, e6, e7, e8, Int.reduceLT, show (((2 : Nat) : Int) < 2) = False by decide]
    exact hk
def ltArc (a b : T3) : Prop := a.1 < b.1 ∨ a.1 = b.1 ∧ a.2.1 < b.2.1
theorem cmp_lt (a b : T3) : (0 ≤ (if cmp3 a.1 b.1 = 0 then cmp3 a.2.1 b.2.1 else cmp3 a.1 b.1)) ↔ ¬ ltArc a b := by
  unfold ltArc cmp3
  by_cases h1 : a.1 < b.1
  · simp [h1]
  · by_cases h2 : b.1 < a.1
    · simp [h1, h2]; omega
    · by_cases h3 : a.2.1 < b.2.1
      · simp [h1, h2, h3]; omega
      · by_cases h4 : b.2.1 < a.2.1 <;> simp [h1, h2, h3, h4] <;> omega
theorem Own.len {G : GH} {A : Option Addr} {c sz n : Nat} {cs : List Value} (h : Own G A c cs sz n) : cs.length = n * sz := by
  rcases h with ⟨_, _, rfl, rfl⟩ | ⟨b, r, _, _, h, _⟩
  · simp
  · exact h
theorem New.low {G H G' : GH} {A : Option Addr} {c sz n : Nat} {cs : List Value} (h : New G G' A c cs sz n) (s : Sub H G) : ∃ G'', Sub G'' G' ∧ New H G'' A c cs sz n := by
  rcases h with ⟨h1, h2, h3, h4, rfl⟩ | ⟨b, r, h1, h2, rfl, h3⟩
  · exact ⟨H, s, .inl ⟨h1, h2, h3, h4, rfl⟩⟩
  · exact ⟨put H b ⟨cs ++ r, true⟩, Sub.both s, .inr ⟨b, r, h1, s.none h2, rfl, h3⟩⟩
theorem Own.blk {G : GH} {b : Nat} {cs : List Value} {sz n : Nat} (h : G b = some ⟨cs, true⟩) (hl : cs.length = n * sz) : Own G (some ⟨b, 0, none⟩) n cs sz n :=
  .inr ⟨b, [], rfl, by simpa using h, hl, by simpa using hl, Nat.le_refl _⟩
theorem Own.cast {G : GH} {A : Option Addr} {c sz n : Nat} {cs cs' : List Value} (h : Own G A c cs sz n) (e : cs = cs') {n' : Nat} (en : n = n') : Own G A c cs' sz n' := e ▸ en ▸ h
theorem New.sn {G G' : GH} {A : Option Addr} {c sz n : Nat} {cs : List Value} (h : New G G' A c cs sz n) (hn : 0 < n) : 0 < Gh.sn A := by
  rcases h with ⟨_, _, h0, _, _⟩ | ⟨b, r, rfl, _⟩
  · omega
  · simp [Gh.sn]
theorem Holds.kit {W w w' : World} {G : GH} (h : Holds W w G) (hb : Below w.heap.size w w') : Holds W w' G := by
  refine ⟨h.below.trans (hb.mono h.below.size), fun b e x => ?_, fun d => absurd d (by unfold Dr; exact id)⟩
  obtain ⟨el, fz, hw, hr⟩ := h.ent b e x
  exact ⟨el, fz, by rw [hb.block b (h.lt x)]; exact hw, hr⟩
/-- A function of the library that leaves memory as it was. -/
theorem GC_kit {P : Program} {f : FuncId} {args : List Value} {G : GH} {v : Value} {K : Value → GH → Prop} (hE : Enterable P f) (h : ∀ W w, Holds W w G → Calls P f args.toArray w fun e w' => e = .returned v ∧ Below w.heap.size w w') (hk : K v G) : GC P f args G K :=
  ⟨hE, fun W w hw => (h W w hw).mono fun e w' ⟨he, hb⟩ => ⟨v, G, he, hk, hw.kit hb⟩⟩
theorem bs_append (a b : List UInt8) : (⟨a.toArray⟩ : ByteArray) ++ ⟨b.toArray⟩ = ⟨(a ++ b).toArray⟩ := by
  apply ByteArray.ext
  rw [ByteArray.data_append]
  simp
theorem bs_size (a : List UInt8) : (⟨a.toArray⟩ : ByteArray).size = a.length := by simp [ByteArray.size]
theorem bs_list (a : List UInt8) : (⟨a.toArray⟩ : ByteArray).toList = a := by
  simp
theorem cat_ok {a b : List UInt8} (h : a.length + b.length ≤ 9223372036854775807) : binV .add (.string ⟨a.toArray⟩) (.string ⟨b.toArray⟩) = some (.string ⟨(a ++ b).toArray⟩) := by
  have e : binOp .add 0 (.string ⟨a.toArray⟩) (.string ⟨b.toArray⟩) = Op.stringOp .add ⟨a.toArray⟩ ⟨b.toArray⟩ := rfl
  simp only [binV, e, Op.stringOp, bs_size, bs_append]
  rw [if_neg (by have : IntKind.i64.max = 9223372036854775807 := rfl; omega)]
  rfl
theorem seq_ne (a b : List UInt8) : binV .neq (.string ⟨a.toArray⟩) (.string ⟨b.toArray⟩) = some (.bool (decide (a ≠ b))) := by
  have e : binOp .neq 0 (.string ⟨a.toArray⟩) (.string ⟨b.toArray⟩) = Op.stringOp .neq ⟨a.toArray⟩ ⟨b.toArray⟩ := rfl
  simp only [binV, e, Op.stringOp, bs_list]
  by_cases h : a = b
  · subst h; simp; rfl
  · rw [beq_eq_false_iff_ne.2 h]; simp [h]; rfl
/-- the digits of a number, the last one first; none for 0. -/
def dgs (m : Nat) : List UInt8 := if h : m = 0 then [] else UInt8.ofNat (48 + m % 10) :: dgs (m / 10)
termination_by m
decreasing_by omega
theorem dgs_zero : dgs 0 = [] := by rw [dgs, dif_pos rfl]
theorem dgs_pos {m : Nat} (h : m ≠ 0) : dgs m = UInt8.ofNat (48 + m % 10) :: dgs (m / 10) := by rw [dgs, dif_neg h]
theorem dec_dgs : ∀ (k m : Nat), m ≤ k → m ≠ 0 → Lib.decDigits m = (dgs m).reverse
  | 0, m, h, h0 => by omega
  | k + 1, m, h, h0 => by
    rw [Lib.decDigits, dgs_pos h0]
    by_cases h10 : m < 10
    · rw [dif_pos h10, show m / 10 = 0 by omega, dgs_zero, show m % 10 = m by omega]; rfl
    · rw [dif_neg h10, dec_dgs k (m / 10) (by omega) (by omega)]; simp
theorem dgs_len : ∀ (k m : Nat), m < 10 ^ k → (dgs m).length ≤ k
  | 0, m, h => by have : m = 0 := by simpa using h
                  subst this; rw [dgs_zero]; simp
  | k + 1, m, h => by
    by_cases h0 : m = 0
    · subst h0; rw [dgs_zero]; simp
    · rw [dgs_pos h0, List.length_cons]
      have := dgs_len k (m / 10) (by rw [Nat.pow_succ] at h; omega)
      omega
theorem itoa_zero : Lib.itoa 0 = [48] := by simp [Lib.itoa, Lib.decDigits]
theorem itoa_dgs {n : Int} (h : n ≠ 0) : Lib.itoa n = (dgs n.natAbs ++ if n < 0 then [45] else []).reverse := by
  unfold Lib.itoa
  by_cases h0 : n < 0
  · rw [if_pos h0, if_pos h0, dec_dgs _ _ (Nat.le_refl _) (by omega)]; simp
  · rw [if_neg h0, if_neg h0, List.append_nil, show n.toNat = n.natAbs by omega, dec_dgs _ _ (Nat.le_refl _) (by omega)]
theorem itoa_len {n : Int} (h0 : -9223372036854775808 ≤ n) (h1 : n ≤ 9223372036854775807) : (Lib.itoa n).length ≤ 20 := by
  by_cases h : n = 0
  · subst h; rw [itoa_zero]; simp
  · rw [itoa_dgs h, List.length_reverse, List.length_append]
    have := dgs_len 19 n.natAbs (by have : n.natAbs < 10 ^ 19 := by omega
                                    exact this)
    split <;> simp <;> omega
/-- bytes as cells. -/
def B8 (b : UInt8) : Value := .int .u8 b.toNat
theorem b8_get {G : GH} {A : Option Addr} {l : List UInt8} (h : Cells G A (l.map B8)) : ∀ (j : Nat) b, l[j]? = some b → rd G (pa A j) = some (.int .u8 b.toNat) := fun j b hj => h j _ (by rw [List.getElem?_map, hj]; rfl)
theorem digit_byte (d : Nat) (h : d < 10) : Value.int .u8 (IntKind.u8.wrap (48 + (d : Int))) = B8 (UInt8.ofNat (48 + d)) := by
  unfold B8
  rw [show IntKind.u8.wrap (48 + (d : Int)) = 48 + (d : Int) from by
    unfold IntKind.wrap
    simp [IntKind.bits, IntKind.signed]
    omega]
  congr 1
  rw [UInt8.toNat_ofNat']
  omega
def lay173_ren : Go.Shelf.Ren := ⟨fun | 173 => 86 | 246 => 109 | 283 => 122 | 284 => 123 | 285 => 124 | 286 => 125 | 129 => 141 | 317 => 140 | 318 => 142 | 319 => 143 | 320 => 144 | 337 => 153 | 338 => 154 | n => n, fun | 2 => 2 | 3 => 3 | 9 => 9 | 4 => 4 | 171 => 151 | 0 => 0 | 53 => 152 | 37 => 71 | 5 => 5 | 173 => 155 | 212 => 172 | 51 => 173 | 20 => 20 | 213 => 174 | 46 => 166 | 232 => 192 | 233 => 193 | n => n, fun | 17 => 1 | 18 => 6 | 19 => 7 | n => n⟩
theorem lay173 : Go.Proofs.LaysM.n173 Tryd.prog lay173_ren := {
  mixed := by kernel_rfl
  f129 := Tryd.func141.trans (congrArg some (by kernel_rfl))
  f173 := Tryd.func86.trans (congrArg some (by kernel_rfl))
  f246 := Tryd.func109.trans (congrArg some (by kernel_rfl))
  f283 := Tryd.func122.trans (congrArg some (by kernel_rfl))
  f284 := Tryd.func123.trans (congrArg some (by kernel_rfl))
  f285 := Tryd.func124.trans (congrArg some (by kernel_rfl))
  f286 := Tryd.func125.trans (congrArg some (by kernel_rfl))
  f317 := Tryd.func140.trans (congrArg some (by kernel_rfl))
  f318 := Tryd.func142.trans (congrArg some (by kernel_rfl))
  f319 := Tryd.func143.trans (congrArg some (by kernel_rfl))
  f320 := Tryd.func144.trans (congrArg some (by kernel_rfl))
  f337 := Tryd.func153.trans (congrArg some (by kernel_rfl))
  f338 := Tryd.func154.trans (congrArg some (by kernel_rfl))
  t0 := Tryd.underlying0
  a0 := Tryd.isAgg0
  z0 := Tryd.sizeOf0
  v0 := Tryd.zeroValue0
  t2 := Tryd.underlying2
  a2 := Tryd.isAgg2
  z2 := Tryd.sizeOf2
  v2 := Tryd.zeroValue2
  t3 := Tryd.underlying3
  a3 := Tryd.isAgg3
  z3 := Tryd.sizeOf3
  v3 := Tryd.zeroValue3
  t4 := Tryd.underlying4
  a4 := Tryd.isAgg4
  z4 := Tryd.sizeOf4
  v4 := Tryd.zeroValue4
  t5 := Tryd.underlying5
  a5 := Tryd.isAgg5
  z5 := Tryd.sizeOf5
  v5 := Tryd.zeroValue5
  t9 := Tryd.underlying9
  a9 := Tryd.isAgg9
  z9 := Tryd.sizeOf9
  v9 := Tryd.zeroValue9
  t20 := Tryd.underlying20
  a20 := Tryd.isAgg20
  z20 := Tryd.sizeOf20
  v20 := Tryd.zeroValue20
  t37 := Tryd.underlying71
  a37 := Tryd.isAgg71
  z37 := Tryd.sizeOf71
  v37 := Tryd.zeroValue71
  t46 := Tryd.underlying166
  a46 := Tryd.isAgg166
  z46 := Tryd.sizeOf166
  v46 := Tryd.zeroValue166
  t51 := Tryd.underlying173
  a51 := Tryd.isAgg173
  z51 := Tryd.sizeOf173
  v51 := Tryd.zeroValue173
  t53 := Tryd.underlying152
  a53 := Tryd.isAgg152
  z53 := Tryd.sizeOf152
  v53 := Tryd.zeroValue152
  t171 := Tryd.underlying151
  a171 := Tryd.isAgg151
  z171 := Tryd.sizeOf151
  v171 := Tryd.zeroValue151
  t173 := Tryd.underlying155
  a173 := Tryd.isAgg155
  z173 := Tryd.sizeOf155
  v173 := Tryd.zeroValue155
  t212 := Tryd.underlying172
  a212 := Tryd.isAgg172
  z212 := Tryd.sizeOf172
  v212 := Tryd.zeroValue172
  t213 := Tryd.underlying174
  a213 := Tryd.isAgg174
  z213 := Tryd.sizeOf174
  t232 := Tryd.underlying192
  a232 := Tryd.isAgg192
  z232 := Tryd.sizeOf192
  v232 := Tryd.zeroValue192
  t233 := Tryd.underlying193
  a233 := Tryd.isAgg193
  z233 := Tryd.sizeOf193
  v233 := Tryd.zeroValue193
  g17 := by kernel_rfl
  g18 := by kernel_rfl
  g19 := by kernel_rfl
  i0 := by kernel_rfl
  i2 := by kernel_rfl
  i3 := by kernel_rfl
  i4 := by kernel_rfl
  i5 := by kernel_rfl
  i9 := by kernel_rfl
  i20 := by kernel_rfl
  i37 := by kernel_rfl
  i46 := by kernel_rfl
  i51 := by kernel_rfl
  i53 := by kernel_rfl
  i171 := by kernel_rfl
  i173 := by kernel_rfl
  i212 := by kernel_rfl
  i232 := by kernel_rfl
  i233 := by kernel_rfl
  m17 := by kernel_rfl
  m18 := by kernel_rfl
  m19 := by kernel_rfl }
def lay156_ren : Go.Shelf.Ren := ⟨fun | 156 => 51 | 165 => 96 | 166 => 41 | 169 => 43 | 240 => 85 | 241 => 112 | 276 => 108 | 277 => 126 | n => n, fun | 31 => 90 | 9 => 9 | 3 => 3 | 4 => 4 | 0 => 0 | 20 => 20 | 72 => 73 | 76 => 76 | 70 => 70 | 37 => 71 | 75 => 75 | 127 => 123 | 164 => 142 | 5 => 5 | 80 => 81 | n => n, fun n => n⟩
theorem lay156 : Go.Proofs.Lays.n156 Tryd.prog lay156_ren := {
  mixed := by kernel_rfl
  f156 := Tryd.func51.trans (congrArg some (by kernel_rfl))
  f165 := Tryd.func96.trans (congrArg some (by kernel_rfl))
  f166 := Tryd.func41.trans (congrArg some (by kernel_rfl))
  f169 := Tryd.func43.trans (congrArg some (by kernel_rfl))
  f240 := Tryd.func85.trans (congrArg some (by kernel_rfl))
  f241 := Tryd.func112.trans (congrArg some (by kernel_rfl))
  f276 := Tryd.func108.trans (congrArg some (by kernel_rfl))
  f277 := Tryd.func126.trans (congrArg some (by kernel_rfl))
  t0 := Tryd.underlying0
  a0 := Tryd.isAgg0
  z0 := Tryd.sizeOf0
  v0 := Tryd.zeroValue0
  t3 := Tryd.underlying3
  a3 := Tryd.isAgg3
  z3 := Tryd.sizeOf3
  v3 := Tryd.zeroValue3
  t4 := Tryd.underlying4
  a4 := Tryd.isAgg4
  z4 := Tryd.sizeOf4
  v4 := Tryd.zeroValue4
  t9 := Tryd.underlying9
  a9 := Tryd.isAgg9
  z9 := Tryd.sizeOf9
  v9 := Tryd.zeroValue9
  t20 := Tryd.underlying20
  a20 := Tryd.isAgg20
  z20 := Tryd.sizeOf20
  v20 := Tryd.zeroValue20
  t31 := Tryd.underlying90
  a31 := Tryd.isAgg90
  z31 := Tryd.sizeOf90
  v31 := Tryd.zeroValue90
  t37 := Tryd.underlying71
  a37 := Tryd.isAgg71
  z37 := Tryd.sizeOf71
  v37 := Tryd.zeroValue71
  t70 := Tryd.underlying70
  a70 := Tryd.isAgg70
  z70 := Tryd.sizeOf70
  v70 := Tryd.zeroValue70
  t72 := Tryd.underlying73
  a72 := Tryd.isAgg73
  z72 := Tryd.sizeOf73
  v72 := Tryd.zeroValue73
  t75 := Tryd.underlying75
  a75 := Tryd.isAgg75
  z75 := Tryd.sizeOf75
  v75 := Tryd.zeroValue75
  t76 := Tryd.underlying76
  a76 := Tryd.isAgg76
  z76 := Tryd.sizeOf76
  v76 := Tryd.zeroValue76
  t127 := Tryd.underlying123
  a127 := Tryd.isAgg123
  z127 := Tryd.sizeOf123
  v127 := Tryd.zeroValue123
  t164 := Tryd.underlying142
  a164 := Tryd.isAgg142
  z164 := Tryd.sizeOf142
  v164 := Tryd.zeroValue142 }
theorem lay156_X : Builder.Extra Tryd.prog lay156_ren := {
  sizeBuilder := by kernel_rfl
  liesBuilder := by kernel_rfl
  t5 := Tryd.underlying5
  a5 := Tryd.isAgg5
  z5 := Tryd.sizeOf5
  v5 := Tryd.zeroValue5
  infoByte := by kernel_rfl
  cellsByte := by kernel_rfl
  sizeByte := by kernel_rfl
  neB5 := by decide }
/-- What the builder's first step does to memory: the place that holds its own address, and nothing else. -/
theorem cc_pf {P : Program} {ρ : Go.Shelf.Ren} (L : Lays.n240 P ρ) (X : Builder.X72 P ρ) (B b : Nat) (bs : List Value) (p v : Value) (w : World) (hB : B ≤ b) (hp : p = .pointer none ∨ p = .pointer (some ⟨b, 0, none⟩)) (hbk : w.heap[b]? = some (.cells #[p, v] (ρ.t 72) (0, 0)))
    (hown : w.ownsRow B (ρ.t 5) 1 v bs.length bs) (hne : v.ownBlock ≠ some b) :
    Calls P (ρ.f 240) #[.pointer (some ⟨b, 0, none⟩)] w fun e w' => e = .returned (.tuple #[]) ∧ w'.heap[b]? = some (.cells #[.pointer (some ⟨b, 0, none⟩), v] (ρ.t 72) (0, 0)) ∧ w'.ownsRow B (ρ.t 5) 1 v bs.length bs ∧ Below B w w' ∧ ∀ k, k ≠ b → w'.heap[k]? = w.heap[k]? := by
  have hA : Lib.BuilderAt (ρ.t 72) (ρ.t 5) B b p bs w := ⟨hB, v, hbk, hown, hne⟩
  rcases hp with rfl | rfl
  · refine (Any.Builder_copyCheck_fresh L X b w hA.cell0 hA.shape hA.frozen0).mono ?_
    rintro e w' ⟨rfl, rfl⟩
    have hh : (w.setCell ⟨b, 0, none⟩ (.pointer (some ⟨b, 0, none⟩))).heap[b]? = some (.cells #[.pointer (some ⟨b, 0, none⟩), v] (ρ.t 72) (0, 0)) := by
      simp [World.setCell, Array.getElem?_modify, hbk]
    obtain ⟨_, v', hbk', hown', _⟩ := hA.used (.pointer (some ⟨b, 0, none⟩))
    rw [hh] at hbk'
    have hv : v = v' := by simpa using hbk'
    subst hv
    exact ⟨rfl, hh, hown', (Below.refl B w).setCell (p := ⟨b, 0, none⟩) hB _, fun k hk => Below.heap_setCell _ _ _ _ hk⟩
  · refine (Any.Builder_copyCheck_used L X b w hA.cell0).mono ?_
    rintro e w' ⟨rfl, rfl⟩
    exact ⟨rfl, hbk, hown, Below.refl B _, fun _ _ => rfl⟩
set_option maxRecDepth 100000 in
/-- A text is written into the builder: its bytes lie behind those that were there; but for the builder and its row all memory stands. -/
theorem ws_pf {P : Program} {ρ : Go.Shelf.Ren} (L : Lays.n166 P ρ) (X : Builder.Extra P ρ) (B b : Nat) (bs : List Value) (s : ByteArray) (p v : Value) (w : World) (hB : B ≤ b) (hp : p = .pointer none ∨ p = .pointer (some ⟨b, 0, none⟩)) (hbk0 : w.heap[b]? = some (.cells #[p, v] (ρ.t 72) (0, 0)))
    (hown0 : w.ownsRow B (ρ.t 5) 1 v bs.length bs) (hne : v.ownBlock ≠ some b) (hlen : bs.length + s.size ≤ 140737488355328) (hBw : B ≤ w.heap.size) :
    Calls P (ρ.f 166) #[.pointer (some ⟨b, 0, none⟩), .string s] w fun e w' => e = .returned (.tuple #[.int .i64 s.size, .nilIface]) ∧ Lib.BuilderAt (ρ.t 72) (ρ.t 5) B b (.pointer (some ⟨b, 0, none⟩)) (bs ++ Lib.strCells s) w' ∧ Below B w w' ∧
      ∀ k, k < w.heap.size → k ≠ b → v.ownBlock ≠ some k → w'.heap[k]? = w.heap[k]? := by
  obtain ⟨i0, hi, hz0, hz1, hz2⟩ := info_parts X.infoByte
  have mixed := L.mixed
  have t72 := L.t72; have a72 := L.a72; have z72 := L.z72; have v72 := L.v72; have u72 := run_underlying L.t72
  have t70 := L.t70; have a70 := L.a70; have z70 := L.z70; have v70 := L.v70; have u70 := run_underlying L.t70
  have t37 := L.t37; have a37 := L.a37; have z37 := L.z37; have v37 := L.v37; have u37 := run_underlying L.t37
  have t3 := L.t3; have a3 := L.a3; have z3 := L.z3; have v3 := L.v3; have u3 := run_underlying L.t3
  have t9 := L.t9; have a9 := L.a9; have z9 := L.z9; have v9 := L.v9; have u9 := run_underlying L.t9
  have t4 := L.t4; have a4 := L.a4; have z4 := L.z4; have v4 := L.v4; have u4 := run_underlying L.t4
  have t164 := L.t164; have a164 := L.a164; have z164 := L.z164; have v164 := L.v164; have u164 := run_underlying L.t164
  have t5 := X.t5; have a5 := X.a5; have z5 := X.z5; have v5 := X.v5; have u5 := run_underlying X.t5
  have e240 : ∀ args w, (callFunc (ρ.f 240) args).run P w = .ok (.enter (ρ.f 240) args) w := enters_of L.f240 (by kernel_rfl) rfl
  go_enter L.f166, Go.Proofs.Body.n166_ntmps ρ
  go_wp2_with (go_at_fn (ρ.f 240); refine (cc_pf { L with } X.toX72 B b bs p v _ hB hp hbk0 hown0 hne).mono ?_)
  rintro e w1 ⟨rfl, hbk, hown, hb1, hk1⟩
  have c0 : w1.cell? ⟨b, 0, none⟩ = some (.pointer (some ⟨b, 0, none⟩)) := by rw [Lib.cell_of_heap hbk]; rfl
  have c1 : w1.cell? ⟨b, 1, none⟩ = some v := by rw [Lib.cell_of_heap hbk]; rfl
  go_wp2_with (at_builtin; refine Lib.wpList_append_own_string _ rfl _ _ (ρ.t 37) (ρ.t 9) rfl B (ρ.t 5) i0 L.t37 L.t9 hi hz0 hz1 hz2 _ _ _ rfl hown s rfl ?c3 ?c4 ?c5 ?_)
  case c3 => unfold maxLen; omega
  case c4 => omega
  case c5 => have := hb1.size; omega
  intro v' w2 hown' hgrow _
  have hlt : b < w1.heap.size := by
    rcases Nat.lt_or_ge b w1.heap.size with h' | h'
    · exact h'
    · simp [Array.getElem?_eq_none h'] at hbk
  have hb2 : w2.heap[b]? = some (.cells #[.pointer (some ⟨b, 0, none⟩), v] (ρ.t 72) (0, 0)) := by
    rw [hgrow.block b hlt (fun e => hne e.symm)]
    exact hbk
  have d0 : w2.cell? ⟨b, 0, none⟩ = some (.pointer (some ⟨b, 0, none⟩)) := by rw [Lib.cell_of_heap hb2]; rfl
  have d1 : w2.cell? ⟨b, 1, none⟩ = some v := by rw [Lib.cell_of_heap hb2]; rfl
  have f1 : w2.frozen? ⟨b, 1, none⟩ = false := Lib.frozen_of_heap hb2 1
  obtain ⟨ao, n', cap, rfl⟩ : ∃ ao n' cap, v' = .slice ao n' cap := by
    rcases hown'.2 with ⟨hv, _⟩ | ⟨g, cap, cur, hv, _⟩
    · exact ⟨_, _, _, hv⟩
    · exact ⟨_, _, _, hv⟩
  go_wp2
  go_ret2
  refine ⟨rfl, ?_, ?_, fun k hk hkb hkv => ?_⟩
  · exact Lib.BuilderAt.put (T := (ρ.t 72)) (e := (ρ.t 5)) hB hb2 (bs' := bs ++ Lib.strCells s) (by simpa [Lib.strCells_length] using hown') X.neB5
  · exact (hb1.grown hgrow (by have := hb1.size; omega) (fun k hk => (hown.lt k hk).1)).setCell (p := ⟨b, 1, none⟩) hB _
  · rw [Below.heap_setCell _ _ _ _ hkb, hgrow.block k (by have := hb1.size; omega) (fun e => hkv e.symm), hk1 k hkb]
def bT : TypeId := lay156_ren.t 72
def b8 : TypeId := lay156_ren.t 5
theorem lay166 : Lays.n166 Tryd.prog lay156_ren := { lay156 with }
theorem lay169 : Lays.n169 Tryd.prog lay156_ren := { lay156 with }
/-- A builder of one's own, with these bytes; H: what else is known: it is older, or no bytes. -/
structure BldS (H G : GH) (b : Nat) (l : List UInt8) : Prop where
  low : ∀ x e, H x = some e → x ≠ b ∧ (x < b ∨ ∃ n r, e.cells = .int .i64 n :: r)
  sub : Sub H G
  at_ : ∃ p v, (p = .pointer none ∨ p = .pointer (some ⟨b, 0, none⟩)) ∧ G b = some ⟨[p, v], ⟨true, some bT⟩⟩ ∧
    ((v = .slice none 0 0 ∧ l = []) ∨ ∃ g cap cur, v = .slice (some ⟨g, 0, none⟩) l.length cap ∧ b < g ∧ H g = none ∧ G g = some ⟨cur, ⟨true, some b8⟩⟩ ∧ l.length ≤ cap ∧ cap ≤ maxLen ∧ cur.length = cap ∧ cur.take l.length = Lib.byteCells l)
theorem none_of_low {H : GH} {b : Nat} (h : ∀ x e, H x = some e → x ≠ b ∧ (x < b ∨ ∃ n r, e.cells = .int .i64 n :: r)) : H b = none := by
  cases hx : H b with
  | none => rfl
  | some e => exact absurd rfl (h b e hx).1
theorem BldS.start {H : GH} {b : Nat} (h : ∀ x e, H x = some e → x < b) : BldS H (put H b ⟨[.pointer none, .slice none 0 0], ⟨true, some bT⟩⟩) b [] := by
  have hl : ∀ x e, H x = some e → x ≠ b ∧ (x < b ∨ ∃ n r, e.cells = .int .i64 n :: r) := fun x e hx => ⟨Nat.ne_of_lt (h x e hx), .inl (h x e hx)⟩
  exact ⟨hl, Sub.put (none_of_low hl) _, _, _, .inl rfl, put_same _ _ _, .inl ⟨rfl, rfl⟩⟩
theorem BldS.mono {H G G' : GH} {b : Nat} {l : List UInt8} (h : BldS H G b l) (s : Sub G G') : BldS H G' b l := by
  obtain ⟨h1, h2, p, v, h3, h4, h5⟩ := h
  refine ⟨h1, h2.trans s, p, v, h3, s _ _ h4, ?_⟩
  rcases h5 with h5 | ⟨g, cap, cur, a1, a2, a0, a3, a4⟩
  · exact .inl h5
  · exact .inr ⟨g, cap, cur, a1, a2, a0, s _ _ a3, a4⟩
theorem BldS.less {H H' G : GH} {b : Nat} {l : List UInt8} (h : BldS H G b l) (s : Sub H' H) : BldS H' G b l := by
  obtain ⟨h1, h2, p, v, h3, h4, h5⟩ := h
  refine ⟨fun x e hx => h1 x e (s _ _ hx), s.trans h2, p, v, h3, h4, ?_⟩
  rcases h5 with h5 | ⟨g, cap, cur, a1, a2, a0, a3, a4⟩
  · exact .inl h5
  · refine .inr ⟨g, cap, cur, a1, a2, ?_, a3, a4⟩
    cases hx : H' g with
    | none => rfl
    | some e => rw [s _ _ hx] at a0; cases a0
/-- a box of numbers beside the builder. -/
theorem BldS.box {H G : GH} {b x : Nat} {l : List UInt8} (h : BldS H G b l) (hx : G x = none) {n : Int} {r : List Value} : BldS (put H x ⟨.int .i64 n :: r, true⟩) (put G x ⟨.int .i64 n :: r, true⟩) b l := by
  obtain ⟨h1, h2, p, v, h3, h4, h5⟩ := h
  have hxb : x ≠ b := fun e => by rw [e, h4] at hx; cases hx
  refine ⟨fun y e hy => ?_, Sub.both h2, p, v, h3, by rw [put_ne _ _ (Ne.symm hxb)]; exact h4, ?_⟩
  · by_cases hyx : y = x
    · subst hyx
      rw [put_same] at hy
      cases hy
      exact ⟨hxb, .inr ⟨n, r, rfl⟩⟩
    · rw [put_ne _ _ hyx] at hy
      exact h1 y e hy
  · rcases h5 with h5 | ⟨g, cap, cur, a1, a2, a0, a3, a4⟩
    · exact .inl h5
    · have hgx : g ≠ x := fun e => by rw [e, hx] at a3; cases a3
      exact .inr ⟨g, cap, cur, a1, a2, by rw [put_ne _ _ hgx]; exact a0, by rw [put_ne _ _ hgx]; exact a3, a4⟩
theorem Holds.putT {W w : World} {H : GH} (hw : Holds W w H) {b : Nat} {cs : List Value} {t : TypeId} (hh : w.heap[b]? = some (.cells cs.toArray t (0, 0))) (hb : W.heap.size ≤ b) : Holds W w (put H b ⟨cs, ⟨true, some t⟩⟩) := by
  refine ⟨hw.below, fun x e hx => ?_, hw.drawn⟩
  by_cases hxb : x = b
  · subst hxb
    rw [put_same] at hx
    cases hx
    exact ⟨t, (0, 0), hh, fun _ => ⟨hb, by simp⟩, fun t' h => by cases h; exact ⟨rfl, rfl⟩⟩
  · rw [put_ne _ _ hxb] at hx
    exact hw.ent x e hx
/-- what the world holds of a builder. -/
theorem BldS.world {W w : World} {H G : GH} {b : Nat} {l : List UInt8} (hw : Holds W w G) (h : BldS H G b l) : ∃ p v, (p = .pointer none ∨ p = .pointer (some ⟨b, 0, none⟩)) ∧ w.heap[b]? = some (.cells #[p, v] bT (0, 0)) ∧
    w.ownsRow b b8 1 v (Lib.byteCells l).length (Lib.byteCells l) ∧ v.ownBlock ≠ some b ∧ b ≤ w.heap.size ∧ W.heap.size ≤ b ∧ ∀ g, v.ownBlock = some g → H g = none := by
  obtain ⟨h1, h2, p, v, h3, h4, h5⟩ := h
  obtain ⟨el, fz, hh, hr, ht⟩ := hw.ent b _ h4
  obtain ⟨hge, _⟩ := hr rfl
  obtain ⟨rfl, rfl⟩ := ht _ rfl
  refine ⟨p, v, h3, by rw [hh], ⟨by simp, ?_⟩, ?_, Nat.le_of_lt (hw.lt h4), hge, ?_⟩
  · rcases h5 with ⟨rfl, rfl⟩ | ⟨g, cap, cur, rfl, a2, a0, a3, a4, a5, a6, a7⟩
    · exact .inl ⟨rfl, rfl⟩
    · obtain ⟨el', fz', hh', _, ht'⟩ := hw.ent g _ a3
      obtain ⟨rfl, rfl⟩ := ht' _ rfl
      exact .inr ⟨g, cap, cur.toArray, by rw [Lib.byteCells_length], Nat.le_of_lt a2, hh', by rw [Lib.byteCells_length]; exact a4, a5, by simpa using a6, by rw [Lib.byteCells_length, Nat.mul_one]; exact a7⟩
  · rcases h5 with ⟨rfl, rfl⟩ | ⟨g, cap, cur, rfl, a2, _⟩
    · simp [Value.ownBlock]
    · simp only [Value.ownBlock]
      intro e
      cases e
      omega
  · rcases h5 with ⟨rfl, rfl⟩ | ⟨g, cap, cur, rfl, a2, a0, _⟩
    · intro g e; simp [Value.ownBlock] at e
    · intro g' e
      simp only [Value.ownBlock, Option.some.injEq] at e
      rw [← e]; exact a0
theorem WriteString_enter : Enterable Tryd.prog 41 := ⟨_, lay166.f166, by kernel_rfl, by kernel_rfl⟩
theorem String_enter : Enterable Tryd.prog 43 := ⟨_, lay169.f169, by kernel_rfl, by kernel_rfl⟩
theorem WriteString_ok {H G : GH} {b : Nat} {l s : List UInt8} (h : BldS H G b l) (hs : s ≠ []) (hl : l.length + s.length < 2 ^ 40) {K : Value → GH → Prop} (hk : ∀ G', BldS H G' b (l ++ s) → K (.tuple [.int .i64 s.length, .nilIface].toArray) G') :
    GC Tryd.prog 41 [.pointer (some ⟨b, 0, none⟩), .string ⟨s.toArray⟩] G K := by
  refine ⟨WriteString_enter, fun W w hw => ?_⟩
  obtain ⟨p, v, hp, hbk, hown, hne, hbw, hWb, hHg⟩ := h.world hw
  refine Calls.mono (ws_pf (P := Tryd.prog) (ρ := lay156_ren) lay166 lay156_X b b (Lib.byteCells l) ⟨s.toArray⟩ p v w (Nat.le_refl _) hp hbk hown hne (by rw [Lib.byteCells_length, bs_size]; omega) hbw) ?_
  rintro e w' ⟨rfl, hA, hB, hk3⟩
  rw [Lib.strCells_eq, ← Lib.byteCells_append, show (⟨s.toArray⟩ : ByteArray).data.toList = s from rfl] at hA
  have hHb := none_of_low h.low
  have hkeep : ∀ x e, H x = some e → w'.heap[x]? = w.heap[x]? := fun x e hx => hk3 x (hw.lt (h.sub _ _ hx)) (h.low x e hx).1 (fun e' => by rw [hHg x e'] at hx; cases hx)
  have hH : Holds W w' H := by
    refine ⟨hw.below.trans (hB.mono hWb), fun x e hx => ?_, fun d => absurd d (by unfold Dr; exact id)⟩
    obtain ⟨el, fz, hh, hr⟩ := hw.ent x e (h.sub _ _ hx)
    exact ⟨el, fz, by rw [hkeep x e hx]; exact hh, hr⟩
  obtain ⟨_, v', hbk', ⟨_, hv⟩, hne'⟩ := hA
  rw [Lib.byteCells_length] at hv
  have hl0 : 0 < (l ++ s).length := by
    have := List.length_pos_iff.2 hs
    rw [List.length_append]; omega
  rcases hv with ⟨rfl, h0⟩ | ⟨g, cap, cur, rfl, a1, a2, a3, a4, a5, a6⟩
  · omega
  · have hgb : g ≠ b := fun e => hne' (by simp [Value.ownBlock, e])
    rw [Nat.mul_one] at a6
    have hHgn : H g = none := by
      cases hx : H g with
      | none => rfl
      | some e =>
        exfalso
        rcases (h.low g e hx).2 with hlt | ⟨n, r, hr⟩
        · omega
        · obtain ⟨el, fz, hh, _⟩ := hw.ent g e (h.sub _ _ hx)
          rw [← hkeep g e hx, a2] at hh
          have hc : cur = e.cells.toArray := by simpa using congrArg (fun o => match o with | some (Obj.cells c _ _) => c | _ => #[]) hh
          rw [hc, hr] at a6
          cases hls : l ++ s with
          | nil => rw [hls] at hl0; simp at hl0
          | cons x y =>
            rw [hls] at a6
            simp [Lib.byteCells] at a6
    refine ⟨_, put (put H b ⟨[.pointer (some ⟨b, 0, none⟩), .slice (some ⟨g, 0, none⟩) (l ++ s).length cap], ⟨true, some bT⟩⟩) g ⟨cur.toList, ⟨true, some b8⟩⟩, by rw [bs_size],
      hk _ ⟨h.low, (Sub.put hHb _).trans (Sub.put (by rw [put_ne _ _ hgb]; exact hHgn) _), _, _, .inr rfl, ?_, .inr ⟨g, cap, cur.toList, rfl, by omega, hHgn, put_same _ _ _, a3, a4, by simpa using a5, a6⟩⟩, ?_⟩
    · rw [put_ne _ _ (Ne.symm hgb), put_same]
    · exact (hH.putT (cs := [_, _]) hbk' hWb).putT (by rw [Array.toArray_toList]; exact a2) (by omega)
theorem String_ok {H G : GH} {b : Nat} {l : List UInt8} (h : BldS H G b l) (hlow : ∀ x e, H x = some e → x < b) {K : Value → GH → Prop} (hk : K (.string ⟨l.toArray⟩) H) : GC Tryd.prog 43 [.pointer (some ⟨b, 0, none⟩)] G K := by
  refine ⟨String_enter, fun W w hw => ?_⟩
  obtain ⟨p, v, hp, hbk, hown, hne, hbw, hWb, hHg⟩ := h.world hw
  have hI : Lib.IsBuilder bT b8 b b (Lib.byteCells l) w := by
    rcases hp with rfl | rfl
    · exact .inl ⟨Nat.le_refl _, v, hbk, hown, hne⟩
    · exact .inr ⟨Nat.le_refl _, v, hbk, hown, hne⟩
  refine Calls.mono (Any.Builder_String_any (P := Tryd.prog) (ρ := lay156_ren) lay169 lay156_X b b l w hI hbw) ?_
  rintro e w' ⟨rfl, hB⟩
  refine ⟨_, H, rfl, hk, hw.below.trans (hB.mono hWb), fun x e hx => ?_, fun d => absurd d (by unfold Dr; exact id)⟩
  obtain ⟨el, fz, hh, hr⟩ := hw.ent x e (h.sub _ _ hx)
  exact ⟨el, fz, by rw [hB.block x (hlow x e hx)]; exact hh, hr⟩
theorem below_grow (w : World) (k : Nat) (os : Array Obj) : Below w.heap.size w (Go.Sort.grow (w.drewN k) os) :=
  ⟨rfl, rfl, rfl, by simp [Go.Sort.grow, World.drewN], fun i hi => by
    show (w.heap ++ os)[i]? = _
    rw [Array.getElem?_append_left hi]⟩
/-- What the library's variables hold. -/
structure LibG (G : GH) : Prop where
  tab : ∃ g r, Tryd.prog.globalNamed "internal/strconv.uint64pow10" = some g ∧ G g = some ⟨Lib.pow10Tab.map fun z => Value.int .u64 z, r⟩
theorem LibG.sub {G G' : GH} (h : LibG G) (s : Sub G G') : LibG G' := by
  obtain ⟨g, r, h1, h2⟩ := h.tab
  exact ⟨⟨g, r, h1, s _ _ h2⟩⟩
theorem LibG.tabIs {W w : World} {G : GH} (h : LibG G) (hw : Holds W w G) : Lib.TabIs Tryd.prog w "internal/strconv.uint64pow10" .u64 Lib.pow10Tab := by
  obtain ⟨g, r, h1, h2⟩ := h.tab
  obtain ⟨el, fz, hh, _⟩ := hw.ent g _ h2
  simp only [Lib.TabIs, World.var?, h1, Option.bind_some, hh]
theorem FormatInt_ok {G : GH} (hL : LibG G) {n : Int} (h0 : -9223372036854775808 ≤ n) (h1 : n ≤ 9223372036854775807) {K : Value → GH → Prop} (hk : K (.string ⟨(Lib.itoa n).toArray⟩) G) : GC Tryd.prog 86 [.int .i64 n, .int .i64 10] G K :=
  GC_kit ⟨_, lay173.f173, by kernel_rfl, by kernel_rfl⟩ (fun W w hw => Calls.mono (Any.strconv_FormatInt_10 (P := Tryd.prog) (ρ := lay173_ren) lay173 n h0 h1 w (hL.tabIs hw)) (by rintro e w' ⟨rfl, k, os, rfl⟩; exact ⟨rfl, below_grow _ _ _⟩)) hk
theorem dd_small {m : Nat} (h : m < 10) : Lib.decDigits m = [UInt8.ofNat (48 + m)] := by rw [Lib.decDigits, dif_pos h]
theorem dd_big {m : Nat} (h : ¬ m < 10) : Lib.decDigits m = Lib.decDigits (m / 10) ++ [UInt8.ofNat (48 + m % 10)] := by rw [Lib.decDigits, dif_neg h]
theorem dd_ne (m : Nat) : Lib.decDigits m ≠ [] := by
  by_cases h : m < 10
  · rw [dd_small h]; simp
  · rw [dd_big h]; simp
theorem New.cast {G G' : GH} {A : Option Addr} {c sz n : Nat} {cs cs' : List Value} (h : New G G' A c cs sz n) (e : cs = cs') {n' : Nat} (en : n = n') : New G G' A c cs' sz n' := e ▸ en ▸ h
theorem tm10 (m : Int) : m.tmod 10 = if m < 0 then -((m.natAbs % 10 : Nat) : Int) else ((m.natAbs % 10 : Nat) : Int) := by
  cases m with
  | ofNat k => rw [if_neg (by simp)]; rfl
  | negSucc k => rw [if_pos (Int.negSucc_lt_zero k)]; rfl
theorem td10 (m : Int) : m.tdiv 10 = if m < 0 then -((m.natAbs / 10 : Nat) : Int) else ((m.natAbs / 10 : Nat) : Int) := by
  cases m with
  | ofNat k => rw [if_neg (by simp)]; rfl
  | negSucc k => rw [if_pos (Int.negSucc_lt_zero k)]; rfl
theorem impl_Decimal_ok {G : GH} (hL : LibG G) {n : Int} (h0 : -9223372036854775808 ≤ n) (h1 : n ≤ 9223372036854775807) {K : Value → GH → Prop} (hk : K (.string ⟨(Lib.itoa n).toArray⟩) G) : GC Tryd.prog 42 [.int .i64 n] G K := by
  refine k13 (by simp) ?_
  simp (maxSteps := 300000) (disch := omega) only [gws, ↓reduceIte, reduceEqDiff, reduceToNat, reduceMul, reduceAdd, Nat.reduceBEq, isLd]
  refine FormatInt_ok hL h0 h1 ?_
  simp (maxSteps := 300000) (disch := omega) only [gws, ↓reduceIte, reduceEqDiff, reduceToNat, reduceMul, reduceAdd, Nat.reduceBEq, isLd]
  exact hk
theorem dec_l1 {G0 G : GH} {Q : Cont} {T : Nat → Value} {R : List UInt8} {A B : Option Addr} {c d : Nat} (hc : Cells G0 A (R.map B8)) (hRl : R.length ≤ 20) (t3 : T 3 = .slice A R.length c) (t7 : T 7 = .int .i64 ((R.length : Int) - 1)) (t6 : T 6 = .slice B 0 d)
    (hN : New G0 G B d (([] : List UInt8).map B8) 1 0) (hQ : ∀ T' G' B' d', T' 6 = .slice B' R.length d' → New G0 G' B' d' (R.reverse.map B8) 1 R.length → Q (.ex 2) T' G') : gLoop (gW Tryd.prog k5l) Q T G := by
  refine gLoop_intro (fun m T G' => ∃ (k : Nat) (B' : Option Addr) (d' : Nat), T 3 = .slice A R.length c ∧ T 7 = .int .i64 ((R.length : Int) - 1 - k) ∧ T 6 = .slice B' k d' ∧ m + k = R.length ∧ k ≤ R.length ∧ New G0 G' B' d' ((R.reverse.take k).map B8) 1 k)
    R.length ⟨0, B, d, t3, by rw [t7]; simp, t6, by omega, by omega, by simpa using hN⟩ ?_
  clear hN t3 t6 t7
  rintro m T G' ⟨k, B', d', t3, t7, t6, hm, hk, hN⟩
  by_cases hi : 0 ≤ (R.length : Int) - 1 - k
  · have hidx : R.length - 1 - k < R.length := by omega
    have hrv : R.reverse[k]? = some (R.getD (R.length - 1 - k) 0) := by
      rw [List.getElem?_reverse (by omega)]; simp [List.getD, hidx]
    have hr0 : rd G' (pa A ((R.length : Int) - 1 - k).toNat) = some (.int .u8 ((R.getD (R.length - 1 - k) 0).toNat : Int)) := by
      rw [show ((R.length : Int) - 1 - k).toNat = R.length - 1 - k by omega]
      refine rd_sub hN.sub (hc (R.length - 1 - k) _ ?_)
      simp [List.getD, hidx, B8]
    have hsn := rd_some hr0
    rw [sn_pa] at hsn
    have wk : IntKind.i64.wrap ((R.length : Int) - 1 - k - 1) = (R.length : Int) - 1 - (k + 1 : Nat) := by rw [w64 _ (by omega) (by omega)]; omega
    simp (maxSteps := 300000) (disch := omega) only [gws, ↓reduceIte, reduceEqDiff, reduceToNat, reduceMul, reduceAdd, Nat.reduceBEq, isLd, t3, t7, t6, hi, hr0, gBs]
    refine ⟨by intro v hv; simp at hv; subst hv; rfl, fun b hb => ?_⟩
    refine ap_new hN (Sub.put hb _) (cells_one [B8 (R.getD (R.length - 1 - k) 0)] true) (by rfl) (by intro v hv; simp at hv; subst hv; rfl) rfl (by omega) (by omega) (by omega) fun G4 B2 d2 hN' => ?_
    simp (maxSteps := 300000) (disch := omega) only [gws, ↓reduceIte, reduceEqDiff, reduceToNat, reduceMul, reduceAdd, Nat.reduceBEq, isLd, t3, t7, t6, wk]
    exact ⟨m - 1, by omega, _, Sub.refl _, k + 1, B2, d2, rfl, rfl, by omega, by omega, New.cast hN' (by rw [List.take_add_one, hrv]; simp) rfl⟩
  · have hkl : k = R.length := by omega
    simp (maxSteps := 300000) (disch := omega) only [gws, ↓reduceIte, reduceEqDiff, reduceToNat, reduceMul, reduceAdd, Nat.reduceBEq, isLd, t3, t7, t6, hi]
    subst hkl
    refine hQ _ _ B' d' (by simp (maxSteps := 300000) (disch := omega) only [gws, ↓reduceIte, reduceEqDiff, reduceToNat, reduceMul, reduceAdd, Nat.reduceBEq, isLd, t6]) (New.cast hN (by rw [List.take_of_length_le (by simp)]) rfl)
theorem spec_l01Dec_ok {G : GH} {n : Int} (h0 : -9223372036854775808 ≤ n) (h1 : n ≤ 9223372036854775807) {K : Value → GH → Prop} (hk : K (.string ⟨(Lib.itoa n).toArray⟩) G) : GC Tryd.prog 81 [.int .i64 n] G K := by
  refine GC_drop (k5p (by simp) ?_)
  by_cases hn : n = 0
  · simp (maxSteps := 300000) (disch := omega) only [gws, ↓reduceIte, reduceEqDiff, reduceToNat, reduceMul, reduceAdd, Nat.reduceBEq, isLd, hn]
    rw [hn, itoa_zero] at hk
    exact ⟨G, Sub.refl _, hk⟩
  simp (maxSteps := 300000) (disch := omega) only [gws, ↓reduceIte, reduceEqDiff, reduceToNat, reduceMul, reduceAdd, Nat.reduceBEq, isLd, hn, gBs]
  refine ⟨by intro v hv; simp at hv, fun b3 hb3 => ?_⟩
  simp only [List.flatMap_nil]
  have hN0 : New G (put G b3 ⟨[], true⟩) (some ⟨b3, 0, none⟩) 0 (([] : List UInt8).map B8) 1 ([] : List UInt8).length := .inr ⟨b3, [], rfl, hb3, rfl, rfl, rfl, Nat.le_refl _⟩
  refine gLoop_intro (fun m T G' => ∃ (x : Int) (D : List UInt8) (A : Option Addr) (c : Nat), T 0 = .int .i64 n ∧ T 3 = .slice A D.length c ∧ T 4 = .int .i64 x ∧ m = x.natAbs ∧ -9223372036854775808 ≤ x ∧ x ≤ 9223372036854775807 ∧ New G G' A c (D.map B8) 1 D.length ∧ D ++ dgs x.natAbs = dgs n.natAbs)
    n.natAbs ⟨n, [], _, _, by simp (maxSteps := 300000) (disch := omega) only [gws, ↓reduceIte, reduceEqDiff, reduceToNat, reduceMul, reduceAdd, Nat.reduceBEq, isLd], by simp (maxSteps := 300000) (disch := omega) only [gws, ↓reduceIte, reduceEqDiff, reduceToNat, reduceMul, reduceAdd, Nat.reduceBEq, isLd] <;> rfl, by simp (maxSteps := 300000) (disch := omega) only [gws, ↓reduceIte, reduceEqDiff, reduceToNat, reduceMul, reduceAdd, Nat.reduceBEq, isLd], rfl, h0, h1, hN0, rfl⟩ ?_
  clear hN0 hb3
  rintro m T G' ⟨x, D, A, c, e0, e3, e4, hm, hx0, hx1, hN, hD⟩
  have hDl : D.length ≤ 19 := by
    have := congrArg List.length hD
    rw [List.length_append] at this
    have := dgs_len 19 n.natAbs (by have : n.natAbs < 10 ^ 19 := by omega
                                    exact this)
    omega
  by_cases hx : x = 0
  · subst hx
    rw [show (0 : Int).natAbs = 0 from rfl, dgs_zero, List.append_nil] at hD
    have hit := itoa_dgs hn
    rw [← hD] at hit
    by_cases hs : n < 0
    · simp (maxSteps := 300000) (disch := omega) only [gws, ↓reduceIte, reduceEqDiff, reduceToNat, reduceMul, reduceAdd, Nat.reduceBEq, isLd, e0, e3, e4, hs, gBs]
      refine ⟨by intro v hv; simp at hv; subst hv; rfl, fun b hb => ?_⟩
      refine ap_new hN (Sub.put hb _) (cells_one [B8 45] true) (by rfl) (by intro v hv; simp at hv; subst hv; rfl) rfl (by omega) (by omega) (by omega) fun G4 A' c' hN' => ?_
      simp (maxSteps := 300000) (disch := omega) only [gws, ↓reduceIte, reduceEqDiff, reduceToNat, reduceMul, reduceAdd, Nat.reduceBEq, isLd, e0, e3, e4, hs, gBs]
      have hl : (D ++ [(45 : UInt8)]).length = D.length + 1 := by simp
      have hN2 : New G G4 A' c' ((D ++ [(45 : UInt8)]).map B8) 1 (D ++ [(45 : UInt8)]).length := New.cast hN' (by simp) (by simp)
      refine ⟨by intro v hv; simp at hv, fun b2 hb2 => ?_⟩
      simp only [List.flatMap_nil]
      refine dec_l1 (G0 := G4) (R := D ++ [45]) (A := A') (c := c') (d := 0) (B := some ⟨b2, 0, none⟩) hN2.cells (by omega) (by simp (maxSteps := 300000) (disch := omega) only [gws, ↓reduceIte, reduceEqDiff, reduceToNat, reduceMul, reduceAdd, Nat.reduceBEq, isLd, hl]) (by simp (maxSteps := 300000) (disch := omega) only [gws, ↓reduceIte, reduceEqDiff, reduceToNat, reduceMul, reduceAdd, Nat.reduceBEq, isLd, hl]) (by simp (maxSteps := 300000) (disch := omega) only [gws, ↓reduceIte, reduceEqDiff, reduceToNat, reduceMul, reduceAdd, Nat.reduceBEq, isLd]) (.inr ⟨b2, [], rfl, hb2, rfl, rfl, rfl, Nat.le_refl _⟩) fun T' G5 B' d' t6 hN5 => ?_
      simp (maxSteps := 300000) (disch := omega) only [gws, ↓reduceIte, reduceEqDiff, reduceToNat, reduceMul, reduceAdd, Nat.reduceBEq, isLd, t6]
      have hit : Lib.itoa n = (D ++ [45]).reverse := by rw [hit, if_pos hs]
      rw [hit] at hk
      exact ⟨B', (D ++ [45]).length, d', (D ++ [45]).reverse, rfl, by simp, b8_get hN5.cells, by simp (maxSteps := 300000) (disch := omega) only [gws, ↓reduceIte, reduceEqDiff, reduceToNat, reduceMul, reduceAdd, Nat.reduceBEq, isLd]; exact ⟨G, hN'.sub.trans hN5.sub, hk⟩⟩
    · simp (maxSteps := 300000) (disch := omega) only [gws, ↓reduceIte, reduceEqDiff, reduceToNat, reduceMul, reduceAdd, Nat.reduceBEq, isLd, e0, e3, e4, hs, gBs]
      refine ⟨by intro v hv; simp at hv, fun b hb => ?_⟩
      simp only [List.flatMap_nil]
      refine dec_l1 (G0 := G') (R := D) (A := A) (c := c) (d := 0) (B := some ⟨b, 0, none⟩) hN.cells (by omega) (by simp (maxSteps := 300000) (disch := omega) only [gws, ↓reduceIte, reduceEqDiff, reduceToNat, reduceMul, reduceAdd, Nat.reduceBEq, isLd, e3]) (by simp (maxSteps := 300000) (disch := omega) only [gws, ↓reduceIte, reduceEqDiff, reduceToNat, reduceMul, reduceAdd, Nat.reduceBEq, isLd]) (by simp (maxSteps := 300000) (disch := omega) only [gws, ↓reduceIte, reduceEqDiff, reduceToNat, reduceMul, reduceAdd, Nat.reduceBEq, isLd]) (.inr ⟨b, [], rfl, hb, rfl, rfl, rfl, Nat.le_refl _⟩) fun T' G4 B' d' t6 hN' => ?_
      simp (maxSteps := 300000) (disch := omega) only [gws, ↓reduceIte, reduceEqDiff, reduceToNat, reduceMul, reduceAdd, Nat.reduceBEq, isLd, t6]
      have hit : Lib.itoa n = D.reverse := by rw [hit, if_neg hs, List.append_nil]
      rw [hit] at hk
      exact ⟨B', D.length, d', D.reverse, rfl, by simp, b8_get hN'.cells, by simp (maxSteps := 300000) (disch := omega) only [gws, ↓reduceIte, reduceEqDiff, reduceToNat, reduceMul, reduceAdd, Nat.reduceBEq, isLd]; exact ⟨G, hN.sub.trans hN'.sub, hk⟩⟩
  · have hr : x.natAbs % 10 < 10 := Nat.mod_lt _ (by decide)
    have w48 : IntKind.i64.wrap (48 + ((x.natAbs % 10 : Nat) : Int)) = 48 + ((x.natAbs % 10 : Nat) : Int) := w64 _ (by omega) (by omega)
    have hq : x.tdiv 10 = if x < 0 then -((x.natAbs / 10 : Nat) : Int) else ((x.natAbs / 10 : Nat) : Int) := td10 x
    have wq : IntKind.i64.wrap (x.tdiv 10) = x.tdiv 10 := w64 _ (by rw [hq]; split <;> omega) (by rw [hq]; split <;> omega)
    have hqa : (x.tdiv 10).natAbs = x.natAbs / 10 := by rw [hq]; split <;> omega
    have fin : ∀ (G2 : GH) (A' : Option Addr) (c' : Nat), New G G2 A' c' ((D.map B8) ++ [B8 (UInt8.ofNat (48 + x.natAbs % 10))]) 1 (D.length + 1) →
        New G G2 A' c' ((D ++ [UInt8.ofNat (48 + x.natAbs % 10)]).map B8) 1 (D ++ [UInt8.ofNat (48 + x.natAbs % 10)]).length := fun G2 A' c' h => New.cast h (by simp) (by simp)
    have hD' : (D ++ [UInt8.ofNat (48 + x.natAbs % 10)]) ++ dgs (x.tdiv 10).natAbs = dgs n.natAbs := by
      rw [← hD, dgs_pos (m := x.natAbs) (by omega), hqa]; simp
    by_cases hs : x.tmod 10 < 0
    · have ht : x.tmod 10 = -((x.natAbs % 10 : Nat) : Int) := by have := tm10 x; split at this <;> omega
      have wn : IntKind.i64.wrap (0 - x.tmod 10) = ((x.natAbs % 10 : Nat) : Int) := by rw [ht, w64 _ (by omega) (by omega)]; omega
      simp (maxSteps := 300000) (disch := omega) only [gws, ↓reduceIte, reduceEqDiff, reduceToNat, reduceMul, reduceAdd, Nat.reduceBEq, isLd, e0, e3, e4, hx, hs, bin_rem (h := (by decide : (10 : Int) ≠ 0)), wn, w48, digit_byte _ hr, gBs]
      refine ⟨by intro v hv; simp at hv; subst hv; rfl, fun b hb => ?_⟩
      refine ap_new hN (Sub.put hb _) (cells_one [B8 (UInt8.ofNat (48 + x.natAbs % 10))] true) (by rfl) (by intro v hv; simp at hv; subst hv; rfl) rfl (by omega) (by omega) (by omega) fun G4 A' c' hN' => ?_
      simp (maxSteps := 300000) (disch := omega) only [gws, ↓reduceIte, reduceEqDiff, reduceToNat, reduceMul, reduceAdd, Nat.reduceBEq, isLd, e0, e3, e4, hx, hs, bin_quo (h := (by decide : (10 : Int) ≠ 0)), wq]
      exact ⟨x.natAbs / 10, by omega, _, Sub.refl _, x.tdiv 10, D ++ [UInt8.ofNat (48 + x.natAbs % 10)], A', c', by simp, rfl, by rw [hqa], by rw [hq]; split <;> omega, by rw [hq]; split <;> omega, fin _ _ _ hN', hD'⟩
    · have ht : x.tmod 10 = ((x.natAbs % 10 : Nat) : Int) := by have := tm10 x; split at this <;> omega
      simp (maxSteps := 300000) (disch := omega) only [gws, ↓reduceIte, reduceEqDiff, reduceToNat, reduceMul, reduceAdd, Nat.reduceBEq, isLd, e0, e3, e4, hx, bin_rem (h := (by decide : (10 : Int) ≠ 0)), ht, show ((((x.natAbs % 10 : Nat) : Int)) < 0) = False from eq_false (by omega), w48, digit_byte _ hr, gBs]
      refine ⟨by intro v hv; simp at hv; subst hv; rfl, fun b hb => ?_⟩
      refine ap_new hN (Sub.put hb _) (cells_one [B8 (UInt8.ofNat (48 + x.natAbs % 10))] true) (by rfl) (by intro v hv; simp at hv; subst hv; rfl) rfl (by omega) (by omega) (by omega) fun G4 A' c' hN' => ?_
      simp (maxSteps := 300000) (disch := omega) only [gws, ↓reduceIte, reduceEqDiff, reduceToNat, reduceMul, reduceAdd, Nat.reduceBEq, isLd, e0, e3, e4, hx, bin_quo (h := (by decide : (10 : Int) ≠ 0)), wq]
      exact ⟨x.natAbs / 10, by omega, _, Sub.refl _, x.tdiv 10, D ++ [UInt8.ofNat (48 + x.natAbs % 10)], A', c', by simp, rfl, by rw [hqa], by rw [hq]; split <;> omega, by rw [hq]; split <;> omega, fin _ _ _ hN', hD'⟩
def okEdge (n : Int) (e : T3) : Prop := 0 ≤ e.1 ∧ e.1 < e.2.1 ∧ e.2.1 < n ∧ (1 ≤ e.2.2 ∧ e.2.2 ≤ 9)
/-- a valid graph. -/
def GraOk (g : Gra) : Prop := (1 ≤ g.n ∧ g.n ≤ 12) ∧ (∀ i, i < g.edges.length → okEdge g.n (g.edges.getD i z3)) ∧ (∀ i, i + 1 < g.edges.length → ltArc (g.edges.getD i z3) (g.edges.getD (i + 1) z3)) ∧ g.edges.length ≤ 24
/-- a pointer to a graph. -/
structure GraP (G : GH) (q : Option Addr) (N : Gra) (A : Option Addr) (c : Nat) : Prop where
  f0 : rd G q = some (.int .i64 N.n)
  f1 : rd G (pa q 1) = some (.slice A N.edges.length c)
  edges : T3S G A c N.edges
theorem GraP.sub {G G' : GH} {q : Option Addr} {N : Gra} {A : Option Addr} {c : Nat} (h : GraP G q N A c) (s : Sub G G') : GraP G' q N A c := ⟨rd_sub s h.f0, rd_sub s h.f1, h.edges.sub s⟩
theorem GraP.box {G : GH} {b : Nat} (hb : G b = none) {N : Gra} {A : Option Addr} {c : Nat} (h : T3S G A c N.edges) : GraP (put G b ⟨graC N A c, true⟩) (some ⟨b, 0, none⟩) N A c :=
  ⟨by rw [rd_put]; rfl, by rw [pa_mk, rd_put]; rfl, h.sub (Sub.put hb _)⟩
theorem impl_compareEdges_ok {G : GH} (e f : T3) {K : Value → GH → Prop} (hk : ∀ c : Int, (0 ≤ c ↔ ¬ ltArc e f) → K (.int .i64 c) G) : GC Tryd.prog 84 [V3 e, V3 f] G K := by
  refine GC_drop (k1z (by simp) ?_)
  unfold V3 c3
  simp (maxSteps := 300000) (disch := omega) only [gws, ↓reduceIte, reduceEqDiff, reduceToNat, reduceMul, reduceAdd, Nat.reduceBEq, isLd]
  intro b1 hb1
  simp (maxSteps := 300000) (disch := omega) only [gws, ↓reduceIte, reduceEqDiff, reduceToNat, reduceMul, reduceAdd, Nat.reduceBEq, isLd]
  intro b2 hb2
  simp only [put_none] at hb2
  obtain ⟨n12, f2⟩ := hb2
  have s2 := ((Sub.refl G).skip hb1 (e := ⟨c3 e, true⟩)).skip f2 (e := ⟨c3 f, true⟩)
  unfold c3 at s2
  simp (maxSteps := 300000) (disch := omega) only [gws, ↓reduceIte, reduceEqDiff, reduceToNat, reduceMul, reduceAdd, Nat.reduceBEq, isLd]
  refine cmp_Compare_ok _ _ ?_
  simp (maxSteps := 300000) (disch := omega) only [gws, ↓reduceIte, reduceEqDiff, reduceToNat, reduceMul, reduceAdd, Nat.reduceBEq, isLd]
  refine cmp_Compare_ok _ _ ?_
  simp (maxSteps := 300000) (disch := omega) only [gws, ↓reduceIte, reduceEqDiff, reduceToNat, reduceMul, reduceAdd, Nat.reduceBEq, isLd, gBs]
  refine ⟨by intro v hv; simp at hv; rcases hv with rfl | rfl <;> rfl, fun b5 hb5 => ?_⟩
  have q5 := hb5
  simp only [put_none] at q5
  have s5 := Sub.put hb5 ⟨[.int .i64 (cmp3 e.1 f.1), .int .i64 (cmp3 e.2.1 f.2.1)], true⟩
  simp only [List.flatMap_cons, List.flatMap_nil, cells_int, List.append_nil, List.cons_append, List.nil_append]
  simp (maxSteps := 300000) (disch := omega) only [gws, ↓reduceIte, reduceEqDiff, reduceToNat, reduceMul, reduceAdd, Nat.reduceBEq, isLd]
  refine cmp_Or_ok (cmp3 e.1 f.1) (cmp3 e.2.1 f.2.1) (by simp (maxSteps := 300000) (disch := omega) only [gws, ↓reduceIte, reduceEqDiff, reduceToNat, reduceMul, reduceAdd, Nat.reduceBEq, isLd]) (by simp (maxSteps := 300000) (disch := omega) only [gws, ↓reduceIte, reduceEqDiff, reduceToNat, reduceMul, reduceAdd, Nat.reduceBEq, isLd]) ?_
  simp (maxSteps := 300000) (disch := omega) only [gws, ↓reduceIte, reduceEqDiff, reduceToNat, reduceMul, reduceAdd, Nat.reduceBEq, isLd]
  exact ⟨G, s2.trans s5, hk _ (cmp_lt e f)⟩
theorem impl_ValidGraph_ok {G : GH} {N : Gra} {A : Option Addr} {c : Nat} (h : T3S G A c N.edges) (hl : N.edges.length < 2 ^ 40) {K : Value → GH → Prop}
    (hk : ∀ b : Bool, (b = true ↔ GraOk N) → K (.bool b) G) : GC Tryd.prog 40 [graV N A c] G K := by
  refine GC_drop (k1u (by simp) ?_)
  unfold graV graC
  simp (maxSteps := 300000) (disch := omega) only [gws, ↓reduceIte, reduceEqDiff, reduceToNat, reduceMul, reduceAdd, Nat.reduceBEq, isLd]
  intro b1 hb1
  simp (maxSteps := 300000) (disch := omega) only [gws, ↓reduceIte, reduceEqDiff, reduceToNat, reduceMul, reduceAdd, Nat.reduceBEq, isLd]
  have s1 := Sub.put hb1 ⟨[.int .i64 N.n, .slice A N.edges.length c], true⟩
  have f0 : rd (put G b1 ⟨[.int .i64 N.n, .slice A N.edges.length c], true⟩) (some ⟨b1, 0, none⟩) = some (.int .i64 N.n) := rd_box _ _ _ 0 _ rfl
  have f1 : rd (put G b1 ⟨[.int .i64 N.n, .slice A N.edges.length c], true⟩) (some ⟨b1, 1, none⟩) = some (.slice A N.edges.length c) := rd_box _ _ _ 1 _ rfl
  revert s1 f0 f1
  generalize put G b1 ⟨[.int .i64 N.n, .slice A N.edges.length c], true⟩ = G1
  intro s1 f0 f1
  have hno : ¬ GraOk N → ∀ G2, Sub G1 G2 → ∃ G'', Sub G'' G2 ∧ K (.bool false) G'' := fun hx G2 s2 => ⟨G, s1.trans s2, hk false (by simp [hx])⟩
  refine gLoop_intro (fun m T G' => ∃ k : Nat, T 1 = .pointer (some ⟨b1, 0, none⟩) ∧ T 6 = .slice A N.edges.length c ∧ T 7 = .int .i64 N.edges.length ∧ T 8 = .int .i64 k ∧ m + k = N.edges.length ∧ k ≤ N.edges.length ∧ G' = G1 ∧
    (∀ i, i < k → okEdge N.n (N.edges.getD i z3)) ∧ ∀ i, i + 1 < k → ltArc (N.edges.getD i z3) (N.edges.getD (i + 1) z3)) N.edges.length
    ⟨0, by simp (maxSteps := 300000) (disch := omega) only [gws, ↓reduceIte, reduceEqDiff, reduceToNat, reduceMul, reduceAdd, Nat.reduceBEq, isLd], by simp (maxSteps := 300000) (disch := omega) only [gws, ↓reduceIte, reduceEqDiff, reduceToNat, reduceMul, reduceAdd, Nat.reduceBEq, isLd], by simp (maxSteps := 300000) (disch := omega) only [gws, ↓reduceIte, reduceEqDiff, reduceToNat, reduceMul, reduceAdd, Nat.reduceBEq, isLd], by simp (maxSteps := 300000) (disch := omega) only [gws, ↓reduceIte, reduceEqDiff, reduceToNat, reduceMul, reduceAdd, Nat.reduceBEq, isLd] <;> rfl, by omega, by omega, rfl, fun i hi => by omega, fun i hi => by omega⟩ ?_
  rintro m T G' ⟨k, e1, e6, e7, e8, hm, hkl, rfl, hok, hlt⟩
  have hh := h.sub s1
  have hsn := hh.sn
  have p0 := hh.r0
  have p1 := hh.r1
  have p2 := hh.r2
  simp (maxSteps := 300000) (disch := omega) only [gws, ↓reduceIte, reduceEqDiff, reduceToNat, reduceMul, reduceAdd, Nat.reduceBEq, isLd, e1, e6, e7, e8]
  by_cases hkk : (k : Int) < N.edges.length
  · simp (maxSteps := 300000) (disch := omega) only [gws, ↓reduceIte, reduceEqDiff, reduceToNat, reduceMul, reduceAdd, Nat.reduceBEq, isLd, e1, e6, e7, e8, hkk, p0, p1, p2]
    intro b4 hb4
    simp (maxSteps := 300000) (disch := omega) only [gws, ↓reduceIte, reduceEqDiff, reduceToNat, reduceMul, reduceAdd, Nat.reduceBEq, isLd, e1, e6, e7, e8]
    refine st_many (vs := c3 (N.edges.getD k z3)) rfl (put_same _ _ _) rfl (by simp) (c3_one _) ?_
    have s4 := Sub.put hb4 ⟨c3 (N.edges.getD k z3), true⟩
    have hh4 := hh.sub s4
    have o0 := hh4.r0
    have o1 := hh4.r1
    have o2 := hh4.r2
    have u0 := rd_sub s4 f0
    have u1 := rd_sub s4 f1
    have hno' : ¬ okEdge N.n (N.edges.getD k z3) → ¬ GraOk N := fun h1 h2 => h1 (h2.2.1 k (by omega))
    unfold c3 at s4 o0 o1 o2 u0 u1 ⊢
    simp (maxSteps := 300000) (disch := omega) only [gws, ↓reduceIte, reduceEqDiff, reduceToNat, reduceMul, reduceAdd, Nat.reduceBEq, isLd, over, e1, e6, e7, e8, o0, o1, o2, u0, u1]
    by_cases q1 : (N.edges.getD k z3).1 < 0
    · simp (maxSteps := 300000) (disch := omega) only [gws, ↓reduceIte, reduceEqDiff, reduceToNat, reduceMul, reduceAdd, Nat.reduceBEq, isLd, q1, e1, e6, e7, e8, o0, o1, o2, u0, u1]
      exact hno (hno' fun hx => by have := hx.1; omega) _ s4
    simp (maxSteps := 300000) (disch := omega) only [gws, ↓reduceIte, reduceEqDiff, reduceToNat, reduceMul, reduceAdd, Nat.reduceBEq, isLd, q1, e1, e6, e7, e8, o0, o1, o2, u0, u1]
    by_cases q2 : (N.edges.getD k z3).2.1 ≤ (N.edges.getD k z3).1
    · simp (maxSteps := 300000) (disch := omega) only [gws, ↓reduceIte, reduceEqDiff, reduceToNat, reduceMul, reduceAdd, Nat.reduceBEq, isLd, q2, e1, e6, e7, e8, o0, o1, o2, u0, u1]
      exact hno (hno' fun hx => by have := hx.2.1; omega) _ s4
    simp (maxSteps := 300000) (disch := omega) only [gws, ↓reduceIte, reduceEqDiff, reduceToNat, reduceMul, reduceAdd, Nat.reduceBEq, isLd, q2, e1, e6, e7, e8, o0, o1, o2, u0, u1]
    by_cases q3 : N.n ≤ (N.edges.getD k z3).2.1
    · simp (maxSteps := 300000) (disch := omega) only [gws, ↓reduceIte, reduceEqDiff, reduceToNat, reduceMul, reduceAdd, Nat.reduceBEq, isLd, q3, e1, e6, e7, e8, o0, o1, o2, u0, u1]
      exact hno (hno' fun hx => by have := hx.2.2.1; omega) _ s4
    simp (maxSteps := 300000) (disch := omega) only [gws, ↓reduceIte, reduceEqDiff, reduceToNat, reduceMul, reduceAdd, Nat.reduceBEq, isLd, q3, e1, e6, e7, e8, o0, o1, o2, u0, u1]
    refine impl_within_ok _ _ _ ?_
    simp (maxSteps := 300000) (disch := omega) only [gws, ↓reduceIte, reduceEqDiff, reduceToNat, reduceMul, reduceAdd, Nat.reduceBEq, isLd, e1, e6, e7, e8, o0, o1, o2, u0, u1]
    cases q4 : decide (1 ≤ (N.edges.getD k z3).2.2 ∧ (N.edges.getD k z3).2.2 ≤ 9)
    · simp (maxSteps := 300000) (disch := omega) only [gws, ↓reduceIte, reduceEqDiff, reduceToNat, reduceMul, reduceAdd, Nat.reduceBEq, isLd, e1, e6, e7, e8, o0, o1, o2, u0, u1]
      have q4 := of_decide_eq_false q4
      exact hno (hno' fun hx => q4 hx.2.2.2) _ s4
    have q4 := of_decide_eq_true q4
    have hok' : ∀ i, i < k + 1 → okEdge N.n (N.edges.getD i z3) := fun i hi => by
      by_cases hik : i = k
      · subst hik; exact ⟨by omega, by omega, by omega, q4⟩
      · exact hok i (by omega)
    simp (maxSteps := 300000) (disch := omega) only [gws, ↓reduceIte, reduceEqDiff, reduceToNat, reduceMul, reduceAdd, Nat.reduceBEq, isLd, e1, e6, e7, e8, o0, o1, o2, u0, u1]
    by_cases hk0 : (0 : Int) < k
    · simp (maxSteps := 300000) (disch := omega) only [gws, ↓reduceIte, reduceEqDiff, reduceToNat, reduceMul, reduceAdd, Nat.reduceBEq, isLd, hk0, e1, e6, e7, e8, o0, o1, o2, u0, u1]
      refine impl_compareEdges_ok (N.edges.getD ((k : Int) - 1).toNat z3) (N.edges.getD k z3) fun cc hcc => ?_
      simp (maxSteps := 300000) (disch := omega) only [gws, ↓reduceIte, reduceEqDiff, reduceToNat, reduceMul, reduceAdd, Nat.reduceBEq, isLd, e1, e6, e7, e8, o0, o1, o2, u0, u1]
      by_cases hc : 0 ≤ cc
      · simp (maxSteps := 300000) (disch := omega) only [gws, ↓reduceIte, reduceEqDiff, reduceToNat, reduceMul, reduceAdd, Nat.reduceBEq, isLd, hc, e1, e6, e7, e8, o0, o1, o2, u0, u1]
        exact hno (fun hx => (hcc.1 hc) (by have := hx.2.2.1 (k - 1) (by omega); rwa [show k - 1 + 1 = k by omega, show k - 1 = ((k : Int) - 1).toNat by omega] at this)) _ s4
      · simp (maxSteps := 300000) (disch := omega) only [gws, ↓reduceIte, reduceEqDiff, reduceToNat, reduceMul, reduceAdd, Nat.reduceBEq, isLd, hc, e1, e6, e7, e8, o0, o1, o2, u0, u1]
        have hl' : ltArc (N.edges.getD ((k : Int) - 1).toNat z3) (N.edges.getD k z3) := Classical.byContradiction fun hn => hc (hcc.2 hn)
        refine ⟨m - 1, by omega, _, s4, k + 1, rfl, by omega, by omega, rfl, hok', fun i hi => ?_⟩
        by_cases hik : i + 1 = k
        · rw [hik, show i = ((k : Int) - 1).toNat by omega]; exact hl'
        · exact hlt i (by omega)
    · simp (maxSteps := 300000) (disch := omega) only [gws, ↓reduceIte, reduceEqDiff, reduceToNat, reduceMul, reduceAdd, Nat.reduceBEq, isLd, hk0, e1, e6, e7, e8, o0, o1, o2, u0, u1]
      exact ⟨m - 1, by omega, _, s4, k + 1, rfl, by omega, by omega, rfl, hok', fun i hi => by omega⟩
  · simp (maxSteps := 300000) (disch := omega) only [gws, ↓reduceIte, reduceEqDiff, reduceToNat, reduceMul, reduceAdd, Nat.reduceBEq, isLd, e1, e6, e7, e8, hkk, f0]
    refine impl_within_ok _ _ _ ?_
    simp (maxSteps := 300000) (disch := omega) only [gws, ↓reduceIte, reduceEqDiff, reduceToNat, reduceMul, reduceAdd, Nat.reduceBEq, isLd, e1, e6, e7, e8, f0, f1]
    cases g1 : decide (1 ≤ N.n ∧ N.n ≤ 12)
    · simp (maxSteps := 300000) (disch := omega) only [gws, ↓reduceIte, reduceEqDiff, reduceToNat, reduceMul, reduceAdd, Nat.reduceBEq, isLd, e1]
      have g1 := of_decide_eq_false g1
      exact hno (fun hx => g1 hx.1) _ (Sub.refl _)
    · have g1 := of_decide_eq_true g1
      simp (maxSteps := 300000) (disch := omega) only [gws, ↓reduceIte, reduceEqDiff, reduceToNat, reduceMul, reduceAdd, Nat.reduceBEq, isLd, e1, f1]
      refine ⟨G, s1, hk _ ?_⟩
      rw [decide_eq_true_eq]
      exact ⟨fun hx => ⟨g1, fun i hi => hok i (by omega), fun i hi => hlt i (by omega), by omega⟩, fun hx => by have := hx.2.2.2; omega⟩
theorem spec_l16Ok_ok {G : GH} {q : Option Addr} {N : Gra} {A : Option Addr} {c : Nat} (h : GraP G q N A c) (hl : N.edges.length < 2 ^ 40) {K : Value → GH → Prop}
    (hk : ∀ b : Bool, (b = true ↔ GraOk N) → K (.bool b) G) : GC Tryd.prog 37 [.pointer q] G K := by
  refine GC_drop (k65 (by simp) ?_)
  have hq := rd_some h.f0
  have f0 := h.f0
  have f1 := h.f1
  have hno : ¬ GraOk N → ∀ G2, Sub G G2 → ∃ G'', Sub G'' G2 ∧ K (.bool false) G'' := fun hx G2 s2 => ⟨G, s2, hk false (by simp [hx])⟩
  simp (maxSteps := 300000) (disch := omega) only [gws, ↓reduceIte, reduceEqDiff, reduceToNat, reduceMul, reduceAdd, Nat.reduceBEq, isLd, f0]
  refine spec_l00In_ok _ _ _ ?_
  simp (maxSteps := 300000) (disch := omega) only [gws, ↓reduceIte, reduceEqDiff, reduceToNat, reduceMul, reduceAdd, Nat.reduceBEq, isLd, f0]
  cases g1 : decide (1 ≤ N.n ∧ N.n ≤ 12)
  · simp (maxSteps := 300000) (disch := omega) only [gws, ↓reduceIte, reduceEqDiff, reduceToNat, reduceMul, reduceAdd, Nat.reduceBEq, isLd, f0]
    have g1 := of_decide_eq_false g1
    exact hno (fun hx => g1 hx.1) _ (Sub.refl _)
  have g1 := of_decide_eq_true g1
  simp (maxSteps := 300000) (disch := omega) only [gws, ↓reduceIte, reduceEqDiff, reduceToNat, reduceMul, reduceAdd, Nat.reduceBEq, isLd, f0]
  refine gLoop_intro (fun m T G' => ∃ k : Nat, T 0 = .pointer q ∧ T 3 = .int .i64 k ∧ m + k = N.edges.length ∧ k ≤ N.edges.length ∧ G' = G ∧
    (∀ i, i < k → okEdge N.n (N.edges.getD i z3)) ∧ ∀ i, i + 1 < k → ltArc (N.edges.getD i z3) (N.edges.getD (i + 1) z3)) N.edges.length
    ⟨0, by simp (maxSteps := 300000) (disch := omega) only [gws, ↓reduceIte, reduceEqDiff, reduceToNat, reduceMul, reduceAdd, Nat.reduceBEq, isLd], by simp (maxSteps := 300000) (disch := omega) only [gws, ↓reduceIte, reduceEqDiff, reduceToNat, reduceMul, reduceAdd, Nat.reduceBEq, isLd] <;> rfl, by omega, by omega, rfl, fun i hi => by omega, fun i hi => by omega⟩ ?_
  rintro m T G' ⟨k, e0, e3, hm, hkl, rfl, hok, hlt⟩
  have hsn := h.edges.sn
  have p0 := h.edges.r0
  have p1 := h.edges.r1
  have p2 := h.edges.r2
  simp (maxSteps := 300000) (disch := omega) only [gws, ↓reduceIte, reduceEqDiff, reduceToNat, reduceMul, reduceAdd, Nat.reduceBEq, isLd, e0, e3, f1]
  by_cases hkk : (k : Int) < N.edges.length
  · simp (maxSteps := 300000) (disch := omega) only [gws, ↓reduceIte, reduceEqDiff, reduceToNat, reduceMul, reduceAdd, Nat.reduceBEq, isLd, e0, e3, f1, hkk, p0, p1, p2]
    intro b4 hb4
    have s4 := Sub.put hb4 ⟨c3 (N.edges.getD k z3), true⟩
    simp (maxSteps := 300000) (disch := omega) only [gws, ↓reduceIte, reduceEqDiff, reduceToNat, reduceMul, reduceAdd, Nat.reduceBEq, isLd, e0, e3]
    refine st_many (vs := c3 (N.edges.getD k z3)) rfl (put_same _ _ _) rfl (by simp) (c3_one _) ?_
    have h4 := h.sub s4
    have o0 := h4.edges.r0
    have o1 := h4.edges.r1
    have o2 := h4.edges.r2
    have u0 := h4.f0
    have u1 := h4.f1
    have hno' : ¬ okEdge N.n (N.edges.getD k z3) → ¬ GraOk N := fun h1 h2 => h1 (h2.2.1 k (by omega))
    clear p0 p1 p2 h4
    unfold c3 at s4 o0 o1 o2 u0 u1 ⊢
    simp (maxSteps := 300000) (disch := omega) only [gws, ↓reduceIte, reduceEqDiff, reduceToNat, reduceMul, reduceAdd, Nat.reduceBEq, isLd, over, e0, e3, u0, u1, o0, o1, o2]
    refine spec_l00In_ok _ _ _ ?_
    simp (maxSteps := 300000) (disch := omega) only [gws, ↓reduceIte, reduceEqDiff, reduceToNat, reduceMul, reduceAdd, Nat.reduceBEq, isLd, e0, e3, u0, u1, o0, o1, o2]
    cases q1 : decide (0 ≤ (N.edges.getD k z3).2.1 ∧ (N.edges.getD k z3).2.1 ≤ N.n - 1)
    · simp (maxSteps := 300000) (disch := omega) only [gws, ↓reduceIte, reduceEqDiff, reduceToNat, reduceMul, reduceAdd, Nat.reduceBEq, isLd, e0, e3, u0, u1, o0, o1, o2]
      have q1 := of_decide_eq_false q1
      exact hno (hno' fun hx => q1 (by have := hx.1; have := hx.2.1; have := hx.2.2.1; omega)) _ s4
    have q1 := of_decide_eq_true q1
    simp (maxSteps := 300000) (disch := omega) only [gws, ↓reduceIte, reduceEqDiff, reduceToNat, reduceMul, reduceAdd, Nat.reduceBEq, isLd, e0, e3, u0, u1, o0, o1, o2]
    refine spec_l00In_ok _ _ _ ?_
    simp (maxSteps := 300000) (disch := omega) only [gws, ↓reduceIte, reduceEqDiff, reduceToNat, reduceMul, reduceAdd, Nat.reduceBEq, isLd, e0, e3, u0, u1, o0, o1, o2]
    cases q2 : decide (0 ≤ (N.edges.getD k z3).1 ∧ (N.edges.getD k z3).1 ≤ (N.edges.getD k z3).2.1 - 1)
    · simp (maxSteps := 300000) (disch := omega) only [gws, ↓reduceIte, reduceEqDiff, reduceToNat, reduceMul, reduceAdd, Nat.reduceBEq, isLd, e0, e3, u0, u1, o0, o1, o2]
      have q2 := of_decide_eq_false q2
      exact hno (hno' fun hx => q2 (by have := hx.1; have := hx.2.1; omega)) _ s4
    have q2 := of_decide_eq_true q2
    simp (maxSteps := 300000) (disch := omega) only [gws, ↓reduceIte, reduceEqDiff, reduceToNat, reduceMul, reduceAdd, Nat.reduceBEq, isLd, e0, e3, u0, u1, o0, o1, o2]
    refine spec_l00In_ok _ _ _ ?_
    simp (maxSteps := 300000) (disch := omega) only [gws, ↓reduceIte, reduceEqDiff, reduceToNat, reduceMul, reduceAdd, Nat.reduceBEq, isLd, e0, e3, u0, u1, o0, o1, o2]
    cases q4 : decide (1 ≤ (N.edges.getD k z3).2.2 ∧ (N.edges.getD k z3).2.2 ≤ 9)
    · simp (maxSteps := 300000) (disch := omega) only [gws, ↓reduceIte, reduceEqDiff, reduceToNat, reduceMul, reduceAdd, Nat.reduceBEq, isLd, e0, e3, u0, u1, o0, o1, o2]
      have q4 := of_decide_eq_false q4
      exact hno (hno' fun hx => q4 hx.2.2.2) _ s4
    have q4 := of_decide_eq_true q4
    have hok' : ∀ i, i < k + 1 → okEdge N.n (N.edges.getD i z3) := fun i hi => by
      by_cases hik : i = k
      · subst hik; exact ⟨by omega, by omega, by omega, q4⟩
      · exact hok i (by omega)
    simp (maxSteps := 300000) (disch := omega) only [gws, ↓reduceIte, reduceEqDiff, reduceToNat, reduceMul, reduceAdd, Nat.reduceBEq, isLd, e0, e3, u0, u1, o0, o1, o2]
    by_cases hk0 : (0 : Int) < k
    · simp (maxSteps := 300000) (disch := omega) only [gws, ↓reduceIte, reduceEqDiff, reduceToNat, reduceMul, reduceAdd, Nat.reduceBEq, isLd, hk0, e0, e3, u0, u1, o0, o1, o2]
      have hord : ¬ ltArc (N.edges.getD ((k : Int) - 1).toNat z3) (N.edges.getD k z3) → ¬ GraOk N := fun hnl hn =>
        hnl (by have := hn.2.2.1 (k - 1) (by omega); rwa [show k - 1 + 1 = k by omega, show k - 1 = ((k : Int) - 1).toNat by omega] at this)
      have hgo : ltArc (N.edges.getD ((k : Int) - 1).toNat z3) (N.edges.getD k z3) → ∀ i, i + 1 < k + 1 → ltArc (N.edges.getD i z3) (N.edges.getD (i + 1) z3) := fun hl' i hi => by
        by_cases hik : i + 1 = k
        · rw [hik, show i = ((k : Int) - 1).toNat by omega]; exact hl'
        · exact hlt i (by omega)
      by_cases v1 : (N.edges.getD k z3).1 < (N.edges.getD ((k : Int) - 1).toNat z3).1
      · simp (maxSteps := 300000) (disch := omega) only [gws, ↓reduceIte, reduceEqDiff, reduceToNat, reduceMul, reduceAdd, Nat.reduceBEq, isLd, v1, e0, e3, u0, u1, o0, o1, o2]
        exact hno (hord (by unfold ltArc; omega)) _ s4
      simp (maxSteps := 300000) (disch := omega) only [gws, ↓reduceIte, reduceEqDiff, reduceToNat, reduceMul, reduceAdd, Nat.reduceBEq, isLd, v1, e0, e3, u0, u1, o0, o1, o2]
      by_cases v2 : (N.edges.getD ((k : Int) - 1).toNat z3).1 = (N.edges.getD k z3).1
      · rw [show decide ((N.edges.getD ((k : Int) - 1).toNat z3).1 = (N.edges.getD k z3).1) = true from decide_eq_true v2]
        simp (maxSteps := 300000) (disch := omega) only [gws, ↓reduceIte, reduceEqDiff, reduceToNat, reduceMul, reduceAdd, Nat.reduceBEq, isLd, e0, e3, u0, u1, o0, o1, o2]
        by_cases v3 : (N.edges.getD k z3).2.1 ≤ (N.edges.getD ((k : Int) - 1).toNat z3).2.1
        · simp (maxSteps := 300000) (disch := omega) only [gws, ↓reduceIte, reduceEqDiff, reduceToNat, reduceMul, reduceAdd, Nat.reduceBEq, isLd, v3, e0, e3, u0, u1, o0, o1, o2]
          exact hno (hord (by unfold ltArc; omega)) _ s4
        · simp (maxSteps := 300000) (disch := omega) only [gws, ↓reduceIte, reduceEqDiff, reduceToNat, reduceMul, reduceAdd, Nat.reduceBEq, isLd, v3, e0, e3, u0, u1, o0, o1, o2]
          exact ⟨m - 1, by omega, _, s4, k + 1, rfl, by omega, by omega, rfl, hok', hgo (by unfold ltArc; omega)⟩
      · rw [show decide ((N.edges.getD ((k : Int) - 1).toNat z3).1 = (N.edges.getD k z3).1) = false from decide_eq_false v2]
        simp (maxSteps := 300000) (disch := omega) only [gws, ↓reduceIte, reduceEqDiff, reduceToNat, reduceMul, reduceAdd, Nat.reduceBEq, isLd, e0, e3, u0, u1, o0, o1, o2]
        exact ⟨m - 1, by omega, _, s4, k + 1, rfl, by omega, by omega, rfl, hok', hgo (by unfold ltArc; omega)⟩
    · simp (maxSteps := 300000) (disch := omega) only [gws, ↓reduceIte, reduceEqDiff, reduceToNat, reduceMul, reduceAdd, Nat.reduceBEq, isLd, hk0, e0, e3, u0, u1, o0, o1, o2]
      exact ⟨m - 1, by omega, _, s4, k + 1, rfl, by omega, by omega, rfl, hok', fun i hi => by omega⟩
  · simp (maxSteps := 300000) (disch := omega) only [gws, ↓reduceIte, reduceEqDiff, reduceToNat, reduceMul, reduceAdd, Nat.reduceBEq, isLd, e0, e3, hkk, f1]
    refine ⟨G', Sub.refl _, hk _ ?_⟩
    rw [decide_eq_true_eq]
    exact ⟨fun hx => ⟨g1, fun i hi => hok i (by omega), fun i hi => hlt i (by omega), by omega⟩, fun hx => by have := hx.2.2.2; omega⟩
theorem cat_ex (a b : List UInt8) (h : a.length + b.length ≤ 9223372036854775807) : ∃ X : List UInt8, X = a ++ b ∧ X.length = a.length + b.length ∧ binV .add (.string ⟨a.toArray⟩) (.string ⟨b.toArray⟩) = some (.string ⟨X.toArray⟩) :=
  ⟨a ++ b, rfl, List.length_append, cat_ok h⟩
theorem itoa_ne (n : Int) : Lib.itoa n ≠ [] := by
  unfold Lib.itoa
  split
  · simp
  · exact dd_ne _
def edgeT (e : T3) : List UInt8 := [32] ++ Lib.itoa e.1 ++ [45] ++ Lib.itoa e.2.1 ++ [58] ++ Lib.itoa e.2.2
def graTk (N : Gra) (k : Nat) : List UInt8 := Lib.itoa N.n ++ (N.edges.take k).flatMap edgeT
def graT (N : Gra) : List UInt8 := graTk N N.edges.length
theorem graTk_succ (N : Gra) {k : Nat} (h : k < N.edges.length) : graTk N (k + 1) = graTk N k ++ edgeT (N.edges.getD k z3) := by
  unfold graTk
  rw [List.take_add_one, List.flatMap_append, ← List.append_assoc]
  simp [List.getD, h]
theorem okR {n : Int} (h0 : -9223372036854775808 ≤ n) (h1 : n ≤ 9223372036854775807) : (Lib.itoa n).length ≤ 20 := itoa_len h0 h1
theorem edgeT_len {N : Gra} (hn : GraOk N) {k : Nat} (h : k < N.edges.length) : (edgeT (N.edges.getD k z3)).length ≤ 63 := by
  obtain ⟨o1, o2, o3, o4⟩ := hn.2.1 k h
  have := hn.1
  have l1 := okR (n := (N.edges.getD k z3).1) (by omega) (by omega)
  have l2 := okR (n := (N.edges.getD k z3).2.1) (by omega) (by omega)
  have l3 := okR (n := (N.edges.getD k z3).2.2) (by omega) (by omega)
  simp only [edgeT, List.length_append, List.length_cons, List.length_nil]
  omega
theorem graTk_len {N : Gra} (hn : GraOk N) : ∀ (k : Nat), k ≤ N.edges.length → (graTk N k).length ≤ 20 + 63 * k
  | 0, _ => by
    have := hn.1
    have := okR (n := N.n) (by omega) (by omega)
    simp [graTk]; omega
  | k + 1, h => by
    rw [graTk_succ N (by omega), List.length_append]
    have := graTk_len hn k (by omega)
    have := edgeT_len hn (k := k) (by omega)
    omega
/-- the text of a graph that is valid, else none. -/
noncomputable def graphT (N : Gra) : List UInt8 := open Classical in if GraOk N then graT N else []
theorem graphT_ok {N : Gra} (h : GraOk N) : graphT N = graT N := by unfold graphT; rw [if_pos h]
theorem graphT_no {N : Gra} (h : ¬ GraOk N) : graphT N = [] := by unfold graphT; rw [if_neg h]
/-- the pieces of an edge's text. -/
theorem edge_cat {N : Gra} (hn : GraOk N) {k : Nat} (h : k < N.edges.length) : ∃ X1 X2 X3 X4 X5 : List UInt8, X5 = edgeT (N.edges.getD k z3) ∧
    binV .add (.string ⟨[32].toArray⟩) (.string ⟨(Lib.itoa (N.edges.getD k z3).1).toArray⟩) = some (.string ⟨X1.toArray⟩) ∧ binV .add (.string ⟨X1.toArray⟩) (.string ⟨[45].toArray⟩) = some (.string ⟨X2.toArray⟩) ∧
    binV .add (.string ⟨X2.toArray⟩) (.string ⟨(Lib.itoa (N.edges.getD k z3).2.1).toArray⟩) = some (.string ⟨X3.toArray⟩) ∧ binV .add (.string ⟨X3.toArray⟩) (.string ⟨[58].toArray⟩) = some (.string ⟨X4.toArray⟩) ∧
    binV .add (.string ⟨X4.toArray⟩) (.string ⟨(Lib.itoa (N.edges.getD k z3).2.2).toArray⟩) = some (.string ⟨X5.toArray⟩) := by
  obtain ⟨o1, o2, o3, o4⟩ := hn.2.1 k h
  have := hn.1
  have l1 := okR (n := (N.edges.getD k z3).1) (by omega) (by omega)
  have l2 := okR (n := (N.edges.getD k z3).2.1) (by omega) (by omega)
  have l3 := okR (n := (N.edges.getD k z3).2.2) (by omega) (by omega)
  have w1 : ([32] : List UInt8).length = 1 := rfl
  have w2 : ([45] : List UInt8).length = 1 := rfl
  have w3 : ([58] : List UInt8).length = 1 := rfl
  obtain ⟨X1, a1, n1, c1⟩ := cat_ex [32] (Lib.itoa (N.edges.getD k z3).1) (by omega)
  obtain ⟨X2, a2, n2, c2⟩ := cat_ex X1 [45] (by omega)
  obtain ⟨X3, a3, n3, c3⟩ := cat_ex X2 (Lib.itoa (N.edges.getD k z3).2.1) (by omega)
  obtain ⟨X4, a4, n4, c4⟩ := cat_ex X3 [58] (by omega)
  obtain ⟨X5, a5, n5, c5⟩ := cat_ex X4 (Lib.itoa (N.edges.getD k z3).2.2) (by omega)
  exact ⟨X1, X2, X3, X4, X5, by rw [a5, a4, a3, a2, a1]; rfl, c1, c2, c3, c4, c5⟩
theorem spec_l16Text_ok {G : GH} {q : Option Addr} {N : Gra} {A : Option Addr} {c : Nat} (h : GraP G q N A c) (hn : GraOk N) {K : Value → GH → Prop} (hk : K (.string ⟨(graT N).toArray⟩) G) : GC Tryd.prog 38 [.pointer q] G K := by
  refine GC_drop (k6h (by simp) ?_)
  have hq := rd_some h.f0
  have f0 := h.f0
  have f1 := h.f1
  have hh := h.edges
  have hsn := hh.sn
  have p0 := hh.r0
  have p1 := hh.r1
  have p2 := hh.r2
  have hn1 := hn.1
  have hn4 := hn.2.2.2
  simp (maxSteps := 300000) (disch := omega) only [gws, ↓reduceIte, reduceEqDiff, reduceToNat, reduceMul, reduceAdd, Nat.reduceBEq, isLd, f0]
  refine spec_l01Dec_ok (by omega) (by omega) ?_
  simp (maxSteps := 300000) (disch := omega) only [gws, ↓reduceIte, reduceEqDiff, reduceToNat, reduceMul, reduceAdd, Nat.reduceBEq, isLd]
  refine gLoop_intro (fun m T G' => ∃ k : Nat, T 0 = .pointer q ∧ T 3 = .string ⟨(graTk N k).toArray⟩ ∧ T 4 = .int .i64 k ∧ m + k = N.edges.length ∧ k ≤ N.edges.length ∧ G' = G)
    N.edges.length ⟨0, by simp (maxSteps := 300000) (disch := omega) only [gws, ↓reduceIte, reduceEqDiff, reduceToNat, reduceMul, reduceAdd, Nat.reduceBEq, isLd], by simp (maxSteps := 300000) (disch := omega) only [gws, ↓reduceIte, reduceEqDiff, reduceToNat, reduceMul, reduceAdd, Nat.reduceBEq, isLd] <;> simp [graTk], by simp (maxSteps := 300000) (disch := omega) only [gws, ↓reduceIte, reduceEqDiff, reduceToNat, reduceMul, reduceAdd, Nat.reduceBEq, isLd] <;> rfl, by omega, by omega, rfl⟩ ?_
  rintro m T G' ⟨k, e0, e3, e4, hm, hkl, rfl⟩
  simp (maxSteps := 300000) (disch := omega) only [gws, ↓reduceIte, reduceEqDiff, reduceToNat, reduceMul, reduceAdd, Nat.reduceBEq, isLd, e0, e3, e4, f1]
  by_cases hkk : (k : Int) < N.edges.length
  · simp (maxSteps := 300000) (disch := omega) only [gws, ↓reduceIte, reduceEqDiff, reduceToNat, reduceMul, reduceAdd, Nat.reduceBEq, isLd, e0, e3, e4, f1, hkk, p0, p1, p2]
    intro b7 hb7
    simp (maxSteps := 300000) (disch := omega) only [gws, ↓reduceIte, reduceEqDiff, reduceToNat, reduceMul, reduceAdd, Nat.reduceBEq, isLd, e0, e3, e4]
    refine st_fresh (vs := c3 (N.edges.getD k z3)) rfl rfl rfl (c3_one _) ?_
    have s7 := Sub.put hb7 ⟨c3 (N.edges.getD k z3), true⟩
    have q0 : rd (put G' b7 ⟨c3 (N.edges.getD k z3), true⟩) (some ⟨b7, 0, none⟩) = some (.int .i64 (N.edges.getD k z3).1) := rd_box _ _ _ 0 _ rfl
    have q1 : rd (put G' b7 ⟨c3 (N.edges.getD k z3), true⟩) (some ⟨b7, 1, none⟩) = some (.int .i64 (N.edges.getD k z3).2.1) := rd_box _ _ _ 1 _ rfl
    have q2 : rd (put G' b7 ⟨c3 (N.edges.getD k z3), true⟩) (some ⟨b7, 2, none⟩) = some (.int .i64 (N.edges.getD k z3).2.2) := rd_box _ _ _ 2 _ rfl
    obtain ⟨o1, o2, o3, o4⟩ := hn.2.1 k (by omega)
    have lk := graTk_len hn k hkl
    have le := edgeT_len hn (k := k) (by omega)
    obtain ⟨X1, X2, X3, X4, X5, x5, c1, c2, c3', c4, c5⟩ := edge_cat hn (k := k) (by omega)
    obtain ⟨X6, a6, n6, c6⟩ := cat_ex (graTk N k) X5 (by rw [x5]; omega)
    revert q0 q1 q2 s7
    generalize put G' b7 ⟨c3 (N.edges.getD k z3), true⟩ = H
    intro s7 q0 q1 q2
    simp (maxSteps := 300000) (disch := omega) only [gws, ↓reduceIte, reduceEqDiff, reduceToNat, reduceMul, reduceAdd, Nat.reduceBEq, isLd, e0, e3, e4, q0, q1, q2]
    refine spec_l01Dec_ok (by omega) (by omega) ?_
    simp (maxSteps := 300000) (disch := omega) only [gws, ↓reduceIte, reduceEqDiff, reduceToNat, reduceMul, reduceAdd, Nat.reduceBEq, isLd, e0, e3, e4, q0, q1, q2, c1, c2, c3', c4, c5, c6]
    refine spec_l01Dec_ok (by omega) (by omega) ?_
    simp (maxSteps := 300000) (disch := omega) only [gws, ↓reduceIte, reduceEqDiff, reduceToNat, reduceMul, reduceAdd, Nat.reduceBEq, isLd, e0, e3, e4, q0, q1, q2, c1, c2, c3', c4, c5, c6]
    refine spec_l01Dec_ok (by omega) (by omega) ?_
    simp (maxSteps := 300000) (disch := omega) only [gws, ↓reduceIte, reduceEqDiff, reduceToNat, reduceMul, reduceAdd, Nat.reduceBEq, isLd, e0, e3, e4, q0, q1, q2, c1, c2, c3', c4, c5, c6]
    exact ⟨m - 1, by omega, G', s7, k + 1, by rw [a6, x5, graTk_succ N (by omega)], rfl, by omega, by omega, rfl⟩
  · simp (maxSteps := 300000) (disch := omega) only [gws, ↓reduceIte, reduceEqDiff, reduceToNat, reduceMul, reduceAdd, Nat.reduceBEq, isLd, e0, e3, e4, f1, hkk]
    have : k = N.edges.length := by omega
    subst this
    exact ⟨G', Sub.refl _, hk⟩
theorem spec_GraphText_ok {G : GH} {N : Gra} {A : Option Addr} {c : Nat} (h : T3S G A c N.edges) (hl : N.edges.length < 2 ^ 40) {K : Value → GH → Prop} (hk : K (.string ⟨(graphT N).toArray⟩) G) : GC Tryd.prog 10 [graV N A c] G K := by
  refine GC_drop (k4w (by simp) ?_)
  unfold graV
  simp (maxSteps := 300000) (disch := omega) only [gws, ↓reduceIte, reduceEqDiff, reduceToNat, reduceMul, reduceAdd, Nat.reduceBEq, isLd]
  intro b1 hb1
  simp (maxSteps := 300000) (disch := omega) only [gws, ↓reduceIte, reduceEqDiff, reduceToNat, reduceMul, reduceAdd, Nat.reduceBEq, isLd]
  have hP := GraP.box hb1 h
  have s1 := Sub.put hb1 ⟨graC N A c, true⟩
  revert hP s1
  generalize put G b1 ⟨graC N A c, true⟩ = G1
  intro hP s1
  refine spec_l16Ok_ok hP hl fun bb hbb => ?_
  cases bb
  · simp (maxSteps := 300000) (disch := omega) only [gws, ↓reduceIte, reduceEqDiff, reduceToNat, reduceMul, reduceAdd, Nat.reduceBEq, isLd]
    rw [graphT_no fun x => by have := hbb.2 x; cases this] at hk
    exact ⟨G, s1, hk⟩
  · have hn := hbb.1 rfl
    simp (maxSteps := 300000) (disch := omega) only [gws, ↓reduceIte, reduceEqDiff, reduceToNat, reduceMul, reduceAdd, Nat.reduceBEq, isLd]
    refine spec_l16Text_ok hP hn ?_
    simp (maxSteps := 300000) (disch := omega) only [gws, ↓reduceIte, reduceEqDiff, reduceToNat, reduceMul, reduceAdd, Nat.reduceBEq, isLd]
    rw [graphT_ok hn] at hk
    exact ⟨G, s1, hk⟩
theorem impl_GraphText_ok {G : GH} (hL : LibG G) {N : Gra} {A : Option Addr} {c : Nat} (h : T3S G A c N.edges) (hl : N.edges.length < 2 ^ 40) {K : Value → GH → Prop} (hk : K (.string ⟨(graphT N).toArray⟩) G) : GC Tryd.prog 12 [graV N A c] G K := by
  refine GC_drop (k1i (by simp) ?_)
  unfold graV graC
  simp (maxSteps := 300000) (disch := omega) only [gws, ↓reduceIte, reduceEqDiff, reduceToNat, reduceMul, reduceAdd, Nat.reduceBEq, isLd]
  intro b1 hb1
  have s1 := Sub.put hb1 ⟨[.int .i64 N.n, .slice A N.edges.length c], true⟩
  have f0 : rd (put G b1 ⟨[.int .i64 N.n, .slice A N.edges.length c], true⟩) (some ⟨b1, 0, none⟩) = some (.int .i64 N.n) := rd_box _ _ _ 0 _ rfl
  have f1 : rd (put G b1 ⟨[.int .i64 N.n, .slice A N.edges.length c], true⟩) (some ⟨b1, 1, none⟩) = some (.slice A N.edges.length c) := rd_box _ _ _ 1 _ rfl
  revert s1 f0 f1
  generalize put G b1 ⟨[.int .i64 N.n, .slice A N.edges.length c], true⟩ = G1
  intro s1 f0 f1
  simp (maxSteps := 300000) (disch := omega) only [gws, ↓reduceIte, reduceEqDiff, reduceToNat, reduceMul, reduceAdd, Nat.reduceBEq, isLd, f0, f1]
  refine impl_ValidGraph_ok (N := N) (h.sub s1) hl fun bb hbb => ?_
  cases bb
  · simp (maxSteps := 300000) (disch := omega) only [gws, ↓reduceIte, reduceEqDiff, reduceToNat, reduceMul, reduceAdd, Nat.reduceBEq, isLd]
    rw [graphT_no fun x => by have := hbb.2 x; cases this] at hk
    exact ⟨G, s1, hk⟩
  have hn := hbb.1 rfl
  have hn1 := hn.1
  have hn4 := hn.2.2.2
  rw [graphT_ok hn] at hk
  simp (maxSteps := 300000) (disch := omega) only [gws, ↓reduceIte, reduceEqDiff, reduceToNat, reduceMul, reduceAdd, Nat.reduceBEq, isLd, f0, f1]
  intro b3 hb3
  generalize hG3 : put G1 b3 _ = G3
  have hB0 : BldS G1 G3 b3 [] := by rw [← hG3]; exact BldS.start hb3
  have hn0 : Lib.itoa N.n ≠ [] := itoa_ne _
  clear hG3
  have g0 := rd_sub hB0.sub f0
  simp (maxSteps := 300000) (disch := omega) only [gws, ↓reduceIte, reduceEqDiff, reduceToNat, reduceMul, reduceAdd, Nat.reduceBEq, isLd, g0]
  refine impl_Decimal_ok ((hL.sub s1).sub hB0.sub) (by omega) (by omega) ?_
  simp (maxSteps := 300000) (disch := omega) only [gws, ↓reduceIte, reduceEqDiff, reduceToNat, reduceMul, reduceAdd, Nat.reduceBEq, isLd]
  refine WriteString_ok hB0 hn0 (by have := okR (n := N.n) (by omega) (by omega); simp; omega) fun G4 hB4 => ?_
  have g1 := rd_sub hB4.sub f1
  simp (maxSteps := 300000) (disch := omega) only [gws, ↓reduceIte, reduceEqDiff, reduceToNat, reduceMul, reduceAdd, Nat.reduceBEq, isLd, g1]
  refine gLoop_intro (fun m T G' => ∃ k : Nat, T 3 = .pointer (some ⟨b3, 0, none⟩) ∧ T 14 = .slice A N.edges.length c ∧ T 15 = .int .i64 N.edges.length ∧ T 16 = .int .i64 k ∧ m + k = N.edges.length ∧ k ≤ N.edges.length ∧ BldS G1 G' b3 (graTk N k))
    N.edges.length ⟨0, by simp (maxSteps := 300000) (disch := omega) only [gws, ↓reduceIte, reduceEqDiff, reduceToNat, reduceMul, reduceAdd, Nat.reduceBEq, isLd], by simp (maxSteps := 300000) (disch := omega) only [gws, ↓reduceIte, reduceEqDiff, reduceToNat, reduceMul, reduceAdd, Nat.reduceBEq, isLd], by simp (maxSteps := 300000) (disch := omega) only [gws, ↓reduceIte, reduceEqDiff, reduceToNat, reduceMul, reduceAdd, Nat.reduceBEq, isLd], by simp (maxSteps := 300000) (disch := omega) only [gws, ↓reduceIte, reduceEqDiff, reduceToNat, reduceMul, reduceAdd, Nat.reduceBEq, isLd] <;> rfl, by omega, by omega, by simpa [graTk] using hB4⟩ ?_
  clear hB4 hB0 g1
  rintro m T G' ⟨k, e3, e14, e15, e16, hm, hkl, hB⟩
  have hh := (h.sub s1).sub hB.sub
  have hsn := hh.sn
  have p0 := hh.r0
  have p1 := hh.r1
  have p2 := hh.r2
  simp (maxSteps := 300000) (disch := omega) only [gws, ↓reduceIte, reduceEqDiff, reduceToNat, reduceMul, reduceAdd, Nat.reduceBEq, isLd, e3, e14, e15, e16]
  by_cases hkk : (k : Int) < N.edges.length
  · simp (maxSteps := 300000) (disch := omega) only [gws, ↓reduceIte, reduceEqDiff, reduceToNat, reduceMul, reduceAdd, Nat.reduceBEq, isLd, e3, e14, e15, e16, hkk, p0, p1, p2]
    intro b7 hb7
    simp (maxSteps := 300000) (disch := omega) only [gws, ↓reduceIte, reduceEqDiff, reduceToNat, reduceMul, reduceAdd, Nat.reduceBEq, isLd, e3, e14, e15, e16]
    refine st_fresh (vs := c3 (N.edges.getD k z3)) rfl rfl rfl (c3_one _) ?_
    have s7 := Sub.put hb7 ⟨c3 (N.edges.getD k z3), true⟩
    have q0 : rd (put G' b7 ⟨c3 (N.edges.getD k z3), true⟩) (some ⟨b7, 0, none⟩) = some (.int .i64 (N.edges.getD k z3).1) := rd_box _ _ _ 0 _ rfl
    have q1 : rd (put G' b7 ⟨c3 (N.edges.getD k z3), true⟩) (some ⟨b7, 1, none⟩) = some (.int .i64 (N.edges.getD k z3).2.1) := rd_box _ _ _ 1 _ rfl
    have q2 : rd (put G' b7 ⟨c3 (N.edges.getD k z3), true⟩) (some ⟨b7, 2, none⟩) = some (.int .i64 (N.edges.getD k z3).2.2) := rd_box _ _ _ 2 _ rfl
    obtain ⟨o1, o2, o3, o4⟩ := hn.2.1 k (by omega)
    have lk := graTk_len hn k hkl
    have le := edgeT_len hn (k := k) (by omega)
    obtain ⟨X1, X2, X3, X4, X5, x5, c1, c2, c3', c4, c5⟩ := edge_cat hn (k := k) (by omega)
    have hB7 : BldS (put G1 b7 ⟨c3 (N.edges.getD k z3), true⟩) (put G' b7 ⟨c3 (N.edges.getD k z3), true⟩) b3 (graTk N k) := hB.box hb7
    have r0 : rd (put G1 b7 ⟨c3 (N.edges.getD k z3), true⟩) (some ⟨b7, 0, none⟩) = some (.int .i64 (N.edges.getD k z3).1) := rd_box _ _ _ 0 _ rfl
    have r1 : rd (put G1 b7 ⟨c3 (N.edges.getD k z3), true⟩) (some ⟨b7, 1, none⟩) = some (.int .i64 (N.edges.getD k z3).2.1) := rd_box _ _ _ 1 _ rfl
    have r2 : rd (put G1 b7 ⟨c3 (N.edges.getD k z3), true⟩) (some ⟨b7, 2, none⟩) = some (.int .i64 (N.edges.getD k z3).2.2) := rd_box _ _ _ 2 _ rfl
    have r3 : Sub G1 (put G1 b7 ⟨c3 (N.edges.getD k z3), true⟩) := Sub.put (by cases hx : G1 b7 with | none => rfl | some e => rw [hB.sub _ _ hx] at hb7; cases hb7) _
    have hL7 := ((hL.sub s1).sub hB.sub).sub s7
    have nX : edgeT (N.edges.getD k z3) ≠ [] := by simp [edgeT]
    revert q0 q1 q2 s7 hB7 hL7 r0 r1 r2 r3
    generalize put G' b7 ⟨c3 (N.edges.getD k z3), true⟩ = H
    generalize put G1 b7 ⟨c3 (N.edges.getD k z3), true⟩ = H1
    intro s7 q0 q1 q2 hB7 r0 r1 r2 r3 hL7
    simp (maxSteps := 300000) (disch := omega) only [gws, ↓reduceIte, reduceEqDiff, reduceToNat, reduceMul, reduceAdd, Nat.reduceBEq, isLd, e3, e14, e15, e16, q0, q1, q2]
    refine impl_Decimal_ok hL7 (by omega) (by omega) ?_
    simp (maxSteps := 300000) (disch := omega) only [gws, ↓reduceIte, reduceEqDiff, reduceToNat, reduceMul, reduceAdd, Nat.reduceBEq, isLd, e3, e14, e15, e16, q0, q1, q2, c1, c2, c3', c4, c5]
    refine impl_Decimal_ok hL7 (by omega) (by omega) ?_
    simp (maxSteps := 300000) (disch := omega) only [gws, ↓reduceIte, reduceEqDiff, reduceToNat, reduceMul, reduceAdd, Nat.reduceBEq, isLd, e3, e14, e15, e16, q0, q1, q2, c1, c2, c3', c4, c5]
    refine impl_Decimal_ok hL7 (by omega) (by omega) ?_
    simp (maxSteps := 300000) (disch := omega) only [gws, ↓reduceIte, reduceEqDiff, reduceToNat, reduceMul, reduceAdd, Nat.reduceBEq, isLd, e3, e14, e15, e16, q0, q1, q2, c1, c2, c3', c4, c5]
    refine WriteString_ok hB7 (by rw [x5]; exact nX) (by rw [x5]; omega) fun G8 hB8 => ?_
    have w16 : IntKind.i64.wrap ((k : Int) + 1) = ((k + 1 : Nat) : Int) := by rw [w64 _ (by omega) (by omega)]; omega
    simp (maxSteps := 300000) (disch := omega) only [gws, ↓reduceIte, reduceEqDiff, reduceToNat, reduceMul, reduceAdd, Nat.reduceBEq, isLd, e3, e14, e15, e16, w16]
    exact ⟨⟨rd_sub hB8.sub r2, rd_sub hB8.sub r1, rd_sub hB8.sub r0⟩, m - 1, by omega, G8, Sub.refl _, k + 1, rfl, by omega, by omega, by rw [graTk_succ N (by omega), ← x5]; exact hB8.less r3⟩
  · simp (maxSteps := 300000) (disch := omega) only [gws, ↓reduceIte, reduceEqDiff, reduceToNat, reduceMul, reduceAdd, Nat.reduceBEq, isLd, e3, e14, e15, e16, hkk]
    have : k = N.edges.length := by omega
    subst this
    refine String_ok hB hb3 ?_
    simp (maxSteps := 300000) (disch := omega) only [gws, ↓reduceIte, reduceEqDiff, reduceToNat, reduceMul, reduceAdd, Nat.reduceBEq, isLd]
    exact ⟨G, s1, hk⟩
theorem law_GraphText {G : GH} (hL : LibG G) {v0 : Value} {x0 : Gra} (h0 : GraphV G v0 x0) : GC Tryd.prog 3 [v0] G fun v _ => v = .bool true := by
  obtain ⟨A0, c0, rfl, h0, e0, l0, rn0⟩ := h0
  refine k2k (by simp) ?_
  unfold graV graC
  simp (maxSteps := 300000) (disch := omega) only [gws, ↓reduceIte, reduceEqDiff, reduceToNat, reduceMul, reduceAdd, Nat.reduceBEq, isLd]
  intro p0 hp0
  generalize hG1 : put G p0 ⟨[.int .i64 x0.n, .slice A0 x0.edges.length c0], true⟩ = G1
  have s1 : Sub G G1 := hG1 ▸ Sub.put hp0 _
  have hL := hL.sub s1
  have h0 := h0.sub s1
  have fa0_0 : rd G1 (some ⟨p0, 0, none⟩) = some (.int .i64 x0.n) := by rw [← hG1]; exact rd_box _ _ _ 0 _ rfl
  have fa0_1 : rd G1 (some ⟨p0, 1, none⟩) = some (.slice A0 x0.edges.length c0) := by rw [← hG1]; exact rd_box _ _ _ 1 _ rfl
  simp (maxSteps := 300000) (disch := omega) only [gws, ↓reduceIte, reduceEqDiff, reduceToNat, reduceMul, reduceAdd, Nat.reduceBEq, isLd, fa0_0, fa0_1]
  refine laws_szGraph_ok (N := x0) ⟨by omega, by omega⟩ (by omega) fun q0 q0a q0b q0c => ?_
  simp (maxSteps := 300000) (disch := omega) only [gws, ↓reduceIte, reduceEqDiff, reduceToNat, reduceMul, reduceAdd, Nat.reduceBEq, isLd, fa0_0, fa0_1]
  by_cases g0 : q0 < 0
  · simp (maxSteps := 300000) (disch := omega) only [gws, ↓reduceIte, reduceEqDiff, reduceToNat, reduceMul, reduceAdd, Nat.reduceBEq, isLd, g0, fa0_0, fa0_1]
  simp (maxSteps := 300000) (disch := omega) only [gws, ↓reduceIte, reduceEqDiff, reduceToNat, reduceMul, reduceAdd, Nat.reduceBEq, isLd, g0, fa0_0, fa0_1]
  refine laws_toGraph_ok' (N := x0) h0 (by omega) fun As0 G2 s2 hs0 => ?_
  have hL := hL.sub s2
  have h0 := h0.sub s2
  have fa0_0 := rd_sub s2 fa0_0
  have fa0_1 := rd_sub s2 fa0_1
  simp (maxSteps := 300000) (disch := omega) only [gws, ↓reduceIte, reduceEqDiff, reduceToNat, reduceMul, reduceAdd, Nat.reduceBEq, isLd, fa0_0, fa0_1]
  refine spec_GraphText_ok hs0 (by omega) ?_
  simp (maxSteps := 300000) (disch := omega) only [gws, ↓reduceIte, reduceEqDiff, reduceToNat, reduceMul, reduceAdd, Nat.reduceBEq, isLd, fa0_0, fa0_1]
  refine laws_toGraph_ok' (N := x0) h0 (by omega) fun Ai0 G3 s3 hi0 => ?_
  have hL := hL.sub s3
  have h0 := h0.sub s3
  have hs0 := hs0.sub s3
  have fa0_0 := rd_sub s3 fa0_0
  have fa0_1 := rd_sub s3 fa0_1
  simp (maxSteps := 300000) (disch := omega) only [gws, ↓reduceIte, reduceEqDiff, reduceToNat, reduceMul, reduceAdd, Nat.reduceBEq, isLd, fa0_0, fa0_1]
  intro p1 hp1
  simp (maxSteps := 300000) (disch := omega) only [gws, ↓reduceIte, reduceEqDiff, reduceToNat, reduceMul, reduceAdd, Nat.reduceBEq, isLd, fa0_0, fa0_1]
  refine st_fresh (vs := [.int .i64 x0.n, .slice Ai0 x0.edges.length x0.edges.length]) rfl rfl rfl (by intro v hv; simp only [List.mem_cons, List.not_mem_nil, or_false] at hv; rcases hv with rfl | rfl <;> rfl) ?_
  generalize hG4 : put G3 p1 ⟨[.int .i64 x0.n, .slice Ai0 x0.edges.length x0.edges.length], true⟩ = G4
  have s4 : Sub G3 G4 := hG4 ▸ Sub.put hp1 _
  have hL := hL.sub s4
  have h0 := h0.sub s4
  have hs0 := hs0.sub s4
  have hi0 := hi0.sub s4
  have fa0_0 := rd_sub s4 fa0_0
  have fa0_1 := rd_sub s4 fa0_1
  have fi0_0 : rd G4 (some ⟨p1, 0, none⟩) = some (.int .i64 x0.n) := by rw [← hG4]; exact rd_box _ _ _ 0 _ rfl
  have fi0_1 : rd G4 (some ⟨p1, 1, none⟩) = some (.slice Ai0 x0.edges.length x0.edges.length) := by rw [← hG4]; exact rd_box _ _ _ 1 _ rfl
  simp (maxSteps := 300000) (disch := omega) only [gws, ↓reduceIte, reduceEqDiff, reduceToNat, reduceMul, reduceAdd, Nat.reduceBEq, isLd, fa0_0, fa0_1, fi0_0, fi0_1]
  refine impl_GraphText_ok hL hi0 (by omega) ?_
  simp (maxSteps := 300000) (disch := omega) only [gws, ↓reduceIte, reduceEqDiff, reduceToNat, reduceMul, reduceAdd, Nat.reduceBEq, isLd, seq_ne, ne_eq, eq_self, fa0_0, fa0_1, fi0_0, fi0_1]
  refine laws_toGraph_ok' (N := x0) h0 (by omega) fun Ae0 G5 s5 he0 => ?_
  have hL := hL.sub s5
  have h0 := h0.sub s5
  have hs0 := hs0.sub s5
  have hi0 := hi0.sub s5
  have fa0_0 := rd_sub s5 fa0_0
  have fa0_1 := rd_sub s5 fa0_1
  have fi0_0 := rd_sub s5 fi0_0
  have fi0_1 := rd_sub s5 fi0_1
  simp (maxSteps := 300000) (disch := omega) only [gws, ↓reduceIte, reduceEqDiff, reduceToNat, reduceMul, reduceAdd, Nat.reduceBEq, isLd, fa0_0, fa0_1, fi0_0, fi0_1]
  refine laws_eqGraph_ok (N := x0) (M := x0) hi0 he0 (by omega) fun b hb => ?_
  obtain rfl : b = true := hb.2 rfl
  simp (maxSteps := 300000) (disch := omega) only [gws, ↓reduceIte, reduceEqDiff, reduceToNat, reduceMul, reduceAdd, Nat.reduceBEq, isLd, fa0_0, fa0_1, fi0_0, fi0_1]

end Go.Proofs.YtnaoeggecibkmaaDoor.Gh
