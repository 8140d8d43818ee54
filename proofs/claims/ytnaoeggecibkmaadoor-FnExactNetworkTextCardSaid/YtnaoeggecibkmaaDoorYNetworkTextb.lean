/- What the functions that the law NetworkText reaches return, and the law; it stands under no condition. -/
import Derived.Test.YtnaoeggecibkmaaDoorYNetworkTexta
import Derived.Deep.Draws
import Derived.Lib.ItoaNum
import Derived.Shelf.Lays
import Derived.Shelf.LaysM
import Derived.Shelf.Strconv.Itoa4
import Derived.Shelf.Strings.OnBuilder
import Derived.Shelf.Strings.Builder2
import Derived.Lib.Join
namespace Go.Proofs.YtnaoeggecibkmaaDoor.Gh
open Go Go.RowKit Go.Proofs
open Nat (reduceEqDiff reduceMul reduceAdd)
open Int (reduceToNat)
set_option linter.unusedVariables false
set_option linter.unusedSimpArgs false
set_option maxHeartbeats 4000000

theorem gws : (type_of% @gs) ∧ (type_of% @gs2) ∧ (type_of% @gs3) ∧ (type_of% @gs4) := ⟨@gs, @gs2, @gs3, @gs4⟩
theorem st_one {G : GH} {b o : Nat} {cs : List Value} {v : Value} {K : Value → GH → Prop} (hb : G b = some ⟨cs, true⟩) (ho : o < cs.length) (h1 : oneB v = true) (hk : K undef (put G b ⟨cs.set o v, true⟩)) : gSt 1 (.pointer (some ⟨b, o, none⟩)) v G K := by
  have hc : v.cells = #[v] := by cases v <;> first | rfl | simp [oneB] at h1
  refine ⟨b, o, cs, rfl, hb, by rw [hc]; rfl, by omega, ?_, ?_⟩
  · rw [hc]; intro u hu; simp at hu; subst hu; exact h1
  · rw [hc]; exact hk
/-- the place of the first element that meets p, or -1. -/
def idxI (p : Int → Bool) (xs : List Int) : Int := match xs.findIdx? p with | some i => i | none => -1
theorem idxI_none {p : Int → Bool} {xs : List Int} (h : ∀ i, i < xs.length → p (xs.getD i 0) = false) : idxI p xs = -1 := by
  have : xs.findIdx? p = none := by
    rw [List.findIdx?_eq_none_iff]
    intro x hx
    obtain ⟨i, hi, rfl⟩ := List.getElem_of_mem hx
    simpa [List.getD, hi] using h i hi
  simp [idxI, this]
theorem idxI_some {p : Int → Bool} {xs : List Int} {k : Nat} (hk : k < xs.length) (hp : p (xs.getD k 0) = true) (h : ∀ i, i < k → p (xs.getD i 0) = false) : idxI p xs = k := by
  have : xs.findIdx? p = some k := by
    rw [List.findIdx?_eq_some_iff_getElem]
    refine ⟨hk, by simpa [List.getD, hk] using hp, fun j hj => ?_⟩
    have := h j hj
    simpa [List.getD, show j < xs.length by omega] using this
  simp [idxI, this]
theorem slices_IndexFunc_ok {G : GH} {A : Option Addr} {c : Nat} {xs : List Int} {f : Value} (p : Int → Bool) (h : IntS G A c xs) (hl : xs.length < 2 ^ 40)
    (hf : ∀ i, i < xs.length → ∀ K : Value → GH → Prop, K (.bool (p (xs.getD i 0))) G → gCl Tryd.prog f [.int .i64 (xs.getD i 0)] G K) {K : Value → GH → Prop}
    (hk : K (.int .i64 (idxI p xs)) G) : GC Tryd.prog 111 [.slice A xs.length c, f] G K := by
  refine k63 (by simp) ?_
  have hsn := h.sn
  have hrd := h.rd
  simp (maxSteps := 300000) (disch := omega) only [gws, ↓reduceIte, reduceEqDiff, reduceToNat, reduceMul, reduceAdd, Nat.reduceBEq, isLd]
  refine gLoop_intro (fun m T G' => ∃ k : Nat, T 0 = .slice A xs.length c ∧ T 1 = f ∧ T 7 = .int .i64 xs.length ∧ T 8 = .int .i64 k ∧ m + k = xs.length ∧ k ≤ xs.length ∧ G' = G ∧ ∀ i, i < k → p (xs.getD i 0) = false) xs.length
    ⟨0, by simp (maxSteps := 300000) (disch := omega) only [gws, ↓reduceIte, reduceEqDiff, reduceToNat, reduceMul, reduceAdd, Nat.reduceBEq, isLd], by simp (maxSteps := 300000) (disch := omega) only [gws, ↓reduceIte, reduceEqDiff, reduceToNat, reduceMul, reduceAdd, Nat.reduceBEq, isLd], by simp (maxSteps := 300000) (disch := omega) only [gws, ↓reduceIte, reduceEqDiff, reduceToNat, reduceMul, reduceAdd, Nat.reduceBEq, isLd], by simp (maxSteps := 300000) (disch := omega) only [gws, ↓reduceIte, reduceEqDiff, reduceToNat, reduceMul, reduceAdd, Nat.reduceBEq, isLd] <;> rfl, by omega, by omega, rfl, fun i hi => by omega⟩ ?_
  rintro m T G' ⟨k, h0, h1, h7, h8, hm, hkl, rfl, hinv⟩
  simp (maxSteps := 300000) (disch := omega) only [gws, ↓reduceIte, reduceEqDiff, reduceToNat, reduceMul, reduceAdd, Nat.reduceBEq, isLd, h0, h1, h7, h8]
  by_cases hlt : (k : Int) < xs.length
  · simp (maxSteps := 300000) (disch := omega) only [gws, ↓reduceIte, reduceEqDiff, reduceToNat, reduceMul, reduceAdd, Nat.reduceBEq, isLd, h0, h1, h7, h8, hlt, hrd]
    refine hf k (by omega) _ ?_
    simp (maxSteps := 300000) (disch := omega) only [gws, ↓reduceIte, reduceEqDiff, reduceToNat, reduceMul, reduceAdd, Nat.reduceBEq, isLd, h0, h1, h7, h8]
    cases hp : p (xs.getD k 0)
    · simp (maxSteps := 300000) (disch := omega) only [gws, ↓reduceIte, reduceEqDiff, reduceToNat, reduceMul, reduceAdd, Nat.reduceBEq, isLd, h0, h1, h7, h8]
      refine ⟨m - 1, by omega, _, Sub.refl _, k + 1, rfl, by omega, by omega, rfl, fun i hi => ?_⟩
      by_cases hik : i = k
      · subst hik; exact hp
      · exact hinv i (by omega)
    · simp (maxSteps := 300000) (disch := omega) only [gws, ↓reduceIte, reduceEqDiff, reduceToNat, reduceMul, reduceAdd, Nat.reduceBEq, isLd, h0, h1, h7, h8]
      rw [idxI_some (by omega) hp hinv] at hk; exact hk
  · simp (maxSteps := 300000) (disch := omega) only [gws, ↓reduceIte, reduceEqDiff, reduceToNat, reduceMul, reduceAdd, Nat.reduceBEq, isLd, h0, h1, h7, h8, hlt]
    rw [idxI_none (fun i hi => hinv i (by omega))] at hk; exact hk
theorem slices_ContainsFunc_ok {G : GH} {A : Option Addr} {c : Nat} {xs : List Int} {f : Value} (p : Int → Bool) (h : IntS G A c xs) (hl : xs.length < 2 ^ 40)
    (hf : ∀ i, i < xs.length → ∀ K : Value → GH → Prop, K (.bool (p (xs.getD i 0))) G → gCl Tryd.prog f [.int .i64 (xs.getD i 0)] G K) {K : Value → GH → Prop}
    (hk : K (.bool (xs.any p)) G) : GC Tryd.prog 93 [.slice A xs.length c, f] G K := by
  refine k5r (by simp) ?_
  simp (maxSteps := 300000) (disch := omega) only [gws, ↓reduceIte, reduceEqDiff, reduceToNat, reduceMul, reduceAdd, Nat.reduceBEq, isLd]
  refine slices_IndexFunc_ok p h hl hf ?_
  simp (maxSteps := 300000) (disch := omega) only [gws, ↓reduceIte, reduceEqDiff, reduceToNat, reduceMul, reduceAdd, Nat.reduceBEq, isLd]
  have : decide (0 ≤ idxI p xs) = xs.any p := by
    unfold idxI
    cases hi : xs.findIdx? p with
    | none =>
      rw [List.findIdx?_eq_none_iff] at hi
      have : xs.any p = false := by rw [List.any_eq_false]; intro x hx; simp [hi x hx]
      simp [this]
    | some i =>
      rw [List.findIdx?_eq_some_iff_getElem] at hi
      obtain ⟨h1, h2, _⟩ := hi
      have : xs.any p = true := List.any_eq_true.2 ⟨xs[i], List.getElem_mem h1, h2⟩
      simp [this]
  rw [this]; exact hk
theorem laws_szArcS_ok {G : GH} {A : Option Addr} {n c : Nat} {left : Int} (h0 : -1 ≤ left ∧ left ≤ 2 ^ 20) (hn : n ≤ 2 ^ 63 - 1) {K : Value → GH → Prop} (hk : ∀ l : Int, -1 ≤ l → l ≤ 2 ^ 20 → (0 ≤ l → l + n ≤ left) → K (.int .i64 l) G) :
    GC Tryd.prog 45 [.slice A n c, .int .i64 left] G K := by
  refine k4k (by simp) ?_
  simp (maxSteps := 300000) (disch := omega) only [gws, ↓reduceIte, reduceEqDiff, reduceToNat, reduceMul, reduceAdd, Nat.reduceBEq, isLd]
  by_cases h : left - (n : Int) < 0
  · simp (maxSteps := 300000) (disch := omega) only [gws, ↓reduceIte, reduceEqDiff, reduceToNat, reduceMul, reduceAdd, Nat.reduceBEq, isLd, h]; exact hk _ (by omega) (by omega) (by omega)
  · simp (maxSteps := 300000) (disch := omega) only [gws, ↓reduceIte, reduceEqDiff, reduceToNat, reduceMul, reduceAdd, Nat.reduceBEq, isLd, h]; exact hk _ (by omega) (by omega) (by omega)
theorem laws_toArc_ok {G : GH} (e : T3) {K : Value → GH → Prop} (hk : K (V3 e) G) : GC Tryd.prog 89 [V3 e] G K := by
  refine GC_drop (k51 (by simp) ?_)
  unfold V3 c3
  simp (maxSteps := 300000) (disch := omega) only [gws, ↓reduceIte, reduceEqDiff, reduceToNat, reduceMul, reduceAdd, Nat.reduceBEq, isLd]
  intro b1 hb1
  simp (maxSteps := 300000) (disch := omega) only [gws, ↓reduceIte, reduceEqDiff, reduceToNat, reduceMul, reduceAdd, Nat.reduceBEq, isLd]
  intro b2 hb2
  simp (maxSteps := 300000) (disch := omega) only [gws, ↓reduceIte, reduceEqDiff, reduceToNat, reduceMul, reduceAdd, Nat.reduceBEq, isLd]
  intro b3 hb3
  simp only [put_none] at hb2 hb3
  obtain ⟨n12, f2⟩ := hb2
  obtain ⟨n23, n13, f3⟩ := hb3
  simp (maxSteps := 300000) (disch := omega) only [gws, ↓reduceIte, reduceEqDiff, reduceToNat, reduceMul, reduceAdd, Nat.reduceBEq, isLd]
  refine st_one (put_same _ _ _) (by simp) rfl ?_
  simp (maxSteps := 300000) (disch := omega) only [gws, ↓reduceIte, reduceEqDiff, reduceToNat, reduceMul, reduceAdd, Nat.reduceBEq, isLd]
  refine st_one (put_same _ _ _) (by simp) rfl ?_
  simp (maxSteps := 300000) (disch := omega) only [gws, ↓reduceIte, reduceEqDiff, reduceToNat, reduceMul, reduceAdd, Nat.reduceBEq, isLd]
  refine st_one (put_same _ _ _) (by simp) rfl ?_
  simp (maxSteps := 300000) (disch := omega) only [gws, ↓reduceIte, reduceEqDiff, reduceToNat, reduceMul, reduceAdd, Nat.reduceBEq, isLd]
  refine st_many rfl (by rw [put_ne _ _ n23.symm]; exact put_same _ _ _) rfl (by simp) (c3_one e) ?_
  simp (maxSteps := 300000) (disch := omega) only [gws, ↓reduceIte, reduceEqDiff, reduceToNat, reduceMul, reduceAdd, Nat.reduceBEq, isLd, over]
  exact ⟨G, (((Sub.refl G).skip hb1).skip f2 |>.skip f3).skip f2, hk⟩
theorem laws_toArcS_ok {G : GH} {A : Option Addr} {c : Nat} {xs : List T3} (h : T3S G A c xs) (hl : xs.length ≤ 2 ^ 20) {K : Value → GH → Prop}
    (hk : ∀ b, G b = none → K (.slice (some ⟨b, 0, none⟩) xs.length xs.length) (put G b ⟨flat3 xs, true⟩)) : GC Tryd.prog 48 [.slice A xs.length c] G K := by
  refine k5c (by simp) ?_
  have hsn := h.sn
  simp (maxSteps := 300000) (disch := omega) only [gws, ↓reduceIte, reduceEqDiff, reduceToNat, reduceMul, reduceAdd, Nat.reduceBEq, isLd]
  refine ⟨xs.length, xs.length, rfl, rfl, Nat.le_refl _, by omega, by omega, fun b hb => ?_⟩
  simp (maxSteps := 300000) (disch := omega) only [gws, ↓reduceIte, reduceEqDiff, reduceToNat, reduceMul, reduceAdd, Nat.reduceBEq, isLd]
  refine gLoop_intro (fun m T G' => ∃ k : Nat, T 0 = .slice A xs.length c ∧ T 3 = .slice (some ⟨b, 0, none⟩) xs.length xs.length ∧ T 4 = .int .i64 k ∧ m + k = xs.length ∧ k ≤ xs.length ∧
    G' = put G b ⟨flat3 (xs.take k) ++ List.replicate ((xs.length - k) * 3) (.int .i64 0), true⟩) xs.length ⟨0, by simp (maxSteps := 300000) (disch := omega) only [gws, ↓reduceIte, reduceEqDiff, reduceToNat, reduceMul, reduceAdd, Nat.reduceBEq, isLd], by simp (maxSteps := 300000) (disch := omega) only [gws, ↓reduceIte, reduceEqDiff, reduceToNat, reduceMul, reduceAdd, Nat.reduceBEq, isLd], by simp (maxSteps := 300000) (disch := omega) only [gws, ↓reduceIte, reduceEqDiff, reduceToNat, reduceMul, reduceAdd, Nat.reduceBEq, isLd] <;> rfl, by omega, by omega, by rw [show [Value.int .i64 0, .int .i64 0, .int .i64 0] = List.replicate 3 (.int .i64 0) from rfl, zc_rep]; simp [flat3]⟩ ?_
  rintro m T G' ⟨k, h0, h3, h4, hm, hkl, rfl⟩
  have h' := h.sub (Sub.put hb ⟨flat3 (xs.take k) ++ List.replicate ((xs.length - k) * 3) (.int .i64 0), true⟩)
  have q0 := h'.r0
  have q1 := h'.r1
  have q2 := h'.r2
  simp (maxSteps := 300000) (disch := omega) only [gws, ↓reduceIte, reduceEqDiff, reduceToNat, reduceMul, reduceAdd, Nat.reduceBEq, isLd, h0, h3, h4]
  by_cases hlt : (k : Int) < xs.length
  · simp (maxSteps := 300000) (disch := omega) only [gws, ↓reduceIte, reduceEqDiff, reduceToNat, reduceMul, reduceAdd, Nat.reduceBEq, isLd, h0, h3, h4, hlt, q0, q1, q2]
    refine laws_toArc_ok (xs.getD k z3) ?_
    simp (maxSteps := 300000) (disch := omega) only [gws, ↓reduceIte, reduceEqDiff, reduceToNat, reduceMul, reduceAdd, Nat.reduceBEq, isLd, h0, h3, h4]
    refine st_many (vs := c3 (xs.getD k z3)) rfl (put_same _ _ _) rfl (by rw [List.length_append, flat3_len]; simp; omega) (c3_one _) ?_
    simp (maxSteps := 300000) (disch := omega) only [gws, ↓reduceIte, reduceEqDiff, reduceToNat, reduceMul, reduceAdd, Nat.reduceBEq, isLd, h0, h3, h4]
    rw [fill_set3 xs k (by omega)]
    refine ⟨m - 1, by omega, _, Sub.refl _, k + 1, rfl, by omega, by omega, rfl⟩
  · simp (maxSteps := 300000) (disch := omega) only [gws, ↓reduceIte, reduceEqDiff, reduceToNat, reduceMul, reduceAdd, Nat.reduceBEq, isLd, h0, h3, h4, hlt]
    have := hk b hb
    rw [show k = xs.length by omega]
    simpa using this
theorem laws_eqArc_ok {G : GH} (e f : T3) {K : Value → GH → Prop} (hk : K (.bool (decide (e = f))) G) : GC Tryd.prog 97 [V3 e, V3 f] G K := by
  refine GC_drop (k3m (by simp) ?_)
  unfold V3 c3
  simp (maxSteps := 300000) (disch := omega) only [gws, ↓reduceIte, reduceEqDiff, reduceToNat, reduceMul, reduceAdd, Nat.reduceBEq, isLd]
  intro b1 hb1
  simp (maxSteps := 300000) (disch := omega) only [gws, ↓reduceIte, reduceEqDiff, reduceToNat, reduceMul, reduceAdd, Nat.reduceBEq, isLd]
  intro b2 hb2
  simp only [put_none] at hb2
  obtain ⟨n12, f2⟩ := hb2
  have hs : Sub G (put (put G b1 ⟨[.int .i64 e.1, .int .i64 e.2.1, .int .i64 e.2.2], true⟩) b2 ⟨[.int .i64 f.1, .int .i64 f.2.1, .int .i64 f.2.2], true⟩) := ((Sub.refl G).skip hb1).skip f2
  have he : ∀ b, decide (e = f) = b → ∃ G'', Sub G'' (put (put G b1 ⟨[.int .i64 e.1, .int .i64 e.2.1, .int .i64 e.2.2], true⟩) b2 ⟨[.int .i64 f.1, .int .i64 f.2.1, .int .i64 f.2.2], true⟩) ∧ K (.bool b) G'' := fun b hb => ⟨G, hs, hb ▸ hk⟩
  simp (maxSteps := 300000) (disch := omega) only [gws, ↓reduceIte, reduceEqDiff, reduceToNat, reduceMul, reduceAdd, Nat.reduceBEq, isLd]
  cases h1 : decide (¬ e.1 = f.1)
  · simp (maxSteps := 300000) (disch := omega) only [gws, ↓reduceIte, reduceEqDiff, reduceToNat, reduceMul, reduceAdd, Nat.reduceBEq, isLd]
    cases h2 : decide (¬ e.2.1 = f.2.1)
    · simp (maxSteps := 300000) (disch := omega) only [gws, ↓reduceIte, reduceEqDiff, reduceToNat, reduceMul, reduceAdd, Nat.reduceBEq, isLd]
      cases h3 : decide (¬ e.2.2 = f.2.2)
      · simp (maxSteps := 300000) (disch := omega) only [gws, ↓reduceIte, reduceEqDiff, reduceToNat, reduceMul, reduceAdd, Nat.reduceBEq, isLd]
        simp at h1 h2 h3
        exact he true (by simp [Prod.ext_iff, h1, h2, h3])
      · simp (maxSteps := 300000) (disch := omega) only [gws, ↓reduceIte, reduceEqDiff, reduceToNat, reduceMul, reduceAdd, Nat.reduceBEq, isLd]
        simp at h3
        exact he false (by simp [Prod.ext_iff, h3])
    · simp (maxSteps := 300000) (disch := omega) only [gws, ↓reduceIte, reduceEqDiff, reduceToNat, reduceMul, reduceAdd, Nat.reduceBEq, isLd]
      simp at h2
      exact he false (by simp [Prod.ext_iff, h2])
  · simp (maxSteps := 300000) (disch := omega) only [gws, ↓reduceIte, reduceEqDiff, reduceToNat, reduceMul, reduceAdd, Nat.reduceBEq, isLd]
    simp at h1
    exact he false (by simp [Prod.ext_iff, h1])
theorem laws_eqArcS_ok {G : GH} {A B : Option Addr} {c d : Nat} {xs ys : List T3} (h : T3S G A c xs) (h' : T3S G B d ys) (hl : xs.length < 2 ^ 40) {K : Value → GH → Prop}
    (hk : K (.bool (decide (xs = ys))) G) : GC Tryd.prog 52 [.slice A xs.length c, .slice B ys.length d] G K := by
  refine k3z (by simp) ?_
  have hsn := h.sn
  have hsn' := h'.sn
  have p0 := h.r0
  have p1 := h.r1
  have p2 := h.r2
  have q0 := h'.r0
  have q1 := h'.r1
  have q2 := h'.r2
  simp (maxSteps := 300000) (disch := omega) only [gws, ↓reduceIte, reduceEqDiff, reduceToNat, reduceMul, reduceAdd, Nat.reduceBEq, isLd]
  by_cases hne : xs.length = ys.length
  · simp (maxSteps := 300000) (disch := omega) only [gws, ↓reduceIte, reduceEqDiff, reduceToNat, reduceMul, reduceAdd, Nat.reduceBEq, isLd, show ((xs.length : Int) = ys.length) = True by simp [hne]]
    refine gLoop_intro (fun m T G' => ∃ k : Nat, T 0 = .slice A xs.length c ∧ T 1 = .slice B ys.length d ∧ T 5 = .int .i64 k ∧ m + k = xs.length ∧ k ≤ xs.length ∧ G' = G ∧ ∀ i, i < k → xs.getD i z3 = ys.getD i z3) xs.length
      ⟨0, by simp (maxSteps := 300000) (disch := omega) only [gws, ↓reduceIte, reduceEqDiff, reduceToNat, reduceMul, reduceAdd, Nat.reduceBEq, isLd], by simp (maxSteps := 300000) (disch := omega) only [gws, ↓reduceIte, reduceEqDiff, reduceToNat, reduceMul, reduceAdd, Nat.reduceBEq, isLd], by simp (maxSteps := 300000) (disch := omega) only [gws, ↓reduceIte, reduceEqDiff, reduceToNat, reduceMul, reduceAdd, Nat.reduceBEq, isLd] <;> rfl, by omega, by omega, rfl, fun i hi => by omega⟩ ?_
    rintro m T G' ⟨k, h0, h1, h5, hm, hkl, rfl, hinv⟩
    simp (maxSteps := 300000) (disch := omega) only [gws, ↓reduceIte, reduceEqDiff, reduceToNat, reduceMul, reduceAdd, Nat.reduceBEq, isLd, h0, h1, h5]
    by_cases hlt : (k : Int) < xs.length
    · simp (maxSteps := 300000) (disch := omega) only [gws, ↓reduceIte, reduceEqDiff, reduceToNat, reduceMul, reduceAdd, Nat.reduceBEq, isLd, h0, h1, h5, hlt, p0, p1, p2, q0, q1, q2]
      refine laws_eqArc_ok (xs.getD k z3) (ys.getD k z3) ?_
      simp (maxSteps := 300000) (disch := omega) only [gws, ↓reduceIte, reduceEqDiff, reduceToNat, reduceMul, reduceAdd, Nat.reduceBEq, isLd, h0, h1, h5]
      cases hkk : decide (xs.getD k z3 = ys.getD k z3)
      · have hkk : ¬ xs.getD k z3 = ys.getD k z3 := of_decide_eq_false hkk
        simp (maxSteps := 300000) (disch := omega) only [gws, ↓reduceIte, reduceEqDiff, reduceToNat, reduceMul, reduceAdd, Nat.reduceBEq, isLd]
        have : ¬ xs = ys := by rintro rfl; exact hkk rfl
        simpa [this] using hk
      · have hkk : xs.getD k z3 = ys.getD k z3 := of_decide_eq_true hkk
        simp (maxSteps := 300000) (disch := omega) only [gws, ↓reduceIte, reduceEqDiff, reduceToNat, reduceMul, reduceAdd, Nat.reduceBEq, isLd, h0, h1, h5]
        refine ⟨m - 1, by omega, _, Sub.refl _, k + 1, rfl, by omega, by omega, rfl, fun i hi => ?_⟩
        by_cases hik : i = k
        · subst hik; exact hkk
        · exact hinv i (by omega)
    · simp (maxSteps := 300000) (disch := omega) only [gws, ↓reduceIte, reduceEqDiff, reduceToNat, reduceMul, reduceAdd, Nat.reduceBEq, isLd, h0, h1, h5, hlt]
      have : xs = ys := (t3_eq_iff hne).2 fun i hi => hinv i (by omega)
      simpa [this] using hk
  · simp (maxSteps := 300000) (disch := omega) only [gws, ↓reduceIte, reduceEqDiff, reduceToNat, reduceMul, reduceAdd, Nat.reduceBEq, isLd, show ((xs.length : Int) = ys.length) = False by simp; omega]
    have : ¬ xs = ys := by rintro rfl; exact hne rfl
    simpa [this] using hk
theorem laws_szNetwork_ok {G : GH} {N : Net} {A : Option Addr} {c : Nat} {left : Int} (h0 : -1 ≤ left ∧ left ≤ 2 ^ 20) (hn : N.arcs.length ≤ 2 ^ 63 - 1) {K : Value → GH → Prop} (hk : ∀ l : Int, -1 ≤ l → l ≤ 2 ^ 20 → (0 ≤ l → l + N.arcs.length ≤ left) → K (.int .i64 l) G) :
    GC Tryd.prog 14 [netV N A c, .int .i64 left] G K := by
  refine GC_drop (k4s (by simp) ?_)
  unfold netV netC
  simp (maxSteps := 300000) (disch := omega) only [gws, ↓reduceIte, reduceEqDiff, reduceToNat, reduceMul, reduceAdd, Nat.reduceBEq, isLd]
  intro b1 hb1
  simp (maxSteps := 300000) (disch := omega) only [gws, ↓reduceIte, reduceEqDiff, reduceToNat, reduceMul, reduceAdd, Nat.reduceBEq, isLd]
  refine laws_szArcS_ok h0 hn fun l hl1 hl2 hl3 => ?_
  simp (maxSteps := 300000) (disch := omega) only [gws, ↓reduceIte, reduceEqDiff, reduceToNat, reduceMul, reduceAdd, Nat.reduceBEq, isLd]
  by_cases h : l < 0
  · simp (maxSteps := 300000) (disch := omega) only [gws, ↓reduceIte, reduceEqDiff, reduceToNat, reduceMul, reduceAdd, Nat.reduceBEq, isLd, h]; exact ⟨G, Sub.put hb1 _, hk _ (by omega) (by omega) (by omega)⟩
  · simp (maxSteps := 300000) (disch := omega) only [gws, ↓reduceIte, reduceEqDiff, reduceToNat, reduceMul, reduceAdd, Nat.reduceBEq, isLd, h]; exact ⟨G, Sub.put hb1 _, hk _ (by omega) (by omega) (by omega)⟩
theorem laws_toNetwork_ok {G : GH} {N : Net} {A : Option Addr} {c : Nat} (h : T3S G A c N.arcs) (hl : N.arcs.length ≤ 2 ^ 20) {K : Value → GH → Prop}
    (hk : ∀ b, G b = none → K (netV N (some ⟨b, 0, none⟩) N.arcs.length) (put G b ⟨flat3 N.arcs, true⟩)) : GC Tryd.prog 16 [netV N A c] G K := by
  refine GC_drop (k5m (by simp) ?_)
  unfold netV netC
  simp (maxSteps := 300000) (disch := omega) only [gws, ↓reduceIte, reduceEqDiff, reduceToNat, reduceMul, reduceAdd, Nat.reduceBEq, isLd]
  intro b1 hb1
  simp (maxSteps := 300000) (disch := omega) only [gws, ↓reduceIte, reduceEqDiff, reduceToNat, reduceMul, reduceAdd, Nat.reduceBEq, isLd]
  intro b2 hb2
  simp (maxSteps := 300000) (disch := omega) only [gws, ↓reduceIte, reduceEqDiff, reduceToNat, reduceMul, reduceAdd, Nat.reduceBEq, isLd]
  intro b3 hb3
  simp only [put_none] at hb2 hb3
  obtain ⟨n12, f2⟩ := hb2
  obtain ⟨n23, n13, f3⟩ := hb3
  simp (maxSteps := 300000) (disch := omega) only [gws, ↓reduceIte, reduceEqDiff, reduceToNat, reduceMul, reduceAdd, Nat.reduceBEq, isLd]
  refine st_one (put_same _ _ _) (by simp) rfl ?_
  simp (maxSteps := 300000) (disch := omega) only [gws, ↓reduceIte, reduceEqDiff, reduceToNat, reduceMul, reduceAdd, Nat.reduceBEq, isLd]
  refine st_one (put_same _ _ _) (by simp) rfl ?_
  simp (maxSteps := 300000) (disch := omega) only [gws, ↓reduceIte, reduceEqDiff, reduceToNat, reduceMul, reduceAdd, Nat.reduceBEq, isLd]
  refine st_one (put_same _ _ _) (by simp) rfl ?_
  simp (maxSteps := 300000) (disch := omega) only [gws, ↓reduceIte, reduceEqDiff, reduceToNat, reduceMul, reduceAdd, Nat.reduceBEq, isLd]
  refine laws_toArcS_ok (h.sub ((((Sub.refl G).skip hb1).skip f2).skip f3)) hl fun b4 hb4 => ?_
  simp only [put_none] at hb4
  obtain ⟨n34, n24, n14, f4⟩ := hb4
  simp (maxSteps := 300000) (disch := omega) only [gws, ↓reduceIte, reduceEqDiff, reduceToNat, reduceMul, reduceAdd, Nat.reduceBEq, isLd]
  refine st_one (by rw [put_ne _ _ (by omega)]; exact put_same _ _ _) (by simp) rfl ?_
  simp (maxSteps := 300000) (disch := omega) only [gws, ↓reduceIte, reduceEqDiff, reduceToNat, reduceMul, reduceAdd, Nat.reduceBEq, isLd]
  refine st_many (vs := netC N (some ⟨b4, 0, none⟩) N.arcs.length) rfl (by rw [put_ne _ _ (by omega), put_ne _ _ (by omega), put_ne _ _ (by omega)]; exact put_same _ _ _) rfl (by simp) (by intro v hv; simp [netC] at hv; rcases hv with rfl | rfl | rfl | rfl <;> rfl) ?_
  simp (maxSteps := 300000) (disch := omega) only [gws, ↓reduceIte, reduceEqDiff, reduceToNat, reduceMul, reduceAdd, Nat.reduceBEq, isLd, over, netC]
  refine ⟨_, ?_, hk b4 f4⟩
  refine Sub.skip (Sub.skip (Sub.both ((((Sub.refl G).skip hb1).skip f2).skip f3)) ?_) ?_
  · rw [put_none]; exact ⟨by omega, f3⟩
  · rw [put_none]; exact ⟨by omega, f2⟩
theorem laws_eqNetwork_ok {G : GH} {N M : Net} {A B : Option Addr} {c d : Nat} (h : T3S G A c N.arcs) (h' : T3S G B d M.arcs) (hl : N.arcs.length < 2 ^ 40) {K : Value → GH → Prop}
    (hk : ∀ b : Bool, (b = true ↔ N = M) → K (.bool b) G) : GC Tryd.prog 18 [netV N A c, netV M B d] G K := by
  refine GC_drop (k4c (by simp) ?_)
  unfold netV netC
  simp (maxSteps := 300000) (disch := omega) only [gws, ↓reduceIte, reduceEqDiff, reduceToNat, reduceMul, reduceAdd, Nat.reduceBEq, isLd]
  intro b1 hb1
  simp (maxSteps := 300000) (disch := omega) only [gws, ↓reduceIte, reduceEqDiff, reduceToNat, reduceMul, reduceAdd, Nat.reduceBEq, isLd]
  intro b2 hb2
  simp only [put_none] at hb2
  obtain ⟨n12, f2⟩ := hb2
  have hs := ((Sub.refl G).skip hb1 (e := ⟨netC N A c, true⟩)).skip f2 (e := ⟨netC M B d, true⟩)
  unfold netC at hs
  simp (maxSteps := 300000) (disch := omega) only [gws, ↓reduceIte, reduceEqDiff, reduceToNat, reduceMul, reduceAdd, Nat.reduceBEq, isLd]
  have hN : N = M ↔ N.n = M.n ∧ N.s = M.s ∧ N.t = M.t ∧ N.arcs = M.arcs := by cases N; cases M; simp
  rw [hN] at hk
  cases h1 : decide (¬ N.n = M.n)
  · simp (maxSteps := 300000) (disch := omega) only [gws, ↓reduceIte, reduceEqDiff, reduceToNat, reduceMul, reduceAdd, Nat.reduceBEq, isLd]
    cases h2 : decide (¬ N.s = M.s)
    · simp (maxSteps := 300000) (disch := omega) only [gws, ↓reduceIte, reduceEqDiff, reduceToNat, reduceMul, reduceAdd, Nat.reduceBEq, isLd]
      cases h3 : decide (¬ N.t = M.t)
      · simp (maxSteps := 300000) (disch := omega) only [gws, ↓reduceIte, reduceEqDiff, reduceToNat, reduceMul, reduceAdd, Nat.reduceBEq, isLd]
        refine laws_eqArcS_ok (h.sub hs) (h'.sub hs) hl ?_
        simp (maxSteps := 300000) (disch := omega) only [gws, ↓reduceIte, reduceEqDiff, reduceToNat, reduceMul, reduceAdd, Nat.reduceBEq, isLd]
        cases h4 : decide (N.arcs = M.arcs)
        · simp (maxSteps := 300000) (disch := omega) only [gws, ↓reduceIte, reduceEqDiff, reduceToNat, reduceMul, reduceAdd, Nat.reduceBEq, isLd]
          simp at h4
          exact ⟨G, hs, hk false (by simp [h4])⟩
        · simp (maxSteps := 300000) (disch := omega) only [gws, ↓reduceIte, reduceEqDiff, reduceToNat, reduceMul, reduceAdd, Nat.reduceBEq, isLd]
          simp at h1 h2 h3 h4
          exact ⟨G, hs, hk true (by simp [h1, h2, h3, h4])⟩
      · simp (maxSteps := 300000) (disch := omega) only [gws, ↓reduceIte, reduceEqDiff, reduceToNat, reduceMul, reduceAdd, Nat.reduceBEq, isLd]
        simp at h3
        exact ⟨G, hs, hk false (by simp [h3])⟩
    · simp (maxSteps := 300000) (disch := omega) only [gws, ↓reduceIte, reduceEqDiff, reduceToNat, reduceMul, reduceAdd, Nat.reduceBEq, isLd]
      simp at h2
      exact ⟨G, hs, hk false (by simp [h2])⟩
  · simp (maxSteps := 300000) (disch := omega) only [gws, ↓reduceIte, reduceEqDiff, reduceToNat, reduceMul, reduceAdd, Nat.reduceBEq, isLd]
    simp at h1
    exact ⟨G, hs, hk false (by simp [h1])⟩
theorem laws_toNetwork_ok' {G : GH} {N : Net} {A : Option Addr} {c : Nat} (h : T3S G A c N.arcs) (hl : N.arcs.length ≤ 2 ^ 20) {K : Value → GH → Prop}
    (hk : ∀ A' G', Sub G G' → T3S G' A' N.arcs.length N.arcs → K (netV N A' N.arcs.length) G') : GC Tryd.prog 16 [netV N A c] G K :=
  laws_toNetwork_ok h hl fun b hb => hk _ _ (Sub.put hb _) (New.t3 (New.mk hb _ 3 _ (flat3_len _)))
theorem Own.t3 {G : GH} {A : Option Addr} {c : Nat} {es : List T3} (h : Own G A c (flat3 es) 3 es.length) : T3S G A c es := h.cells.t3 h.cap
theorem Own.mk {G : GH} {A : Option Addr} {c n : Nat} {k : Int} (h : Own G A c ((marks k n).map I64) 1 n) : IntS G A c (marks k n) := ⟨by rw [marks_len]; exact h.cap, cells_int' h.cells⟩
theorem spec_l00In_ok (a b c : Int) {G : GH} {K : Value → GH → Prop} (hk : K (.bool (decide (b ≤ a ∧ a ≤ c))) G) : GC Tryd.prog 80 [.int .i64 a, .int .i64 b, .int .i64 c] G K := by
  refine k6f (by simp) ?_
  simp (maxSteps := 300000) (disch := omega) only [gws, ↓reduceIte, reduceEqDiff, reduceToNat, reduceMul, reduceAdd, Nat.reduceBEq, isLd]
  by_cases h1 : b ≤ a
  · simp (maxSteps := 300000) (disch := omega) only [gws, ↓reduceIte, reduceEqDiff, reduceToNat, reduceMul, reduceAdd, Nat.reduceBEq, isLd, h1]
    simpa [h1] using hk
  · simp (maxSteps := 300000) (disch := omega) only [gws, ↓reduceIte, reduceEqDiff, reduceToNat, reduceMul, reduceAdd, Nat.reduceBEq, isLd, h1]
    simpa [h1] using hk
theorem impl_within_ok (a b c : Int) {G : GH} {K : Value → GH → Prop} (hk : K (.bool (decide (b ≤ a ∧ a ≤ c))) G) : GC Tryd.prog 83 [.int .i64 a, .int .i64 b, .int .i64 c] G K := by
  refine k2v (by simp) ?_
  simp (maxSteps := 300000) (disch := omega) only [gws, ↓reduceIte, reduceEqDiff, reduceToNat, reduceMul, reduceAdd, Nat.reduceBEq, isLd]
  by_cases h1 : b ≤ a
  · simp (maxSteps := 300000) (disch := omega) only [gws, ↓reduceIte, reduceEqDiff, reduceToNat, reduceMul, reduceAdd, Nat.reduceBEq, isLd, h1]
    simpa [h1] using hk
  · simp (maxSteps := 300000) (disch := omega) only [gws, ↓reduceIte, reduceEqDiff, reduceToNat, reduceMul, reduceAdd, Nat.reduceBEq, isLd, h1]
    simpa [h1] using hk
def cmp3 (a b : Int) : Int := if a < b then -1 else if b < a then 1 else 0
theorem cmp_isNaN_ok (a : Int) {G : GH} {K : Value → GH → Prop} (hk : K (.bool false) G) : GC Tryd.prog 110 [.int .i64 a] G K := by
  refine ky (by simp) ?_
  simp (maxSteps := 300000) (disch := omega) only [gws, ↓reduceIte, reduceEqDiff, reduceToNat, reduceMul, reduceAdd, Nat.reduceBEq, isLd]
  exact hk
theorem cmp_Compare_ok (a b : Int) {G : GH} {K : Value → GH → Prop} (hk : K (.int .i64 (cmp3 a b)) G) : GC Tryd.prog 92 [.int .i64 a, .int .i64 b] G K := by
  refine kg (by simp) ?_
  simp (maxSteps := 300000) (disch := omega) only [gws, ↓reduceIte, reduceEqDiff, reduceToNat, reduceMul, reduceAdd, Nat.reduceBEq, isLd]
  refine cmp_isNaN_ok _ ?_
  simp (maxSteps := 300000) (disch := omega) only [gws, ↓reduceIte, reduceEqDiff, reduceToNat, reduceMul, reduceAdd, Nat.reduceBEq, isLd]
  refine cmp_isNaN_ok _ ?_
  simp (maxSteps := 300000) (disch := omega) only [gws, ↓reduceIte, reduceEqDiff, reduceToNat, reduceMul, reduceAdd, Nat.reduceBEq, isLd]
  unfold cmp3 at hk
  by_cases h1 : a < b
  · simp (maxSteps := 300000) (disch := omega) only [gws, ↓reduceIte, reduceEqDiff, reduceToNat, reduceMul, reduceAdd, Nat.reduceBEq, isLd, h1]; rwa [if_pos h1] at hk
  · rw [if_neg h1] at hk
    simp (maxSteps := 300000) (disch := omega) only [gws, ↓reduceIte, reduceEqDiff, reduceToNat, reduceMul, reduceAdd, Nat.reduceBEq, isLd, h1]
    by_cases h2 : b < a
    · simp (maxSteps := 300000) (disch := omega) only [gws, ↓reduceIte, reduceEqDiff, reduceToNat, reduceMul, reduceAdd, Nat.reduceBEq, isLd, h2]; rwa [if_pos h2] at hk
    · simp (maxSteps := 300000) (disch := omega) only [gws, ↓reduceIte, reduceEqDiff, reduceToNat, reduceMul, reduceAdd, Nat.reduceBEq, isLd, h2]; rwa [if_neg h2] at hk
/-- cmp.Or of two numbers. -/
theorem cmp_Or_ok (a b : Int) {G : GH} {A : Option Addr} {c : Nat} (h0 : rd G A = some (.int .i64 a)) (h1 : rd G (pa A 1) = some (.int .i64 b)) {K : Value → GH → Prop} (hk : K (.int .i64 (if a = 0 then b else a)) G) : GC Tryd.prog 91 [.slice A 2 c] G K := by
  refine kt (by simp) ?_
  have hsn := rd_some h0
  simp (maxSteps := 300000) (disch := omega) only [gws, ↓reduceIte, reduceEqDiff, reduceToNat, reduceMul, reduceAdd, Nat.reduceBEq, isLd]
  refine gLoop_intro (fun m T G' => ∃ k : Nat, T 3 = .int .i64 0 ∧ T 6 = .slice A 2 c ∧ T 7 = .int .i64 2 ∧ T 8 = .int .i64 k ∧ m + k = 2 ∧ G' = G ∧ (k = 1 → a = 0) ∧ (k = 2 → a = 0 ∧ b = 0)) 2 ⟨0, by simp (maxSteps := 300000) (disch := omega) only [gws, ↓reduceIte, reduceEqDiff, reduceToNat, reduceMul, reduceAdd, Nat.reduceBEq, isLd], by simp (maxSteps := 300000) (disch := omega) only [gws, ↓reduceIte, reduceEqDiff, reduceToNat, reduceMul, reduceAdd, Nat.reduceBEq, isLd], by simp (maxSteps := 300000) (disch := omega) only [gws, ↓reduceIte, reduceEqDiff, reduceToNat, reduceMul, reduceAdd, Nat.reduceBEq, isLd] <;> rfl, by simp (maxSteps := 300000) (disch := omega) only [gws, ↓reduceIte, reduceEqDiff, reduceToNat, reduceMul, reduceAdd, Nat.reduceBEq, isLd] <;> rfl, by omega, rfl, by omega, by omega⟩ ?_
  rintro m T G' ⟨k, e3, e6, e7, e8, hm, rfl, ha, hb⟩
  simp (maxSteps := 300000) (disch := omega) only [gws, ↓reduceIte, reduceEqDiff, reduceToNat, reduceMul, reduceAdd, Nat.reduceBEq, isLd, e3, e6, e7, e8]
  have hk2 : k = 0 ∨ k = 1 ∨ k = 2 := by omega
  rcases hk2 with rfl | rfl | rfl
  · simp (maxSteps := 300000) (disch := omega) only [gws, ↓reduceIte, reduceEqDiff, reduceToNat, reduceMul, reduceAdd, Nat.reduceBEq, isLd, e3, e6, e7, e8, Int.natCast_zero, Int.reduceLT, Int.le_refl, h0]
    cases hz : decide (¬ a = 0)
    · simp (maxSteps := 300000) (disch := omega) only [gws, ↓reduceIte, reduceEqDiff, reduceToNat, reduceMul, reduceAdd, Nat.reduceBEq, isLd, e3, e6, e7, e8]
      have hz : a = 0 := by simpa using hz
      exact ⟨m - 1, by omega, _, Sub.refl _, 1, rfl, by omega, rfl, fun _ => hz, by omega⟩
    · simp (maxSteps := 300000) (disch := omega) only [gws, ↓reduceIte, reduceEqDiff, reduceToNat, reduceMul, reduceAdd, Nat.reduceBEq, isLd]
      have hz : ¬ a = 0 := by simpa using hz
      rwa [if_neg hz] at hk
  · rw [if_pos (ha rfl)] at hk
    simp (maxSteps := 300000) (disch := omega) only [gws, ↓reduceIte, reduceEqDiff, reduceToNat, reduceMul, reduceAdd, Nat.reduceBEq, isLd, e3, e6, e7, e8, Int.natCast_one, Int.reduceLT, Int.le_refl, h1]
    cases hz : decide (¬ b = 0)
    · simp (maxSteps := 300000) (disch := omega) only [gws, ↓reduceIte, reduceEqDiff, reduceToNat, reduceMul, reduceAdd, Nat.reduceBEq, isLd, e3, e6, e7, e8]
      have hz : b = 0 := by simpa using hz
      exact ⟨m - 1, by omega, _, Sub.refl _, 2, rfl, by omega, rfl, by omega, fun _ => ⟨ha rfl, hz⟩⟩
    · simp (maxSteps := 300000) (disch := omega) only [gws, ↓reduceIte, reduceEqDiff, reduceToNat, reduceMul, reduceAdd, Nat.reduceBEq, isLd]
      exact hk
  · rw [if_pos (hb rfl).1, (hb rfl).2] at hk
    simp (maxSteps := 300000) (disch := omega) only [gws, ↓reduceIte, reduceEqDiff, reduceToNat, reduceMul, reduceAdd, Nat.reduceBEq, isLd, e3, e6, e7, e8, Int.reduceLT, show (((2 : Nat) : Int) < 2) = False by decide]
    exact hk
theorem impl_isElement_ok (a p : Int) {G : GH} {K : Value → GH → Prop} (hk : K (.bool (decide (0 ≤ a ∧ a ≤ IntKind.i64.wrap (p - 1)))) G) : GC Tryd.prog 90 [.int .i64 a, .int .i64 p] G K := by
  refine k2l (by simp) ?_
  simp (maxSteps := 300000) (disch := omega) only [gws, ↓reduceIte, reduceEqDiff, reduceToNat, reduceMul, reduceAdd, Nat.reduceBEq, isLd]
  refine impl_within_ok _ _ _ ?_
  simp (maxSteps := 300000) (disch := omega) only [gws, ↓reduceIte, reduceEqDiff, reduceToNat, reduceMul, reduceAdd, Nat.reduceBEq, isLd]
  exact hk
def okArc (n : Int) (e : T3) : Prop := (0 ≤ e.1 ∧ e.1 ≤ n) ∧ (0 ≤ e.2.1 ∧ e.2.1 ≤ n) ∧ e.1 ≠ e.2.1 ∧ (0 ≤ e.2.2 ∧ e.2.2 ≤ 1000000)
def ltArc (a b : T3) : Prop := a.1 < b.1 ∨ a.1 = b.1 ∧ a.2.1 < b.2.1
def arcsOk (n : Int) (es : List T3) : Prop := (∀ i, i < es.length → okArc n (es.getD i z3)) ∧ ∀ i, i + 1 < es.length → ltArc (es.getD i z3) (es.getD (i + 1) z3)
/-- a valid network. -/
def NetOk (N : Net) : Prop := (2 ≤ N.n ∧ N.n ≤ 12) ∧ (0 ≤ N.s ∧ N.s ≤ N.n - 1) ∧ (0 ≤ N.t ∧ N.t ≤ N.n - 1) ∧ N.s ≠ N.t ∧ arcsOk (N.n - 1) N.arcs ∧ N.arcs.length ≤ 24
theorem cmp_lt (a b : T3) : (0 ≤ (if cmp3 a.1 b.1 = 0 then cmp3 a.2.1 b.2.1 else cmp3 a.1 b.1)) ↔ ¬ ltArc a b := by
  unfold ltArc cmp3
  by_cases h1 : a.1 < b.1
  · simp [h1]
  · by_cases h2 : b.1 < a.1
    · simp [h1, h2]; omega
    · by_cases h3 : a.2.1 < b.2.1
      · simp [h1, h2, h3]; omega
      · by_cases h4 : b.2.1 < a.2.1 <;> simp [h1, h2, h3, h4] <;> omega
theorem Own.len {G : GH} {A : Option Addr} {c sz n : Nat} {cs : List Value} (h : Own G A c cs sz n) : cs.length = n * sz := by
  rcases h with ⟨_, _, rfl, rfl⟩ | ⟨b, r, _, _, h, _⟩
  · simp
  · exact h
theorem Own.blk {G : GH} {b : Nat} {cs : List Value} {sz n : Nat} (h : G b = some ⟨cs, true⟩) (hl : cs.length = n * sz) : Own G (some ⟨b, 0, none⟩) n cs sz n :=
  .inr ⟨b, [], rfl, by simpa using h, hl, by simpa using hl, Nat.le_refl _⟩
theorem Off.nil (H : GH) : Off H none := fun a ha => by cases ha
theorem Own.cast {G : GH} {A : Option Addr} {c sz n : Nat} {cs cs' : List Value} (h : Own G A c cs sz n) (e : cs = cs') {n' : Nat} (en : n = n') : Own G A c cs' sz n' := e ▸ en ▸ h
theorem Own.nil (G : GH) (sz : Nat) : Own G none 0 [] sz 0 := .inl ⟨rfl, rfl, rfl, rfl⟩
theorem New.sn {G G' : GH} {A : Option Addr} {c sz n : Nat} {cs : List Value} (h : New G G' A c cs sz n) (hn : 0 < n) : 0 < Gh.sn A := by
  rcases h with ⟨_, _, h0, _, _⟩ | ⟨b, r, rfl, _⟩
  · omega
  · simp [Gh.sn]
theorem Holds.kit {W w w' : World} {G : GH} (h : Holds W w G) (hb : Below w.heap.size w w') : Holds W w' G := by
  refine ⟨h.below.trans (hb.mono h.below.size), fun b e x => ?_, fun d => absurd d (by unfold Dr; exact id)⟩
  obtain ⟨el, fz, hw, hr⟩ := h.ent b e x
  exact ⟨el, fz, by rw [hb.block b (h.lt x)]; exact hw, hr⟩
/-- A function of the library that leaves memory as it was. -/
theorem GC_kit {P : Program} {f : FuncId} {args : List Value} {G : GH} {v : Value} {K : Value → GH → Prop} (hE : Enterable P f) (h : ∀ W w, Holds W w G → Calls P f args.toArray w fun e w' => e = .returned v ∧ Below w.heap.size w w') (hk : K v G) : GC P f args G K :=
  ⟨hE, fun W w hw => (h W w hw).mono fun e w' ⟨he, hb⟩ => ⟨v, G, he, hk, hw.kit hb⟩⟩
theorem Holds.cell' {W w : World} {G : GH} (h : Holds W w G) {b o : Nat} {v : Value} (hr : Gh.rd G (some ⟨b, o, none⟩) = some v) : w.cell? ⟨b, o, none⟩ = some v := by
  obtain ⟨a, e, hc⟩ := h.rd hr
  cases e; exact hc
/-- A text, by its bytes. -/
abbrev sv (l : List UInt8) : Value := .string ⟨l.toArray⟩
theorem bs_append (a b : List UInt8) : (⟨a.toArray⟩ : ByteArray) ++ ⟨b.toArray⟩ = ⟨(a ++ b).toArray⟩ := by
  apply ByteArray.ext
  rw [ByteArray.data_append]
  simp
theorem bs_size (a : List UInt8) : (⟨a.toArray⟩ : ByteArray).size = a.length := by simp [ByteArray.size]
theorem bs_list (a : List UInt8) : (⟨a.toArray⟩ : ByteArray).toList = a := by
  simp
theorem cat_ok {a b : List UInt8} (h : a.length + b.length ≤ 9223372036854775807) : binV .add (.string ⟨a.toArray⟩) (.string ⟨b.toArray⟩) = some (.string ⟨(a ++ b).toArray⟩) := by
  have e : binOp .add 0 (.string ⟨a.toArray⟩) (.string ⟨b.toArray⟩) = Op.stringOp .add ⟨a.toArray⟩ ⟨b.toArray⟩ := rfl
  simp only [binV, e, Op.stringOp, bs_size, bs_append]
  rw [if_neg (by have : IntKind.i64.max = 9223372036854775807 := rfl; omega)]
  rfl
theorem seq_ne (a b : List UInt8) : binV .neq (.string ⟨a.toArray⟩) (.string ⟨b.toArray⟩) = some (.bool (decide (a ≠ b))) := by
  have e : binOp .neq 0 (.string ⟨a.toArray⟩) (.string ⟨b.toArray⟩) = Op.stringOp .neq ⟨a.toArray⟩ ⟨b.toArray⟩ := rfl
  simp only [binV, e, Op.stringOp, bs_list]
  by_cases h : a = b
  · subst h; simp; rfl
  · rw [beq_eq_false_iff_ne.2 h]; simp [h]; rfl
/-- the digits of a number, the last one first; none for 0. -/
def dgs (m : Nat) : List UInt8 := if h : m = 0 then [] else UInt8.ofNat (48 + m % 10) :: dgs (m / 10)
termination_by m
decreasing_by omega
theorem dgs_zero : dgs 0 = [] := by rw [dgs, dif_pos rfl]
theorem dgs_pos {m : Nat} (h : m ≠ 0) : dgs m = UInt8.ofNat (48 + m % 10) :: dgs (m / 10) := by rw [dgs, dif_neg h]
theorem dec_dgs : ∀ (k m : Nat), m ≤ k → m ≠ 0 → Lib.decDigits m = (dgs m).reverse
  | 0, m, h, h0 => by omega
  | k + 1, m, h, h0 => by
    rw [Lib.decDigits, dgs_pos h0]
    by_cases h10 : m < 10
    · rw [dif_pos h10, show m / 10 = 0 by omega, dgs_zero, show m % 10 = m by omega]; rfl
    · rw [dif_neg h10, dec_dgs k (m / 10) (by omega) (by omega)]; simp
theorem dgs_len : ∀ (k m : Nat), m < 10 ^ k → (dgs m).length ≤ k
  | 0, m, h => by have : m = 0 := by simpa using h
                  subst this; rw [dgs_zero]; simp
  | k + 1, m, h => by
    by_cases h0 : m = 0
    · subst h0; rw [dgs_zero]; simp
    · rw [dgs_pos h0, List.length_cons]
      have := dgs_len k (m / 10) (by rw [Nat.pow_succ] at h; omega)
      omega
theorem itoa_zero : Lib.itoa 0 = [48] := by simp [Lib.itoa, Lib.decDigits]
theorem itoa_dgs {n : Int} (h : n ≠ 0) : Lib.itoa n = (dgs n.natAbs ++ if n < 0 then [45] else []).reverse := by
  unfold Lib.itoa
  by_cases h0 : n < 0
  · rw [if_pos h0, if_pos h0, dec_dgs _ _ (Nat.le_refl _) (by omega)]; simp
  · rw [if_neg h0, if_neg h0, List.append_nil, show n.toNat = n.natAbs by omega, dec_dgs _ _ (Nat.le_refl _) (by omega)]
theorem itoa_len {n : Int} (h0 : -9223372036854775808 ≤ n) (h1 : n ≤ 9223372036854775807) : (Lib.itoa n).length ≤ 20 := by
  by_cases h : n = 0
  · subst h; rw [itoa_zero]; simp
  · rw [itoa_dgs h, List.length_reverse, List.length_append]
    have := dgs_len 19 n.natAbs (by have : n.natAbs < 10 ^ 19 := by omega
                                    exact this)
    split <;> simp <;> omega
/-- bytes as cells. -/
def B8 (b : UInt8) : Value := .int .u8 b.toNat
theorem b8_get {G : GH} {A : Option Addr} {l : List UInt8} (h : Cells G A (l.map B8)) : ∀ (j : Nat) b, l[j]? = some b → rd G (pa A j) = some (.int .u8 b.toNat) := fun j b hj => h j _ (by rw [List.getElem?_map, hj]; rfl)
theorem digit_byte (d : Nat) (h : d < 10) : Value.int .u8 (IntKind.u8.wrap (48 + (d : Int))) = B8 (UInt8.ofNat (48 + d)) := by
  unfold B8
  rw [show IntKind.u8.wrap (48 + (d : Int)) = 48 + (d : Int) from by
    unfold IntKind.wrap
    simp [IntKind.bits, IntKind.signed]
    omega]
  congr 1
  rw [UInt8.toNat_ofNat']
  omega
def lay173_ren : Go.Shelf.Ren := ⟨fun | 173 => 86 | 246 => 109 | 283 => 122 | 284 => 123 | 285 => 124 | 286 => 125 | 129 => 141 | 317 => 140 | 318 => 142 | 319 => 143 | 320 => 144 | 337 => 153 | 338 => 154 | n => n, fun | 2 => 2 | 3 => 3 | 9 => 9 | 4 => 4 | 171 => 151 | 0 => 0 | 53 => 152 | 37 => 71 | 5 => 5 | 173 => 155 | 212 => 172 | 51 => 173 | 20 => 20 | 213 => 174 | 46 => 166 | 232 => 192 | 233 => 193 | n => n, fun | 17 => 1 | 18 => 6 | 19 => 7 | n => n⟩
theorem lay173 : Go.Proofs.LaysM.n173 Tryd.prog lay173_ren := {
  mixed := by kernel_rfl
  f129 := Tryd.func141.trans (congrArg some (by kernel_rfl))
  f173 := Tryd.func86.trans (congrArg some (by kernel_rfl))
  f246 := Tryd.func109.trans (congrArg some (by kernel_rfl))
  f283 := Tryd.func122.trans (congrArg some (by kernel_rfl))
  f284 := Tryd.func123.trans (congrArg some (by kernel_rfl))
  f285 := Tryd.func124.trans (congrArg some (by kernel_rfl))
  f286 := Tryd.func125.trans (congrArg some (by kernel_rfl))
  f317 := Tryd.func140.trans (congrArg some (by kernel_rfl))
  f318 := Tryd.func142.trans (congrArg some (by kernel_rfl))
  f319 := Tryd.func143.trans (congrArg some (by kernel_rfl))
  f320 := Tryd.func144.trans (congrArg some (by kernel_rfl))
  f337 := Tryd.func153.trans (congrArg some (by kernel_rfl))
  f338 := Tryd.func154.trans (congrArg some (by kernel_rfl))
  t0 := Tryd.underlying0
  a0 := Tryd.isAgg0
  z0 := Tryd.sizeOf0
  v0 := Tryd.zeroValue0
  t2 := Tryd.underlying2
  a2 := Tryd.isAgg2
  z2 := Tryd.sizeOf2
  v2 := Tryd.zeroValue2
  t3 := Tryd.underlying3
  a3 := Tryd.isAgg3
  z3 := Tryd.sizeOf3
  v3 := Tryd.zeroValue3
  t4 := Tryd.underlying4
  a4 := Tryd.isAgg4
  z4 := Tryd.sizeOf4
  v4 := Tryd.zeroValue4
  t5 := Tryd.underlying5
  a5 := Tryd.isAgg5
  z5 := Tryd.sizeOf5
  v5 := Tryd.zeroValue5
  t9 := Tryd.underlying9
  a9 := Tryd.isAgg9
  z9 := Tryd.sizeOf9
  v9 := Tryd.zeroValue9
  t20 := Tryd.underlying20
  a20 := Tryd.isAgg20
  z20 := Tryd.sizeOf20
  v20 := Tryd.zeroValue20
  t37 := Tryd.underlying71
  a37 := Tryd.isAgg71
  z37 := Tryd.sizeOf71
  v37 := Tryd.zeroValue71
  t46 := Tryd.underlying166
  a46 := Tryd.isAgg166
  z46 := Tryd.sizeOf166
  v46 := Tryd.zeroValue166
  t51 := Tryd.underlying173
  a51 := Tryd.isAgg173
  z51 := Tryd.sizeOf173
  v51 := Tryd.zeroValue173
  t53 := Tryd.underlying152
  a53 := Tryd.isAgg152
  z53 := Tryd.sizeOf152
  v53 := Tryd.zeroValue152
  t171 := Tryd.underlying151
  a171 := Tryd.isAgg151
  z171 := Tryd.sizeOf151
  v171 := Tryd.zeroValue151
  t173 := Tryd.underlying155
  a173 := Tryd.isAgg155
  z173 := Tryd.sizeOf155
  v173 := Tryd.zeroValue155
  t212 := Tryd.underlying172
  a212 := Tryd.isAgg172
  z212 := Tryd.sizeOf172
  v212 := Tryd.zeroValue172
  t213 := Tryd.underlying174
  a213 := Tryd.isAgg174
  z213 := Tryd.sizeOf174
  t232 := Tryd.underlying192
  a232 := Tryd.isAgg192
  z232 := Tryd.sizeOf192
  v232 := Tryd.zeroValue192
  t233 := Tryd.underlying193
  a233 := Tryd.isAgg193
  z233 := Tryd.sizeOf193
  v233 := Tryd.zeroValue193
  g17 := by kernel_rfl
  g18 := by kernel_rfl
  g19 := by kernel_rfl
  i0 := by kernel_rfl
  i2 := by kernel_rfl
  i3 := by kernel_rfl
  i4 := by kernel_rfl
  i5 := by kernel_rfl
  i9 := by kernel_rfl
  i20 := by kernel_rfl
  i37 := by kernel_rfl
  i46 := by kernel_rfl
  i51 := by kernel_rfl
  i53 := by kernel_rfl
  i171 := by kernel_rfl
  i173 := by kernel_rfl
  i212 := by kernel_rfl
  i232 := by kernel_rfl
  i233 := by kernel_rfl
  m17 := by kernel_rfl
  m18 := by kernel_rfl
  m19 := by kernel_rfl }
def lay156_ren : Go.Shelf.Ren := ⟨fun | 156 => 51 | 165 => 96 | 166 => 41 | 169 => 43 | 240 => 85 | 241 => 112 | 276 => 108 | 277 => 126 | n => n, fun | 31 => 90 | 9 => 9 | 3 => 3 | 4 => 4 | 0 => 0 | 20 => 20 | 72 => 73 | 76 => 76 | 70 => 70 | 37 => 71 | 75 => 75 | 127 => 123 | 164 => 142 | 5 => 5 | 80 => 81 | n => n, fun n => n⟩
theorem lay156 : Go.Proofs.Lays.n156 Tryd.prog lay156_ren := {
  mixed := by kernel_rfl
  f156 := Tryd.func51.trans (congrArg some (by kernel_rfl))
  f165 := Tryd.func96.trans (congrArg some (by kernel_rfl))
  f166 := Tryd.func41.trans (congrArg some (by kernel_rfl))
  f169 := Tryd.func43.trans (congrArg some (by kernel_rfl))
  f240 := Tryd.func85.trans (congrArg some (by kernel_rfl))
  f241 := Tryd.func112.trans (congrArg some (by kernel_rfl))
  f276 := Tryd.func108.trans (congrArg some (by kernel_rfl))
  f277 := Tryd.func126.trans (congrArg some (by kernel_rfl))
  t0 := Tryd.underlying0
  a0 := Tryd.isAgg0
  z0 := Tryd.sizeOf0
  v0 := Tryd.zeroValue0
  t3 := Tryd.underlying3
  a3 := Tryd.isAgg3
  z3 := Tryd.sizeOf3
  v3 := Tryd.zeroValue3
  t4 := Tryd.underlying4
  a4 := Tryd.isAgg4
  z4 := Tryd.sizeOf4
  v4 := Tryd.zeroValue4
  t9 := Tryd.underlying9
  a9 := Tryd.isAgg9
  z9 := Tryd.sizeOf9
  v9 := Tryd.zeroValue9
  t20 := Tryd.underlying20
  a20 := Tryd.isAgg20
  z20 := Tryd.sizeOf20
  v20 := Tryd.zeroValue20
  t31 := Tryd.underlying90
  a31 := Tryd.isAgg90
  z31 := Tryd.sizeOf90
  v31 := Tryd.zeroValue90
  t37 := Tryd.underlying71
  a37 := Tryd.isAgg71
  z37 := Tryd.sizeOf71
  v37 := Tryd.zeroValue71
  t70 := Tryd.underlying70
  a70 := Tryd.isAgg70
  z70 := Tryd.sizeOf70
  v70 := Tryd.zeroValue70
  t72 := Tryd.underlying73
  a72 := Tryd.isAgg73
  z72 := Tryd.sizeOf73
  v72 := Tryd.zeroValue73
  t75 := Tryd.underlying75
  a75 := Tryd.isAgg75
  z75 := Tryd.sizeOf75
  v75 := Tryd.zeroValue75
  t76 := Tryd.underlying76
  a76 := Tryd.isAgg76
  z76 := Tryd.sizeOf76
  v76 := Tryd.zeroValue76
  t127 := Tryd.underlying123
  a127 := Tryd.isAgg123
  z127 := Tryd.sizeOf123
  v127 := Tryd.zeroValue123
  t164 := Tryd.underlying142
  a164 := Tryd.isAgg142
  z164 := Tryd.sizeOf142
  v164 := Tryd.zeroValue142 }
theorem lay156_X : Builder.Extra Tryd.prog lay156_ren := {
  sizeBuilder := by kernel_rfl
  liesBuilder := by kernel_rfl
  t5 := Tryd.underlying5
  a5 := Tryd.isAgg5
  z5 := Tryd.sizeOf5
  v5 := Tryd.zeroValue5
  infoByte := by kernel_rfl
  cellsByte := by kernel_rfl
  sizeByte := by kernel_rfl
  neB5 := by decide }
def b8 : TypeId := lay156_ren.t 5
theorem below_grow (w : World) (k : Nat) (os : Array Obj) : Below w.heap.size w (Go.Sort.grow (w.drewN k) os) :=
  ⟨rfl, rfl, rfl, by simp [Go.Sort.grow, World.drewN], fun i hi => by
    show (w.heap ++ os)[i]? = _
    rw [Array.getElem?_append_left hi]⟩
/-- What the library's variables hold. -/
structure LibG (G : GH) : Prop where
  tab : ∃ g r, Tryd.prog.globalNamed "internal/strconv.uint64pow10" = some g ∧ G g = some ⟨Lib.pow10Tab.map fun z => Value.int .u64 z, r⟩
theorem LibG.sub {G G' : GH} (h : LibG G) (s : Sub G G') : LibG G' := by
  obtain ⟨g, r, h1, h2⟩ := h.tab
  exact ⟨⟨g, r, h1, s _ _ h2⟩⟩
theorem LibG.tabIs {W w : World} {G : GH} (h : LibG G) (hw : Holds W w G) : Lib.TabIs Tryd.prog w "internal/strconv.uint64pow10" .u64 Lib.pow10Tab := by
  obtain ⟨g, r, h1, h2⟩ := h.tab
  obtain ⟨el, fz, hh, _⟩ := hw.ent g _ h2
  simp only [Lib.TabIs, World.var?, h1, Option.bind_some, hh]
theorem FormatInt_ok {G : GH} (hL : LibG G) {n : Int} (h0 : -9223372036854775808 ≤ n) (h1 : n ≤ 9223372036854775807) {K : Value → GH → Prop} (hk : K (.string ⟨(Lib.itoa n).toArray⟩) G) : GC Tryd.prog 86 [.int .i64 n, .int .i64 10] G K :=
  GC_kit ⟨_, lay173.f173, by kernel_rfl, by kernel_rfl⟩ (fun W w hw => Calls.mono (Any.strconv_FormatInt_10 (P := Tryd.prog) (ρ := lay173_ren) lay173 n h0 h1 w (hL.tabIs hw)) (by rintro e w' ⟨rfl, k, os, rfl⟩; exact ⟨rfl, below_grow _ _ _⟩)) hk
theorem Join_ok {G : GH} {bk o c : Nat} {xs : List (List UInt8)} {sep : List UInt8} (hx : Cells G (some ⟨bk, o, none⟩) (xs.map sv)) (h0 : 0 < xs.length) (hc : xs.length ≤ c) (hN : xs.length ≤ 2 ^ 40) (hlen : (Lib.join xs sep).length ≤ 2 ^ 40) {K : Value → GH → Prop}
    (hk : K (.string ⟨(Lib.join xs sep).toArray⟩) G) : GC Tryd.prog 51 [.slice (some ⟨bk, o, none⟩) xs.length c, .string ⟨sep.toArray⟩] G K := by
  have hm : (xs.map fun l => (⟨l.toArray⟩ : ByteArray)).map (·.data.toList) = xs := by
    rw [List.map_map]
    have : ((fun x : ByteArray => x.data.toList) ∘ fun l : List UInt8 => (⟨l.toArray⟩ : ByteArray)) = id := by funext l; rfl
    rw [this, List.map_id]
  have hr : ∀ (j : Nat) x, xs[j]? = some x → rd G (some ⟨bk, o + j, none⟩) = some (.string ⟨x.toArray⟩) := fun j x hj => by
    have := hx j (sv x) (by rw [List.getElem?_map, hj]; rfl)
    rwa [pa_mk] at this
  refine GC_kit ⟨_, lay156.f156, by kernel_rfl, by kernel_rfl⟩ (fun W w hw => ?_) hk
  have hbk : bk < w.heap.size := by
    have := hr 0 xs[0] (by simp [h0])
    have hc := hw.cell' this
    exact World.block_lt_of_cell? _ _ hc
  have h := Any.strings_Join (P := Tryd.prog) (ρ := lay156_ren) lay156 lay156_X bk o c (xs.map fun l => (⟨l.toArray⟩ : ByteArray)) ⟨sep.toArray⟩ w (fun j x hj => by
    rw [List.getElem?_map] at hj
    obtain ⟨l, hl, rfl⟩ := Option.map_eq_some_iff.1 hj
    exact hw.cell' (hr j l hl)) hbk (by rw [List.length_map]; omega) (by rw [List.length_map]; exact hc) (by rw [hm]; exact Nat.le_trans hlen (by decide))
  rw [List.length_map, hm] at h
  exact h
theorem join_two (a : List UInt8) {ws : List (List UInt8)} (h : ws ≠ []) (c : UInt8) : Lib.join (a :: ws) [c] = a ++ c :: Lib.join ws [c] := by
  cases ws with
  | nil => exact absurd rfl h
  | cons w ws =>
    rw [Lib.join_cons, Lib.join_cons]
    simp [Lib.joinTail]
theorem wrap_pred {n : Int} (h : R64 n) : (2 ≤ n → IntKind.i64.wrap (n - 1) = n - 1) ∧ R64 (IntKind.i64.wrap (n - 1)) := by
  unfold R64 at *; rw [IntKind.wrap_i64]; omega
theorem impl_ValidNetwork_ok {G : GH} {N : Net} {A : Option Addr} {c : Nat} (h : T3S G A c N.arcs) (hr : R64 N.n) (hl : N.arcs.length < 2 ^ 40) {K : Value → GH → Prop}
    (hk : ∀ b : Bool, (b = true ↔ NetOk N) → K (.bool b) G) : GC Tryd.prog 49 [netV N A c] G K := by
  refine GC_drop (k2g (by simp) ?_)
  obtain ⟨hw1, hw2⟩ := wrap_pred hr
  unfold R64 at hw2
  unfold netV netC
  simp (maxSteps := 300000) (disch := omega) only [gws, ↓reduceIte, reduceEqDiff, reduceToNat, reduceMul, reduceAdd, Nat.reduceBEq, isLd]
  intro b1 hb1
  have hs := Sub.put hb1 ⟨netC N A c, true⟩
  unfold netC at hs
  simp (maxSteps := 300000) (disch := omega) only [gws, ↓reduceIte, reduceEqDiff, reduceToNat, reduceMul, reduceAdd, Nat.reduceBEq, isLd]
  have hno : ¬ NetOk N → ∃ G'', Sub G'' (put G b1 ⟨[.int .i64 N.n, .int .i64 N.s, .int .i64 N.t, .slice A N.arcs.length c], true⟩) ∧ K (.bool false) G'' := fun hn => ⟨G, hs, hk false (by simp [hn])⟩
  refine gLoop_intro (fun m T G' => ∃ k : Nat, T 1 = .pointer (some ⟨b1, 0, none⟩) ∧ T 6 = .slice A N.arcs.length c ∧ T 7 = .int .i64 N.arcs.length ∧ T 8 = .int .i64 k ∧ m + k = N.arcs.length ∧ k ≤ N.arcs.length ∧
    G' = put G b1 ⟨[.int .i64 N.n, .int .i64 N.s, .int .i64 N.t, .slice A N.arcs.length c], true⟩ ∧ (∀ i, i < k → okArc (IntKind.i64.wrap (N.n - 1)) (N.arcs.getD i z3)) ∧ ∀ i, i + 1 < k → ltArc (N.arcs.getD i z3) (N.arcs.getD (i + 1) z3)) N.arcs.length
    ⟨0, by simp (maxSteps := 300000) (disch := omega) only [gws, ↓reduceIte, reduceEqDiff, reduceToNat, reduceMul, reduceAdd, Nat.reduceBEq, isLd], by simp (maxSteps := 300000) (disch := omega) only [gws, ↓reduceIte, reduceEqDiff, reduceToNat, reduceMul, reduceAdd, Nat.reduceBEq, isLd], by simp (maxSteps := 300000) (disch := omega) only [gws, ↓reduceIte, reduceEqDiff, reduceToNat, reduceMul, reduceAdd, Nat.reduceBEq, isLd], by simp (maxSteps := 300000) (disch := omega) only [gws, ↓reduceIte, reduceEqDiff, reduceToNat, reduceMul, reduceAdd, Nat.reduceBEq, isLd] <;> rfl, by omega, by omega, rfl, fun i hi => by omega, fun i hi => by omega⟩ ?_
  rintro m T G' ⟨k, e1, e6, e7, e8, hm, hkl, rfl, hok, hlt⟩
  have hh := h.sub hs
  have hsn := hh.sn
  have p0 := hh.r0
  have p1 := hh.r1
  have p2 := hh.r2
  simp (maxSteps := 300000) (disch := omega) only [gws, ↓reduceIte, reduceEqDiff, reduceToNat, reduceMul, reduceAdd, Nat.reduceBEq, isLd, e1, e6, e7, e8]
  by_cases hkk : (k : Int) < N.arcs.length
  · simp (maxSteps := 300000) (disch := omega) only [gws, ↓reduceIte, reduceEqDiff, reduceToNat, reduceMul, reduceAdd, Nat.reduceBEq, isLd, e1, e6, e7, e8, hkk, p0, p1, p2]
    intro b4 hb4
    have s4 := Sub.put hb4 ⟨c3 (N.arcs.getD k z3), true⟩
    have q4 := hb4
    simp only [put_none] at q4
    simp (maxSteps := 300000) (disch := omega) only [gws, ↓reduceIte, reduceEqDiff, reduceToNat, reduceMul, reduceAdd, Nat.reduceBEq, isLd, e1, e6, e7, e8]
    refine st_many (vs := c3 (N.arcs.getD k z3)) rfl (put_same _ _ _) rfl (by simp) (c3_one _) ?_
    have hh4 := hh.sub s4
    have o0 := hh4.r0
    have o1 := hh4.r1
    have hb : ∀ (b : Bool), (∃ G'', Sub G'' (put G b1 ⟨[.int .i64 N.n, .int .i64 N.s, .int .i64 N.t, .slice A N.arcs.length c], true⟩) ∧ K (.bool b) G'') →
        ∃ G'', Sub G'' (put (put G b1 ⟨[.int .i64 N.n, .int .i64 N.s, .int .i64 N.t, .slice A N.arcs.length c], true⟩) b4 ⟨c3 (N.arcs.getD k z3), true⟩) ∧ K (.bool b) G'' := fun b ⟨G'', s, hk'⟩ => ⟨G'', s.trans s4, hk'⟩
    have hno' : ¬ okArc (N.n - 1) (N.arcs.getD k z3) → ¬ NetOk N := fun h1 h2 => h1 (h2.2.2.2.2.1.1 k (by omega))
    unfold c3 at o0 o1 hb ⊢
    simp (maxSteps := 300000) (disch := omega) only [gws, ↓reduceIte, reduceEqDiff, reduceToNat, reduceMul, reduceAdd, Nat.reduceBEq, isLd, over, e1, e6, e7, e8]
    refine impl_isElement_ok _ _ ?_
    simp (maxSteps := 300000) (disch := omega) only [gws, ↓reduceIte, reduceEqDiff, reduceToNat, reduceMul, reduceAdd, Nat.reduceBEq, isLd, e1, e6, e7, e8]
    cases g1 : decide (0 ≤ (N.arcs.getD k z3).1 ∧ (N.arcs.getD k z3).1 ≤ IntKind.i64.wrap (N.n - 1))
    · simp (maxSteps := 300000) (disch := omega) only [gws, ↓reduceIte, reduceEqDiff, reduceToNat, reduceMul, reduceAdd, Nat.reduceBEq, isLd]
      have g1 := of_decide_eq_false g1
      exact hb _ (hno fun hn => hno' (fun hq => g1 (by rw [hw1 hn.1.1]; exact hq.1)) hn)
    have g1 := of_decide_eq_true g1
    simp (maxSteps := 300000) (disch := omega) only [gws, ↓reduceIte, reduceEqDiff, reduceToNat, reduceMul, reduceAdd, Nat.reduceBEq, isLd, e1]
    refine impl_isElement_ok _ _ ?_
    simp (maxSteps := 300000) (disch := omega) only [gws, ↓reduceIte, reduceEqDiff, reduceToNat, reduceMul, reduceAdd, Nat.reduceBEq, isLd, e1, e6, e7, e8]
    cases g2 : decide (0 ≤ (N.arcs.getD k z3).2.1 ∧ (N.arcs.getD k z3).2.1 ≤ IntKind.i64.wrap (N.n - 1))
    · simp (maxSteps := 300000) (disch := omega) only [gws, ↓reduceIte, reduceEqDiff, reduceToNat, reduceMul, reduceAdd, Nat.reduceBEq, isLd]
      have g2 := of_decide_eq_false g2
      exact hb _ (hno fun hn => hno' (fun hq => g2 (by rw [hw1 hn.1.1]; exact hq.2.1)) hn)
    have g2 := of_decide_eq_true g2
    simp (maxSteps := 300000) (disch := omega) only [gws, ↓reduceIte, reduceEqDiff, reduceToNat, reduceMul, reduceAdd, Nat.reduceBEq, isLd, e1]
    by_cases g3 : (N.arcs.getD k z3).1 = (N.arcs.getD k z3).2.1
    · simp (maxSteps := 300000) (disch := omega) only [gws, ↓reduceIte, reduceEqDiff, reduceToNat, reduceMul, reduceAdd, Nat.reduceBEq, isLd, eq_true g3]
      exact hb _ (hno fun hn => hno' (fun hq => hq.2.2.1 g3) hn)
    rw [show decide ((N.arcs.getD k z3).1 = (N.arcs.getD k z3).2.1) = false from decide_eq_false g3]
    simp (maxSteps := 300000) (disch := omega) only [gws, ↓reduceIte, reduceEqDiff, reduceToNat, reduceMul, reduceAdd, Nat.reduceBEq, isLd, e1]
    refine impl_within_ok _ _ _ ?_
    simp (maxSteps := 300000) (disch := omega) only [gws, ↓reduceIte, reduceEqDiff, reduceToNat, reduceMul, reduceAdd, Nat.reduceBEq, isLd, e1, e6, e7, e8]
    cases g4 : decide (0 ≤ (N.arcs.getD k z3).2.2 ∧ (N.arcs.getD k z3).2.2 ≤ 1000000)
    · simp (maxSteps := 300000) (disch := omega) only [gws, ↓reduceIte, reduceEqDiff, reduceToNat, reduceMul, reduceAdd, Nat.reduceBEq, isLd]
      have g4 := of_decide_eq_false g4
      exact hb _ (hno fun hn => hno' (fun hq => g4 hq.2.2.2) hn)
    have g4 := of_decide_eq_true g4
    have hok' : ∀ i, i < k + 1 → okArc (IntKind.i64.wrap (N.n - 1)) (N.arcs.getD i z3) := fun i hi => by
      by_cases hik : i = k
      · subst hik; exact ⟨g1, g2, g3, g4⟩
      · exact hok i (by omega)
    simp (maxSteps := 300000) (disch := omega) only [gws, ↓reduceIte, reduceEqDiff, reduceToNat, reduceMul, reduceAdd, Nat.reduceBEq, isLd, e1, e8]
    by_cases hk0 : (0 : Int) < k
    · simp (maxSteps := 300000) (disch := omega) only [gws, ↓reduceIte, reduceEqDiff, reduceToNat, reduceMul, reduceAdd, Nat.reduceBEq, isLd, hk0, e1, e6, e7, e8, o0, o1]
      refine cmp_Compare_ok _ _ ?_
      simp (maxSteps := 300000) (disch := omega) only [gws, ↓reduceIte, reduceEqDiff, reduceToNat, reduceMul, reduceAdd, Nat.reduceBEq, isLd, e1, e6, e7, e8, o0, o1]
      refine cmp_Compare_ok _ _ ?_
      simp (maxSteps := 300000) (disch := omega) only [gws, ↓reduceIte, reduceEqDiff, reduceToNat, reduceMul, reduceAdd, Nat.reduceBEq, isLd, e1, e6, e7, e8, o0, o1, gBs]
      refine ⟨by intro v hv; simp at hv; rcases hv with rfl | rfl <;> rfl, fun b5 hb5 => ?_⟩
      have s5 := Sub.put hb5 ⟨[.int .i64 (cmp3 (N.arcs.getD ((k : Int) - 1).toNat z3).1 (N.arcs.getD k z3).1), .int .i64 (cmp3 (N.arcs.getD ((k : Int) - 1).toNat z3).2.1 (N.arcs.getD k z3).2.1)], true⟩
      have q5 := hb5
      simp only [put_none] at q5
      have hh5 := hh4.sub s5
      have u0 := hh5.r0
      have u1 := hh5.r1
      simp only [List.flatMap_cons, List.flatMap_nil, cells_int, List.append_nil, List.cons_append, List.nil_append]
      simp (maxSteps := 300000) (disch := omega) only [gws, ↓reduceIte, reduceEqDiff, reduceToNat, reduceMul, reduceAdd, Nat.reduceBEq, isLd, e1, e6, e7, e8, u0, u1]
      refine cmp_Or_ok (cmp3 (N.arcs.getD ((k : Int) - 1).toNat z3).1 (N.arcs.getD k z3).1) (cmp3 (N.arcs.getD ((k : Int) - 1).toNat z3).2.1 (N.arcs.getD k z3).2.1) (by simp (maxSteps := 300000) (disch := omega) only [gws, ↓reduceIte, reduceEqDiff, reduceToNat, reduceMul, reduceAdd, Nat.reduceBEq, isLd]) (by simp (maxSteps := 300000) (disch := omega) only [gws, ↓reduceIte, reduceEqDiff, reduceToNat, reduceMul, reduceAdd, Nat.reduceBEq, isLd]) ?_
      simp (maxSteps := 300000) (disch := omega) only [gws, ↓reduceIte, reduceEqDiff, reduceToNat, reduceMul, reduceAdd, Nat.reduceBEq, isLd, e1, e6, e7, e8, u0, u1]
      have hcl := cmp_lt (N.arcs.getD ((k : Int) - 1).toNat z3) (N.arcs.getD k z3)
      generalize (if cmp3 (N.arcs.getD ((k : Int) - 1).toNat z3).1 (N.arcs.getD k z3).1 = 0 then cmp3 (N.arcs.getD ((k : Int) - 1).toNat z3).2.1 (N.arcs.getD k z3).2.1 else cmp3 (N.arcs.getD ((k : Int) - 1).toNat z3).1 (N.arcs.getD k z3).1) = cc at hcl ⊢
      by_cases hc : 0 ≤ cc
      · simp (maxSteps := 300000) (disch := omega) only [gws, ↓reduceIte, reduceEqDiff, reduceToNat, reduceMul, reduceAdd, Nat.reduceBEq, isLd, hc]
        have hnl := hcl.1 hc
        obtain ⟨G'', s, hk'⟩ := hb _ (hno fun hn => hnl (by have := hn.2.2.2.2.1.2 (k - 1) (by omega); rwa [show k - 1 + 1 = k by omega, show k - 1 = ((k : Int) - 1).toNat by omega] at this))
        exact ⟨G'', s.trans s5, hk'⟩
      · simp (maxSteps := 300000) (disch := omega) only [gws, ↓reduceIte, reduceEqDiff, reduceToNat, reduceMul, reduceAdd, Nat.reduceBEq, isLd, hc, e1, e6, e7, e8]
        have hl' : ltArc (N.arcs.getD ((k : Int) - 1).toNat z3) (N.arcs.getD k z3) := Classical.byContradiction fun hn => hc (hcl.2 hn)
        refine ⟨m - 1, by omega, _, s4.trans s5, k + 1, rfl, by omega, by omega, rfl, hok', fun i hi => ?_⟩
        by_cases hik : i + 1 = k
        · rw [hik, show i = ((k : Int) - 1).toNat by omega]; exact hl'
        · exact hlt i (by omega)
    · simp (maxSteps := 300000) (disch := omega) only [gws, ↓reduceIte, reduceEqDiff, reduceToNat, reduceMul, reduceAdd, Nat.reduceBEq, isLd, hk0, e1, e6, e7, e8]
      exact ⟨m - 1, by omega, _, s4, k + 1, rfl, by omega, by omega, rfl, hok', fun i hi => by omega⟩
  · simp (maxSteps := 300000) (disch := omega) only [gws, ↓reduceIte, reduceEqDiff, reduceToNat, reduceMul, reduceAdd, Nat.reduceBEq, isLd, e1, e6, e7, e8, hkk]
    refine impl_within_ok _ _ _ ?_
    simp (maxSteps := 300000) (disch := omega) only [gws, ↓reduceIte, reduceEqDiff, reduceToNat, reduceMul, reduceAdd, Nat.reduceBEq, isLd, e1]
    cases g1 : decide (2 ≤ N.n ∧ N.n ≤ 12)
    · simp (maxSteps := 300000) (disch := omega) only [gws, ↓reduceIte, reduceEqDiff, reduceToNat, reduceMul, reduceAdd, Nat.reduceBEq, isLd]
      have g1 := of_decide_eq_false g1
      exact hno fun hn => g1 hn.1
    have g1 := of_decide_eq_true g1
    rw [hw1 g1.1] at hok
    simp (maxSteps := 300000) (disch := omega) only [gws, ↓reduceIte, reduceEqDiff, reduceToNat, reduceMul, reduceAdd, Nat.reduceBEq, isLd, e1]
    refine impl_isElement_ok _ _ ?_
    rw [hw1 g1.1]
    simp (maxSteps := 300000) (disch := omega) only [gws, ↓reduceIte, reduceEqDiff, reduceToNat, reduceMul, reduceAdd, Nat.reduceBEq, isLd, e1]
    cases g2 : decide (0 ≤ N.s ∧ N.s ≤ N.n - 1)
    · simp (maxSteps := 300000) (disch := omega) only [gws, ↓reduceIte, reduceEqDiff, reduceToNat, reduceMul, reduceAdd, Nat.reduceBEq, isLd]
      have g2 := of_decide_eq_false g2
      exact hno fun hn => g2 hn.2.1
    have g2 := of_decide_eq_true g2
    simp (maxSteps := 300000) (disch := omega) only [gws, ↓reduceIte, reduceEqDiff, reduceToNat, reduceMul, reduceAdd, Nat.reduceBEq, isLd, e1]
    refine impl_isElement_ok _ _ ?_
    rw [hw1 g1.1]
    simp (maxSteps := 300000) (disch := omega) only [gws, ↓reduceIte, reduceEqDiff, reduceToNat, reduceMul, reduceAdd, Nat.reduceBEq, isLd, e1]
    cases g3 : decide (0 ≤ N.t ∧ N.t ≤ N.n - 1)
    · simp (maxSteps := 300000) (disch := omega) only [gws, ↓reduceIte, reduceEqDiff, reduceToNat, reduceMul, reduceAdd, Nat.reduceBEq, isLd]
      have g3 := of_decide_eq_false g3
      exact hno fun hn => g3 hn.2.2.1
    have g3 := of_decide_eq_true g3
    simp (maxSteps := 300000) (disch := omega) only [gws, ↓reduceIte, reduceEqDiff, reduceToNat, reduceMul, reduceAdd, Nat.reduceBEq, isLd, e1]
    cases g4 : decide (¬ N.s = N.t)
    · simp (maxSteps := 300000) (disch := omega) only [gws, ↓reduceIte, reduceEqDiff, reduceToNat, reduceMul, reduceAdd, Nat.reduceBEq, isLd]
      have g4 := of_decide_eq_false g4
      exact hno fun hn => g4 hn.2.2.2.1
    have g4 := of_decide_eq_true g4
    simp (maxSteps := 300000) (disch := omega) only [gws, ↓reduceIte, reduceEqDiff, reduceToNat, reduceMul, reduceAdd, Nat.reduceBEq, isLd, e1]
    refine ⟨G, hs, hk _ ?_⟩
    rw [decide_eq_true_eq]
    constructor
    · intro h24
      exact ⟨g1, g2, g3, g4, ⟨fun i hi => hok i (by omega), fun i hi => hlt i (by omega)⟩, by omega⟩
    · intro hn
      have := hn.2.2.2.2.2
      omega
/-- a pointer to a network. -/
structure NetP (G : GH) (q : Option Addr) (N : Net) (A : Option Addr) (c : Nat) : Prop where
  f0 : rd G q = some (.int .i64 N.n)
  f1 : rd G (pa q 1) = some (.int .i64 N.s)
  f2 : rd G (pa q 2) = some (.int .i64 N.t)
  f3 : rd G (pa q 3) = some (.slice A N.arcs.length c)
  arcs : T3S G A c N.arcs
theorem NetP.sub {G G' : GH} {q : Option Addr} {N : Net} {A : Option Addr} {c : Nat} (h : NetP G q N A c) (s : Sub G G') : NetP G' q N A c := ⟨rd_sub s h.f0, rd_sub s h.f1, rd_sub s h.f2, rd_sub s h.f3, h.arcs.sub s⟩
theorem NetP.box {G : GH} {b : Nat} (hb : G b = none) {N : Net} {A : Option Addr} {c : Nat} (h : T3S G A c N.arcs) : NetP (put G b ⟨netC N A c, true⟩) (some ⟨b, 0, none⟩) N A c :=
  ⟨by rw [rd_put]; rfl, by rw [pa_mk, rd_put]; rfl, by rw [pa_mk, rd_put]; rfl, by rw [pa_mk, rd_put]; rfl, h.sub (Sub.put hb _)⟩
theorem spec_l19Ok_ok {G : GH} {q : Option Addr} {N : Net} {A : Option Addr} {c : Nat} (h : NetP G q N A c) (hr : R64 N.n) (hl : N.arcs.length < 2 ^ 40) {K : Value → GH → Prop}
    (hk : ∀ b : Bool, (b = true ↔ NetOk N) → K (.bool b) G) : GC Tryd.prog 46 [.pointer q] G K := by
  refine GC_drop (k7y (by simp) ?_)
  have hq := rd_some h.f0
  have f0 := h.f0
  have f1 := h.f1
  have f2 := h.f2
  have f3 := h.f3
  unfold R64 at hr
  have hno : ¬ NetOk N → ∃ G'', Sub G'' G ∧ K (.bool false) G'' := fun hn => ⟨G, Sub.refl G, hk false (by simp [hn])⟩
  simp (maxSteps := 300000) (disch := omega) only [gws, ↓reduceIte, reduceEqDiff, reduceToNat, reduceMul, reduceAdd, Nat.reduceBEq, isLd, f0]
  refine spec_l00In_ok _ _ _ ?_
  simp (maxSteps := 300000) (disch := omega) only [gws, ↓reduceIte, reduceEqDiff, reduceToNat, reduceMul, reduceAdd, Nat.reduceBEq, isLd, f0]
  cases g1 : decide (2 ≤ N.n ∧ N.n ≤ 12)
  · simp (maxSteps := 300000) (disch := omega) only [gws, ↓reduceIte, reduceEqDiff, reduceToNat, reduceMul, reduceAdd, Nat.reduceBEq, isLd, f0, f1, f2]
    have g1 := of_decide_eq_false g1
    exact hno fun hn => g1 hn.1
  have g1 := of_decide_eq_true g1
  simp (maxSteps := 300000) (disch := omega) only [gws, ↓reduceIte, reduceEqDiff, reduceToNat, reduceMul, reduceAdd, Nat.reduceBEq, isLd, f0, f1]
  refine spec_l00In_ok _ _ _ ?_
  simp (maxSteps := 300000) (disch := omega) only [gws, ↓reduceIte, reduceEqDiff, reduceToNat, reduceMul, reduceAdd, Nat.reduceBEq, isLd, f0, f1]
  cases g2 : decide (0 ≤ N.s ∧ N.s ≤ N.n - 1)
  · simp (maxSteps := 300000) (disch := omega) only [gws, ↓reduceIte, reduceEqDiff, reduceToNat, reduceMul, reduceAdd, Nat.reduceBEq, isLd, f0, f1, f2]
    have g2 := of_decide_eq_false g2
    exact hno fun hn => g2 hn.2.1
  have g2 := of_decide_eq_true g2
  simp (maxSteps := 300000) (disch := omega) only [gws, ↓reduceIte, reduceEqDiff, reduceToNat, reduceMul, reduceAdd, Nat.reduceBEq, isLd, f0, f1, f2]
  refine spec_l00In_ok _ _ _ ?_
  simp (maxSteps := 300000) (disch := omega) only [gws, ↓reduceIte, reduceEqDiff, reduceToNat, reduceMul, reduceAdd, Nat.reduceBEq, isLd, f0, f1, f2]
  cases g3 : decide (0 ≤ N.t ∧ N.t ≤ N.n - 1)
  · simp (maxSteps := 300000) (disch := omega) only [gws, ↓reduceIte, reduceEqDiff, reduceToNat, reduceMul, reduceAdd, Nat.reduceBEq, isLd, f0, f1, f2]
    have g3 := of_decide_eq_false g3
    exact hno fun hn => g3 hn.2.2.1
  have g3 := of_decide_eq_true g3
  simp (maxSteps := 300000) (disch := omega) only [gws, ↓reduceIte, reduceEqDiff, reduceToNat, reduceMul, reduceAdd, Nat.reduceBEq, isLd, f0, f1, f2]
  by_cases g4 : N.s = N.t
  · simp (maxSteps := 300000) (disch := omega) only [gws, ↓reduceIte, reduceEqDiff, reduceToNat, reduceMul, reduceAdd, Nat.reduceBEq, isLd, eq_true g4, f0, f1, f2]
    exact hno fun hn => hn.2.2.2.1 g4
  rw [show decide (N.s = N.t) = false from decide_eq_false g4]
  simp (maxSteps := 300000) (disch := omega) only [gws, ↓reduceIte, reduceEqDiff, reduceToNat, reduceMul, reduceAdd, Nat.reduceBEq, isLd, f0, f1, f2]
  refine gLoop_intro (fun m T G' => ∃ k : Nat, T 0 = .pointer q ∧ T 3 = .int .i64 k ∧ m + k = N.arcs.length ∧ k ≤ N.arcs.length ∧ G' = G ∧ (∀ i, i < k → okArc (N.n - 1) (N.arcs.getD i z3)) ∧
    ∀ i, i + 1 < k → ltArc (N.arcs.getD i z3) (N.arcs.getD (i + 1) z3)) N.arcs.length ⟨0, by simp (maxSteps := 300000) (disch := omega) only [gws, ↓reduceIte, reduceEqDiff, reduceToNat, reduceMul, reduceAdd, Nat.reduceBEq, isLd], by simp (maxSteps := 300000) (disch := omega) only [gws, ↓reduceIte, reduceEqDiff, reduceToNat, reduceMul, reduceAdd, Nat.reduceBEq, isLd] <;> rfl, by omega, by omega, rfl, fun i hi => by omega, fun i hi => by omega⟩ ?_
  rintro m T G' ⟨k, e0, e3, hm, hkl, rfl, hok, hlt⟩
  have hsn := h.arcs.sn
  have p0 := h.arcs.r0
  have p1 := h.arcs.r1
  have p2 := h.arcs.r2
  simp (maxSteps := 300000) (disch := omega) only [gws, ↓reduceIte, reduceEqDiff, reduceToNat, reduceMul, reduceAdd, Nat.reduceBEq, isLd, e0, e3, f3]
  by_cases hkk : (k : Int) < N.arcs.length
  · simp (maxSteps := 300000) (disch := omega) only [gws, ↓reduceIte, reduceEqDiff, reduceToNat, reduceMul, reduceAdd, Nat.reduceBEq, isLd, e0, e3, f3, hkk, p0, p1, p2]
    intro b4 hb4
    have s4 := Sub.put hb4 ⟨c3 (N.arcs.getD k z3), true⟩
    simp (maxSteps := 300000) (disch := omega) only [gws, ↓reduceIte, reduceEqDiff, reduceToNat, reduceMul, reduceAdd, Nat.reduceBEq, isLd, e0, e3]
    refine st_many (vs := c3 (N.arcs.getD k z3)) rfl (put_same _ _ _) rfl (by simp) (c3_one _) ?_
    have h4 := h.sub s4
    have o0 := h4.arcs.r0
    have o1 := h4.arcs.r1
    have u0 := h4.f0
    have u3 := h4.f3
    have hb : ∀ (b : Bool), (∃ G'', Sub G'' G' ∧ K (.bool b) G'') → ∃ G'', Sub G'' (put G' b4 ⟨c3 (N.arcs.getD k z3), true⟩) ∧ K (.bool b) G'' := fun b ⟨G'', s, hk'⟩ => ⟨G'', s.trans s4, hk'⟩
    have hno' : ¬ okArc (N.n - 1) (N.arcs.getD k z3) → ¬ NetOk N := fun h1 h2 => h1 (h2.2.2.2.2.1.1 k (by omega))
    clear p0 p1 p2 h4 f0 f1 f2 f3
    unfold c3 at o0 o1 u0 u3 hb ⊢
    simp (maxSteps := 300000) (disch := omega) only [gws, ↓reduceIte, reduceEqDiff, reduceToNat, reduceMul, reduceAdd, Nat.reduceBEq, isLd, over, e0, e3, u0, u3, o0, o1]
    refine spec_l00In_ok _ _ _ ?_
    simp (maxSteps := 300000) (disch := omega) only [gws, ↓reduceIte, reduceEqDiff, reduceToNat, reduceMul, reduceAdd, Nat.reduceBEq, isLd, e0, e3, u0, u3, o0, o1]
    cases q1 : decide (0 ≤ (N.arcs.getD k z3).1 ∧ (N.arcs.getD k z3).1 ≤ N.n - 1)
    · simp (maxSteps := 300000) (disch := omega) only [gws, ↓reduceIte, reduceEqDiff, reduceToNat, reduceMul, reduceAdd, Nat.reduceBEq, isLd, e0, e3, u0, u3, o0, o1]
      have q1 := of_decide_eq_false q1
      exact hb _ (hno (hno' (fun hq => q1 hq.1)))
    have q1 := of_decide_eq_true q1
    simp (maxSteps := 300000) (disch := omega) only [gws, ↓reduceIte, reduceEqDiff, reduceToNat, reduceMul, reduceAdd, Nat.reduceBEq, isLd, e0, e3, u0, u3, o0, o1]
    refine spec_l00In_ok _ _ _ ?_
    simp (maxSteps := 300000) (disch := omega) only [gws, ↓reduceIte, reduceEqDiff, reduceToNat, reduceMul, reduceAdd, Nat.reduceBEq, isLd, e0, e3, u0, u3, o0, o1]
    cases q2 : decide (0 ≤ (N.arcs.getD k z3).2.1 ∧ (N.arcs.getD k z3).2.1 ≤ N.n - 1)
    · simp (maxSteps := 300000) (disch := omega) only [gws, ↓reduceIte, reduceEqDiff, reduceToNat, reduceMul, reduceAdd, Nat.reduceBEq, isLd, e0, e3, u0, u3, o0, o1]
      have q2 := of_decide_eq_false q2
      exact hb _ (hno (hno' (fun hq => q2 hq.2.1)))
    have q2 := of_decide_eq_true q2
    simp (maxSteps := 300000) (disch := omega) only [gws, ↓reduceIte, reduceEqDiff, reduceToNat, reduceMul, reduceAdd, Nat.reduceBEq, isLd, e0, e3, u0, u3, o0, o1]
    by_cases q3 : (N.arcs.getD k z3).1 = (N.arcs.getD k z3).2.1
    · simp (maxSteps := 300000) (disch := omega) only [gws, ↓reduceIte, reduceEqDiff, reduceToNat, reduceMul, reduceAdd, Nat.reduceBEq, isLd, eq_true q3, e0, e3, u0, u3, o0, o1]
      exact hb _ (hno (hno' (fun hq => hq.2.2.1 q3)))
    rw [show decide ((N.arcs.getD k z3).1 = (N.arcs.getD k z3).2.1) = false from decide_eq_false q3]
    simp (maxSteps := 300000) (disch := omega) only [gws, ↓reduceIte, reduceEqDiff, reduceToNat, reduceMul, reduceAdd, Nat.reduceBEq, isLd, e0, e3, u0, u3, o0, o1]
    refine spec_l00In_ok _ _ _ ?_
    simp (maxSteps := 300000) (disch := omega) only [gws, ↓reduceIte, reduceEqDiff, reduceToNat, reduceMul, reduceAdd, Nat.reduceBEq, isLd, e0, e3, u0, u3, o0, o1]
    cases q4 : decide (0 ≤ (N.arcs.getD k z3).2.2 ∧ (N.arcs.getD k z3).2.2 ≤ 1000000)
    · simp (maxSteps := 300000) (disch := omega) only [gws, ↓reduceIte, reduceEqDiff, reduceToNat, reduceMul, reduceAdd, Nat.reduceBEq, isLd, e0, e3, u0, u3, o0, o1]
      have q4 := of_decide_eq_false q4
      exact hb _ (hno (hno' (fun hq => q4 hq.2.2.2)))
    have q4 := of_decide_eq_true q4
    have hok' : ∀ i, i < k + 1 → okArc (N.n - 1) (N.arcs.getD i z3) := fun i hi => by
      by_cases hik : i = k
      · subst hik; exact ⟨q1, q2, q3, q4⟩
      · exact hok i (by omega)
    simp (maxSteps := 300000) (disch := omega) only [gws, ↓reduceIte, reduceEqDiff, reduceToNat, reduceMul, reduceAdd, Nat.reduceBEq, isLd, e0, e3, u0, u3, o0, o1]
    by_cases hk0 : (0 : Int) < k
    · simp (maxSteps := 300000) (disch := omega) only [gws, ↓reduceIte, reduceEqDiff, reduceToNat, reduceMul, reduceAdd, Nat.reduceBEq, isLd, hk0, e0, e3, u3, o0, o1, u0]
      have hord : ¬ ltArc (N.arcs.getD ((k : Int) - 1).toNat z3) (N.arcs.getD k z3) → ¬ NetOk N := fun hnl hn =>
        hnl (by have := hn.2.2.2.2.1.2 (k - 1) (by omega); rwa [show k - 1 + 1 = k by omega, show k - 1 = ((k : Int) - 1).toNat by omega] at this)
      have hgo : ltArc (N.arcs.getD ((k : Int) - 1).toNat z3) (N.arcs.getD k z3) → ∀ i, i + 1 < k + 1 → ltArc (N.arcs.getD i z3) (N.arcs.getD (i + 1) z3) := fun hl' i hi => by
        by_cases hik : i + 1 = k
        · rw [hik, show i = ((k : Int) - 1).toNat by omega]; exact hl'
        · exact hlt i (by omega)
      by_cases v1 : (N.arcs.getD k z3).1 < (N.arcs.getD ((k : Int) - 1).toNat z3).1
      · simp (maxSteps := 300000) (disch := omega) only [gws, ↓reduceIte, reduceEqDiff, reduceToNat, reduceMul, reduceAdd, Nat.reduceBEq, isLd, v1, e0, e3, u0, u3, o0, o1]
        exact hb _ (hno (hord (by unfold ltArc; omega)))
      simp (maxSteps := 300000) (disch := omega) only [gws, ↓reduceIte, reduceEqDiff, reduceToNat, reduceMul, reduceAdd, Nat.reduceBEq, isLd, v1, e0, e3, u3, o0, o1, u0]
      by_cases v2 : (N.arcs.getD ((k : Int) - 1).toNat z3).1 = (N.arcs.getD k z3).1
      · rw [show decide ((N.arcs.getD ((k : Int) - 1).toNat z3).1 = (N.arcs.getD k z3).1) = true from decide_eq_true v2]
        simp (maxSteps := 300000) (disch := omega) only [gws, ↓reduceIte, reduceEqDiff, reduceToNat, reduceMul, reduceAdd, Nat.reduceBEq, isLd, e0, e3, u3, o0, o1, u0]
        by_cases v3 : (N.arcs.getD k z3).2.1 ≤ (N.arcs.getD ((k : Int) - 1).toNat z3).2.1
        · simp (maxSteps := 300000) (disch := omega) only [gws, ↓reduceIte, reduceEqDiff, reduceToNat, reduceMul, reduceAdd, Nat.reduceBEq, isLd, v3, e0, e3, u0, u3, o0, o1]
          exact hb _ (hno (hord (by unfold ltArc; omega)))
        · simp (maxSteps := 300000) (disch := omega) only [gws, ↓reduceIte, reduceEqDiff, reduceToNat, reduceMul, reduceAdd, Nat.reduceBEq, isLd, v3, e0, e3, u0, u3, o0, o1]
          exact ⟨m - 1, by omega, _, s4, k + 1, rfl, by omega, by omega, rfl, hok', hgo (by unfold ltArc; omega)⟩
      · rw [show decide ((N.arcs.getD ((k : Int) - 1).toNat z3).1 = (N.arcs.getD k z3).1) = false from decide_eq_false v2]
        simp (maxSteps := 300000) (disch := omega) only [gws, ↓reduceIte, reduceEqDiff, reduceToNat, reduceMul, reduceAdd, Nat.reduceBEq, isLd, e0, e3, u0, u3, o0, o1]
        exact ⟨m - 1, by omega, _, s4, k + 1, rfl, by omega, by omega, rfl, hok', hgo (by unfold ltArc; omega)⟩
    · simp (maxSteps := 300000) (disch := omega) only [gws, ↓reduceIte, reduceEqDiff, reduceToNat, reduceMul, reduceAdd, Nat.reduceBEq, isLd, hk0, e0, e3, u0, u3, o0, o1]
      exact ⟨m - 1, by omega, _, s4, k + 1, rfl, by omega, by omega, rfl, hok', fun i hi => by omega⟩
  · simp (maxSteps := 300000) (disch := omega) only [gws, ↓reduceIte, reduceEqDiff, reduceToNat, reduceMul, reduceAdd, Nat.reduceBEq, isLd, e0, e3, hkk, f3]
    refine ⟨G', Sub.refl _, hk _ ?_⟩
    rw [decide_eq_true_eq]
    constructor
    · intro h24
      exact ⟨g1, g2, g3, g4, ⟨fun i hi => hok i (by omega), fun i hi => hlt i (by omega)⟩, by omega⟩
    · intro hn
      have := hn.2.2.2.2.2
      omega
theorem New.cast {G G' : GH} {A : Option Addr} {c sz n : Nat} {cs cs' : List Value} (h : New G G' A c cs sz n) (e : cs = cs') {n' : Nat} (en : n = n') : New G G' A c cs' sz n' := e ▸ en ▸ h
theorem tm10 (m : Int) : m.tmod 10 = if m < 0 then -((m.natAbs % 10 : Nat) : Int) else ((m.natAbs % 10 : Nat) : Int) := by
  cases m with
  | ofNat k => rw [if_neg (by simp)]; rfl
  | negSucc k => rw [if_pos (Int.negSucc_lt_zero k)]; rfl
theorem td10 (m : Int) : m.tdiv 10 = if m < 0 then -((m.natAbs / 10 : Nat) : Int) else ((m.natAbs / 10 : Nat) : Int) := by
  cases m with
  | ofNat k => rw [if_neg (by simp)]; rfl
  | negSucc k => rw [if_pos (Int.negSucc_lt_zero k)]; rfl
theorem impl_Decimal_ok {G : GH} (hL : LibG G) {n : Int} (h0 : -9223372036854775808 ≤ n) (h1 : n ≤ 9223372036854775807) {K : Value → GH → Prop} (hk : K (.string ⟨(Lib.itoa n).toArray⟩) G) : GC Tryd.prog 42 [.int .i64 n] G K := by
  refine k13 (by simp) ?_
  simp (maxSteps := 300000) (disch := omega) only [gws, ↓reduceIte, reduceEqDiff, reduceToNat, reduceMul, reduceAdd, Nat.reduceBEq, isLd]
  refine FormatInt_ok hL h0 h1 ?_
  simp (maxSteps := 300000) (disch := omega) only [gws, ↓reduceIte, reduceEqDiff, reduceToNat, reduceMul, reduceAdd, Nat.reduceBEq, isLd]
  exact hk
theorem dec_l1 {G0 G : GH} {Q : Cont} {T : Nat → Value} {R : List UInt8} {A B : Option Addr} {c d : Nat} (hc : Cells G0 A (R.map B8)) (hRl : R.length ≤ 20) (t3 : T 3 = .slice A R.length c) (t7 : T 7 = .int .i64 ((R.length : Int) - 1)) (t6 : T 6 = .slice B 0 d)
    (hN : New G0 G B d (([] : List UInt8).map B8) 1 0) (hQ : ∀ T' G' B' d', T' 6 = .slice B' R.length d' → New G0 G' B' d' (R.reverse.map B8) 1 R.length → Q (.ex 2) T' G') : gLoop (gW Tryd.prog k6z) Q T G := by
  refine gLoop_intro (fun m T G' => ∃ (k : Nat) (B' : Option Addr) (d' : Nat), T 3 = .slice A R.length c ∧ T 7 = .int .i64 ((R.length : Int) - 1 - k) ∧ T 6 = .slice B' k d' ∧ m + k = R.length ∧ k ≤ R.length ∧ New G0 G' B' d' ((R.reverse.take k).map B8) 1 k)
    R.length ⟨0, B, d, t3, by rw [t7]; simp, t6, by omega, by omega, by simpa using hN⟩ ?_
  clear hN t3 t6 t7
  rintro m T G' ⟨k, B', d', t3, t7, t6, hm, hk, hN⟩
  by_cases hi : 0 ≤ (R.length : Int) - 1 - k
  · have hidx : R.length - 1 - k < R.length := by omega
    have hrv : R.reverse[k]? = some (R.getD (R.length - 1 - k) 0) := by
      rw [List.getElem?_reverse (by omega)]; simp [List.getD, hidx]
    have hr0 : rd G' (pa A ((R.length : Int) - 1 - k).toNat) = some (.int .u8 ((R.getD (R.length - 1 - k) 0).toNat : Int)) := by
      rw [show ((R.length : Int) - 1 - k).toNat = R.length - 1 - k by omega]
      refine rd_sub hN.sub (hc (R.length - 1 - k) _ ?_)
      simp [List.getD, hidx, B8]
    have hsn := rd_some hr0
    rw [sn_pa] at hsn
    have wk : IntKind.i64.wrap ((R.length : Int) - 1 - k - 1) = (R.length : Int) - 1 - (k + 1 : Nat) := by rw [w64 _ (by omega) (by omega)]; omega
    simp (maxSteps := 300000) (disch := omega) only [gws, ↓reduceIte, reduceEqDiff, reduceToNat, reduceMul, reduceAdd, Nat.reduceBEq, isLd, t3, t7, t6, hi, hr0, gBs]
    refine ⟨by intro v hv; simp at hv; subst hv; rfl, fun b hb => ?_⟩
    refine ap_new hN (Sub.put hb _) (cells_one [B8 (R.getD (R.length - 1 - k) 0)] true) (by rfl) (by intro v hv; simp at hv; subst hv; rfl) rfl (by omega) (by omega) (by omega) fun G4 B2 d2 hN' => ?_
    simp (maxSteps := 300000) (disch := omega) only [gws, ↓reduceIte, reduceEqDiff, reduceToNat, reduceMul, reduceAdd, Nat.reduceBEq, isLd, t3, t7, t6, wk]
    exact ⟨m - 1, by omega, _, Sub.refl _, k + 1, B2, d2, rfl, rfl, by omega, by omega, New.cast hN' (by rw [List.take_add_one, hrv]; simp) rfl⟩
  · have hkl : k = R.length := by omega
    simp (maxSteps := 300000) (disch := omega) only [gws, ↓reduceIte, reduceEqDiff, reduceToNat, reduceMul, reduceAdd, Nat.reduceBEq, isLd, t3, t7, t6, hi]
    subst hkl
    refine hQ _ _ B' d' (by simp (maxSteps := 300000) (disch := omega) only [gws, ↓reduceIte, reduceEqDiff, reduceToNat, reduceMul, reduceAdd, Nat.reduceBEq, isLd, t6]) (New.cast hN (by rw [List.take_of_length_le (by simp)]) rfl)
theorem spec_l01Dec_ok {G : GH} {n : Int} (h0 : -9223372036854775808 ≤ n) (h1 : n ≤ 9223372036854775807) {K : Value → GH → Prop} (hk : K (.string ⟨(Lib.itoa n).toArray⟩) G) : GC Tryd.prog 81 [.int .i64 n] G K := by
  refine GC_drop (k73 (by simp) ?_)
  by_cases hn : n = 0
  · simp (maxSteps := 300000) (disch := omega) only [gws, ↓reduceIte, reduceEqDiff, reduceToNat, reduceMul, reduceAdd, Nat.reduceBEq, isLd, hn]
    rw [hn, itoa_zero] at hk
    exact ⟨G, Sub.refl _, hk⟩
  simp (maxSteps := 300000) (disch := omega) only [gws, ↓reduceIte, reduceEqDiff, reduceToNat, reduceMul, reduceAdd, Nat.reduceBEq, isLd, hn, gBs]
  refine ⟨by intro v hv; simp at hv, fun b3 hb3 => ?_⟩
  simp only [List.flatMap_nil]
  have hN0 : New G (put G b3 ⟨[], true⟩) (some ⟨b3, 0, none⟩) 0 (([] : List UInt8).map B8) 1 ([] : List UInt8).length := .inr ⟨b3, [], rfl, hb3, rfl, rfl, rfl, Nat.le_refl _⟩
  refine gLoop_intro (fun m T G' => ∃ (x : Int) (D : List UInt8) (A : Option Addr) (c : Nat), T 0 = .int .i64 n ∧ T 3 = .slice A D.length c ∧ T 4 = .int .i64 x ∧ m = x.natAbs ∧ -9223372036854775808 ≤ x ∧ x ≤ 9223372036854775807 ∧ New G G' A c (D.map B8) 1 D.length ∧ D ++ dgs x.natAbs = dgs n.natAbs)
    n.natAbs ⟨n, [], _, _, by simp (maxSteps := 300000) (disch := omega) only [gws, ↓reduceIte, reduceEqDiff, reduceToNat, reduceMul, reduceAdd, Nat.reduceBEq, isLd], by simp (maxSteps := 300000) (disch := omega) only [gws, ↓reduceIte, reduceEqDiff, reduceToNat, reduceMul, reduceAdd, Nat.reduceBEq, isLd] <;> rfl, by simp (maxSteps := 300000) (disch := omega) only [gws, ↓reduceIte, reduceEqDiff, reduceToNat, reduceMul, reduceAdd, Nat.reduceBEq, isLd], rfl, h0, h1, hN0, rfl⟩ ?_
  clear hN0 hb3
  rintro m T G' ⟨x, D, A, c, e0, e3, e4, hm, hx0, hx1, hN, hD⟩
  have hDl : D.length ≤ 19 := by
    have := congrArg List.length hD
    rw [List.length_append] at this
    have := dgs_len 19 n.natAbs (by have : n.natAbs < 10 ^ 19 := by omega
                                    exact this)
    omega
  by_cases hx : x = 0
  · subst hx
    rw [show (0 : Int).natAbs = 0 from rfl, dgs_zero, List.append_nil] at hD
    have hit := itoa_dgs hn
    rw [← hD] at hit
    by_cases hs : n < 0
    · simp (maxSteps := 300000) (disch := omega) only [gws, ↓reduceIte, reduceEqDiff, reduceToNat, reduceMul, reduceAdd, Nat.reduceBEq, isLd, e0, e3, e4, hs, gBs]
      refine ⟨by intro v hv; simp at hv; subst hv; rfl, fun b hb => ?_⟩
      refine ap_new hN (Sub.put hb _) (cells_one [B8 45] true) (by rfl) (by intro v hv; simp at hv; subst hv; rfl) rfl (by omega) (by omega) (by omega) fun G4 A' c' hN' => ?_
      simp (maxSteps := 300000) (disch := omega) only [gws, ↓reduceIte, reduceEqDiff, reduceToNat, reduceMul, reduceAdd, Nat.reduceBEq, isLd, e0, e3, e4, hs, gBs]
      have hl : (D ++ [(45 : UInt8)]).length = D.length + 1 := by simp
      have hN2 : New G G4 A' c' ((D ++ [(45 : UInt8)]).map B8) 1 (D ++ [(45 : UInt8)]).length := New.cast hN' (by simp) (by simp)
      refine ⟨by intro v hv; simp at hv, fun b2 hb2 => ?_⟩
      simp only [List.flatMap_nil]
      refine dec_l1 (G0 := G4) (R := D ++ [45]) (A := A') (c := c') (d := 0) (B := some ⟨b2, 0, none⟩) hN2.cells (by omega) (by simp (maxSteps := 300000) (disch := omega) only [gws, ↓reduceIte, reduceEqDiff, reduceToNat, reduceMul, reduceAdd, Nat.reduceBEq, isLd, hl]) (by simp (maxSteps := 300000) (disch := omega) only [gws, ↓reduceIte, reduceEqDiff, reduceToNat, reduceMul, reduceAdd, Nat.reduceBEq, isLd, hl]) (by simp (maxSteps := 300000) (disch := omega) only [gws, ↓reduceIte, reduceEqDiff, reduceToNat, reduceMul, reduceAdd, Nat.reduceBEq, isLd]) (.inr ⟨b2, [], rfl, hb2, rfl, rfl, rfl, Nat.le_refl _⟩) fun T' G5 B' d' t6 hN5 => ?_
      simp (maxSteps := 300000) (disch := omega) only [gws, ↓reduceIte, reduceEqDiff, reduceToNat, reduceMul, reduceAdd, Nat.reduceBEq, isLd, t6]
      have hit : Lib.itoa n = (D ++ [45]).reverse := by rw [hit, if_pos hs]
      rw [hit] at hk
      exact ⟨B', (D ++ [45]).length, d', (D ++ [45]).reverse, rfl, by simp, b8_get hN5.cells, by simp (maxSteps := 300000) (disch := omega) only [gws, ↓reduceIte, reduceEqDiff, reduceToNat, reduceMul, reduceAdd, Nat.reduceBEq, isLd]; exact ⟨G, hN'.sub.trans hN5.sub, hk⟩⟩
    · simp (maxSteps := 300000) (disch := omega) only [gws, ↓reduceIte, reduceEqDiff, reduceToNat, reduceMul, reduceAdd, Nat.reduceBEq, isLd, e0, e3, e4, hs, gBs]
      refine ⟨by intro v hv; simp at hv, fun b hb => ?_⟩
      simp only [List.flatMap_nil]
      refine dec_l1 (G0 := G') (R := D) (A := A) (c := c) (d := 0) (B := some ⟨b, 0, none⟩) hN.cells (by omega) (by simp (maxSteps := 300000) (disch := omega) only [gws, ↓reduceIte, reduceEqDiff, reduceToNat, reduceMul, reduceAdd, Nat.reduceBEq, isLd, e3]) (by simp (maxSteps := 300000) (disch := omega) only [gws, ↓reduceIte, reduceEqDiff, reduceToNat, reduceMul, reduceAdd, Nat.reduceBEq, isLd]) (by simp (maxSteps := 300000) (disch := omega) only [gws, ↓reduceIte, reduceEqDiff, reduceToNat, reduceMul, reduceAdd, Nat.reduceBEq, isLd]) (.inr ⟨b, [], rfl, hb, rfl, rfl, rfl, Nat.le_refl _⟩) fun T' G4 B' d' t6 hN' => ?_
      simp (maxSteps := 300000) (disch := omega) only [gws, ↓reduceIte, reduceEqDiff, reduceToNat, reduceMul, reduceAdd, Nat.reduceBEq, isLd, t6]
      have hit : Lib.itoa n = D.reverse := by rw [hit, if_neg hs, List.append_nil]
      rw [hit] at hk
      exact ⟨B', D.length, d', D.reverse, rfl, by simp, b8_get hN'.cells, by simp (maxSteps := 300000) (disch := omega) only [gws, ↓reduceIte, reduceEqDiff, reduceToNat, reduceMul, reduceAdd, Nat.reduceBEq, isLd]; exact ⟨G, hN.sub.trans hN'.sub, hk⟩⟩
  · have hr : x.natAbs % 10 < 10 := Nat.mod_lt _ (by decide)
    have w48 : IntKind.i64.wrap (48 + ((x.natAbs % 10 : Nat) : Int)) = 48 + ((x.natAbs % 10 : Nat) : Int) := w64 _ (by omega) (by omega)
    have hq : x.tdiv 10 = if x < 0 then -((x.natAbs / 10 : Nat) : Int) else ((x.natAbs / 10 : Nat) : Int) := td10 x
    have wq : IntKind.i64.wrap (x.tdiv 10) = x.tdiv 10 := w64 _ (by rw [hq]; split <;> omega) (by rw [hq]; split <;> omega)
    have hqa : (x.tdiv 10).natAbs = x.natAbs / 10 := by rw [hq]; split <;> omega
    have fin : ∀ (G2 : GH) (A' : Option Addr) (c' : Nat), New G G2 A' c' ((D.map B8) ++ [B8 (UInt8.ofNat (48 + x.natAbs % 10))]) 1 (D.length + 1) →
        New G G2 A' c' ((D ++ [UInt8.ofNat (48 + x.natAbs % 10)]).map B8) 1 (D ++ [UInt8.ofNat (48 + x.natAbs % 10)]).length := fun G2 A' c' h => New.cast h (by simp) (by simp)
    have hD' : (D ++ [UInt8.ofNat (48 + x.natAbs % 10)]) ++ dgs (x.tdiv 10).natAbs = dgs n.natAbs := by
      rw [← hD, dgs_pos (m := x.natAbs) (by omega), hqa]; simp
    by_cases hs : x.tmod 10 < 0
    · have ht : x.tmod 10 = -((x.natAbs % 10 : Nat) : Int) := by have := tm10 x; split at this <;> omega
      have wn : IntKind.i64.wrap (0 - x.tmod 10) = ((x.natAbs % 10 : Nat) : Int) := by rw [ht, w64 _ (by omega) (by omega)]; omega
      simp (maxSteps := 300000) (disch := omega) only [gws, ↓reduceIte, reduceEqDiff, reduceToNat, reduceMul, reduceAdd, Nat.reduceBEq, isLd, e0, e3, e4, hx, hs, bin_rem (h := (by decide : (10 : Int) ≠ 0)), wn, w48, digit_byte _ hr, gBs]
      refine ⟨by intro v hv; simp at hv; subst hv; rfl, fun b hb => ?_⟩
      refine ap_new hN (Sub.put hb _) (cells_one [B8 (UInt8.ofNat (48 + x.natAbs % 10))] true) (by rfl) (by intro v hv; simp at hv; subst hv; rfl) rfl (by omega) (by omega) (by omega) fun G4 A' c' hN' => ?_
      simp (maxSteps := 300000) (disch := omega) only [gws, ↓reduceIte, reduceEqDiff, reduceToNat, reduceMul, reduceAdd, Nat.reduceBEq, isLd, e0, e3, e4, hx, hs, bin_quo (h := (by decide : (10 : Int) ≠ 0)), wq]
      exact ⟨x.natAbs / 10, by omega, _, Sub.refl _, x.tdiv 10, D ++ [UInt8.ofNat (48 + x.natAbs % 10)], A', c', by simp, rfl, by rw [hqa], by rw [hq]; split <;> omega, by rw [hq]; split <;> omega, fin _ _ _ hN', hD'⟩
    · have ht : x.tmod 10 = ((x.natAbs % 10 : Nat) : Int) := by have := tm10 x; split at this <;> omega
      simp (maxSteps := 300000) (disch := omega) only [gws, ↓reduceIte, reduceEqDiff, reduceToNat, reduceMul, reduceAdd, Nat.reduceBEq, isLd, e0, e3, e4, hx, bin_rem (h := (by decide : (10 : Int) ≠ 0)), ht, show ((((x.natAbs % 10 : Nat) : Int)) < 0) = False from eq_false (by omega), w48, digit_byte _ hr, gBs]
      refine ⟨by intro v hv; simp at hv; subst hv; rfl, fun b hb => ?_⟩
      refine ap_new hN (Sub.put hb _) (cells_one [B8 (UInt8.ofNat (48 + x.natAbs % 10))] true) (by rfl) (by intro v hv; simp at hv; subst hv; rfl) rfl (by omega) (by omega) (by omega) fun G4 A' c' hN' => ?_
      simp (maxSteps := 300000) (disch := omega) only [gws, ↓reduceIte, reduceEqDiff, reduceToNat, reduceMul, reduceAdd, Nat.reduceBEq, isLd, e0, e3, e4, hx, bin_quo (h := (by decide : (10 : Int) ≠ 0)), wq]
      exact ⟨x.natAbs / 10, by omega, _, Sub.refl _, x.tdiv 10, D ++ [UInt8.ofNat (48 + x.natAbs % 10)], A', c', by simp, rfl, by rw [hqa], by rw [hq]; split <;> omega, by rw [hq]; split <;> omega, fin _ _ _ hN', hD'⟩
theorem cat_ex (a b : List UInt8) (h : a.length + b.length ≤ 9223372036854775807) : ∃ X : List UInt8, X = a ++ b ∧ X.length = a.length + b.length ∧ binV .add (.string ⟨a.toArray⟩) (.string ⟨b.toArray⟩) = some (.string ⟨X.toArray⟩) :=
  ⟨a ++ b, rfl, List.length_append, cat_ok h⟩
theorem join_snoc {c : UInt8} : ∀ {ws : List (List UInt8)} (w : List UInt8), ws ≠ [] → Lib.join (ws ++ [w]) [c] = Lib.join ws [c] ++ [c] ++ w
  | [], w, h => absurd rfl h
  | [v], w, _ => by rw [List.singleton_append, join_two v (by simp), Lib.join_one, Lib.join_one]; simp
  | v :: u :: ws, w, _ => by
    rw [List.cons_append, join_two v (by simp), join_snoc (ws := u :: ws) w (by simp), join_two v (ws := u :: ws) (by simp)]
    simp
theorem join_len (c : UInt8) (M : Nat) : ∀ (ws : List (List UInt8)), (∀ w ∈ ws, w.length ≤ M) → (Lib.join ws [c]).length ≤ (M + 1) * ws.length
  | [], _ => by simp [Lib.join_nil]
  | [w], h => by
    have := h w (by simp)
    rw [Lib.join_one, List.length_singleton]; omega
  | w :: v :: ws, h => by
    have h1 := h w (by simp)
    have h2 := join_len c M (v :: ws) (fun x hx => h x (by simp [hx]))
    rw [join_two w (by simp), List.length_append, List.length_cons, List.length_cons (a := w), Nat.mul_succ]
    omega
/-- the text of a list. -/
def ltxt (xs : List Int) : List UInt8 := if xs = [] then [45] else Lib.join (xs.map Lib.itoa) [44]
def ltk (xs : List Int) (k : Nat) : List UInt8 := Lib.join ((xs.take k).map Lib.itoa) [44]
theorem ltk_zero (xs : List Int) : ltk xs 0 = [] := rfl
theorem ltk_one {xs : List Int} (h : 0 < xs.length) : ltk xs 1 = Lib.itoa (xs.getD 0 0) := by
  cases xs with
  | nil => simp at h
  | cons x xs => simp [ltk, Lib.join_one]
theorem ltk_succ {xs : List Int} {k : Nat} (h0 : 0 < k) (h : k < xs.length) : ltk xs (k + 1) = ltk xs k ++ [44] ++ Lib.itoa (xs.getD k 0) := by
  unfold ltk
  rw [List.take_add_one, List.map_append, show ((xs[k]?).toList.map Lib.itoa) = [Lib.itoa (xs.getD k 0)] by simp [List.getD, h], join_snoc _ (by
    intro e
    rw [List.map_eq_nil_iff, List.take_eq_nil_iff] at e
    rcases e with e | e
    · omega
    · rw [e] at h; simp at h)]
theorem ltk_all {xs : List Int} (h : xs ≠ []) : ltk xs xs.length = ltxt xs := by unfold ltk ltxt; rw [if_neg h, List.take_length]
theorem ltk_len {xs : List Int} (hr : ∀ x ∈ xs, R64 x) (k : Nat) : (ltk xs k).length ≤ 21 * k := by
  have h := join_len 44 20 ((xs.take k).map Lib.itoa) (fun w hw => by
    obtain ⟨x, hx, rfl⟩ := List.mem_map.1 hw
    have := hr x (List.mem_of_mem_take hx)
    exact itoa_len this.1 this.2)
  rw [List.length_map, List.length_take] at h
  unfold ltk
  have : min k xs.length ≤ k := Nat.min_le_left _ _
  omega
theorem ltxt_len {xs : List Int} (hr : ∀ x ∈ xs, R64 x) : (ltxt xs).length ≤ 21 * xs.length + 1 := by
  by_cases h : xs = []
  · subst h; simp [ltxt]
  · rw [← ltk_all h]; have := ltk_len hr xs.length; omega
theorem mem_R64 {xs : List Int} (hr : ∀ x ∈ xs, R64 x) {k : Nat} (h : k < xs.length) : R64 (xs.getD k 0) := hr _ (by simp [List.getD, h])
theorem spec_l01List_ok {G : GH} {A : Option Addr} {c : Nat} {xs : List Int} (h : IntS G A c xs) (hr : ∀ x ∈ xs, R64 x) (hl : xs.length < 2 ^ 30) {K : Value → GH → Prop} (hk : K (.string ⟨(ltxt xs).toArray⟩) G) : GC Tryd.prog 88 [.slice A xs.length c] G K := by
  refine k7i (by simp) ?_
  have hsn := h.sn
  have r := h.rd
  by_cases h0 : (xs.length : Int) = 0
  · simp (maxSteps := 300000) (disch := omega) only [gws, ↓reduceIte, reduceEqDiff, reduceToNat, reduceMul, reduceAdd, Nat.reduceBEq, isLd, eq_true h0]
    have : xs = [] := List.length_eq_zero_iff.1 (by omega)
    rw [this] at hk
    exact hk
  have hne : xs ≠ [] := fun e => h0 (by rw [e]; rfl)
  simp (maxSteps := 300000) (disch := omega) only [gws, ↓reduceIte, reduceEqDiff, reduceToNat, reduceMul, reduceAdd, Nat.reduceBEq, isLd, h0]
  refine gLoop_intro (fun m T G' => ∃ k : Nat, T 0 = .slice A xs.length c ∧ T 3 = .string ⟨(ltk xs k).toArray⟩ ∧ T 4 = .int .i64 k ∧ m + k = xs.length ∧ k ≤ xs.length ∧ G' = G)
    xs.length ⟨0, by simp (maxSteps := 300000) (disch := omega) only [gws, ↓reduceIte, reduceEqDiff, reduceToNat, reduceMul, reduceAdd, Nat.reduceBEq, isLd], by simp (maxSteps := 300000) (disch := omega) only [gws, ↓reduceIte, reduceEqDiff, reduceToNat, reduceMul, reduceAdd, Nat.reduceBEq, isLd] <;> rfl, by simp (maxSteps := 300000) (disch := omega) only [gws, ↓reduceIte, reduceEqDiff, reduceToNat, reduceMul, reduceAdd, Nat.reduceBEq, isLd] <;> rfl, by omega, by omega, rfl⟩ ?_
  rintro m T G' ⟨k, e0, e3, e4, hm, hkl, rfl⟩
  by_cases hkk : (k : Int) < xs.length
  · have hR := mem_R64 hr (k := k) (by omega)
    have li := itoa_len hR.1 hR.2
    have lk := ltk_len hr k
    by_cases hk0 : (0 : Int) < k
    · obtain ⟨X1, a1, n1, c1⟩ := cat_ex (ltk xs k) [44] (by simp; omega)
      rw [List.length_singleton] at n1
      obtain ⟨X2, a2, n2, c2⟩ := cat_ex X1 (Lib.itoa (xs.getD k 0)) (by omega)
      simp (maxSteps := 300000) (disch := omega) only [gws, ↓reduceIte, reduceEqDiff, reduceToNat, reduceMul, reduceAdd, Nat.reduceBEq, isLd, e0, e3, e4, hkk, hk0, c1, r]
      refine spec_l01Dec_ok hR.1 hR.2 ?_
      simp (maxSteps := 300000) (disch := omega) only [gws, ↓reduceIte, reduceEqDiff, reduceToNat, reduceMul, reduceAdd, Nat.reduceBEq, isLd, e0, e3, e4, c2]
      exact ⟨m - 1, by omega, G', Sub.refl _, k + 1, by rw [a2, a1, ltk_succ (by omega) (by omega)], rfl, by omega, by omega, rfl⟩
    · have : k = 0 := by omega
      subst this
      rw [ltk_zero] at e3
      obtain ⟨X2, a2, n2, c2⟩ := cat_ex [] (Lib.itoa (xs.getD 0 0)) (by rw [List.length_nil]; omega)
      have r0 : rd G' A = some (.int .i64 (xs.getD 0 0)) := by have := h.2 0 (by omega); rwa [pa_zero] at this
      simp (maxSteps := 300000) (disch := omega) only [gws, ↓reduceIte, reduceEqDiff, reduceToNat, reduceMul, reduceAdd, Nat.reduceBEq, isLd, e0, e3, e4, hkk, hk0, r0]
      refine spec_l01Dec_ok hR.1 hR.2 ?_
      simp (maxSteps := 300000) (disch := omega) only [gws, ↓reduceIte, reduceEqDiff, reduceToNat, reduceMul, reduceAdd, Nat.reduceBEq, isLd, e0, e3, e4, c2]
      exact ⟨m - 1, by omega, G', Sub.refl _, 1, by rw [a2, List.nil_append, ltk_one (by omega)], rfl, by omega, by omega, rfl⟩
  · simp (maxSteps := 300000) (disch := omega) only [gws, ↓reduceIte, reduceEqDiff, reduceToNat, reduceMul, reduceAdd, Nat.reduceBEq, isLd, e0, e3, e4, hkk]
    have : k = xs.length := by omega
    subst this
    rw [ltk_all hne]
    exact hk
/-- a list that has a text. -/
def FitL (xs : List Int) : Prop := xs.length ≤ 64 ∧ ∀ x ∈ xs, -1000000000000 ≤ x ∧ x ≤ 1000000000000
theorem impl_ListText_ok {G : GH} (hL : LibG G) {A : Option Addr} {c : Nat} {xs : List Int} (h : IntS G A c xs) (hl : xs.length < 2 ^ 40) {K : Value → GH → Prop} (hy : FitL xs → K (.string ⟨(ltxt xs).toArray⟩) G) (hn : ¬ FitL xs → K (.string ⟨[].toArray⟩) G) :
    GC Tryd.prog 50 [.slice A xs.length c] G K := by
  refine GC_drop (k1j (by simp) ?_)
  have hsn := h.sn
  have r := h.rd
  have hm : (xs.any fun n => !decide (-1000000000000 ≤ n ∧ n ≤ 1000000000000)) = true ↔ ¬ ∀ x ∈ xs, -1000000000000 ≤ x ∧ x ≤ 1000000000000 := by
    rw [List.any_eq_true]
    constructor
    · rintro ⟨x, hx, h1⟩ h2
      simp [h2 x hx] at h1
    · intro h1
      apply Classical.byContradiction
      intro h2
      exact h1 fun x hx => Classical.byContradiction fun h3 => h2 ⟨x, hx, by rw [decide_eq_false h3]; rfl⟩
  by_cases h64 : (64 : Int) < xs.length
  · simp (maxSteps := 300000) (disch := omega) only [gws, ↓reduceIte, reduceEqDiff, reduceToNat, reduceMul, reduceAdd, Nat.reduceBEq, isLd, h64]
    exact ⟨G, Sub.refl _, hn fun x => by have := x.1; omega⟩
  simp (maxSteps := 300000) (disch := omega) only [gws, ↓reduceIte, reduceEqDiff, reduceToNat, reduceMul, reduceAdd, Nat.reduceBEq, isLd, h64]
  refine slices_ContainsFunc_ok (fun n => !decide (-1000000000000 ≤ n ∧ n ≤ 1000000000000)) h hl (fun i hi K' hK' => ?_) ?_
  · simp (maxSteps := 300000) (disch := omega) only [gws, ↓reduceIte, reduceEqDiff, reduceToNat, reduceMul, reduceAdd, Nat.reduceBEq, isLd]
    refine k1o (by simp) ?_
    simp (maxSteps := 300000) (disch := omega) only [gws, ↓reduceIte, reduceEqDiff, reduceToNat, reduceMul, reduceAdd, Nat.reduceBEq, isLd]
    refine k2q (by simp) ?_
    simp (maxSteps := 300000) (disch := omega) only [gws, ↓reduceIte, reduceEqDiff, reduceToNat, reduceMul, reduceAdd, Nat.reduceBEq, isLd]
    refine impl_within_ok _ _ _ ?_
    simp (maxSteps := 300000) (disch := omega) only [gws, ↓reduceIte, reduceEqDiff, reduceToNat, reduceMul, reduceAdd, Nat.reduceBEq, isLd]
    exact hK'
  cases hb : xs.any fun n => !decide (-1000000000000 ≤ n ∧ n ≤ 1000000000000)
  rotate_left
  · simp (maxSteps := 300000) (disch := omega) only [gws, ↓reduceIte, reduceEqDiff, reduceToNat, reduceMul, reduceAdd, Nat.reduceBEq, isLd]
    exact ⟨G, Sub.refl _, hn fun x => (hm.1 hb) x.2⟩
  have hF : FitL xs := ⟨by omega, Classical.byContradiction fun x => by have := hm.2 x; rw [hb] at this; cases this⟩
  have hk := hy hF
  have hr : ∀ x ∈ xs, R64 x := fun x hx => by have := hF.2 x hx; constructor <;> omega
  by_cases h0 : (xs.length : Int) = 0
  · simp (maxSteps := 300000) (disch := omega) only [gws, ↓reduceIte, reduceEqDiff, reduceToNat, reduceMul, reduceAdd, Nat.reduceBEq, isLd, eq_true h0]
    have : xs = [] := List.length_eq_zero_iff.1 (by omega)
    rw [this] at hk
    exact ⟨G, Sub.refl _, hk⟩
  have hne : xs ≠ [] := fun e => h0 (by rw [e]; rfl)
  simp (maxSteps := 300000) (disch := omega) only [gws, ↓reduceIte, reduceEqDiff, reduceToNat, reduceMul, reduceAdd, Nat.reduceBEq, isLd, h0]
  refine gLoop_intro (fun m T G' => ∃ (k : Nat) (W : Option Addr) (d : Nat), T 3 = .slice W k d ∧ T 16 = .slice A xs.length c ∧ T 17 = .int .i64 xs.length ∧ T 18 = .int .i64 k ∧ m + k = xs.length ∧ k ≤ xs.length ∧ New G G' W d (((xs.take k).map Lib.itoa).map sv) 1 k)
    xs.length ⟨0, none, 0, by simp (maxSteps := 300000) (disch := omega) only [gws, ↓reduceIte, reduceEqDiff, reduceToNat, reduceMul, reduceAdd, Nat.reduceBEq, isLd] <;> rfl, by simp (maxSteps := 300000) (disch := omega) only [gws, ↓reduceIte, reduceEqDiff, reduceToNat, reduceMul, reduceAdd, Nat.reduceBEq, isLd], by simp (maxSteps := 300000) (disch := omega) only [gws, ↓reduceIte, reduceEqDiff, reduceToNat, reduceMul, reduceAdd, Nat.reduceBEq, isLd], by simp (maxSteps := 300000) (disch := omega) only [gws, ↓reduceIte, reduceEqDiff, reduceToNat, reduceMul, reduceAdd, Nat.reduceBEq, isLd] <;> rfl, by omega, by omega, New.nil _ _⟩ ?_
  rintro m T G' ⟨k, W, d, e3, e16, e17, e18, hm', hkl, hN⟩
  by_cases hkk : (k : Int) < xs.length
  · have hR := mem_R64 hr (k := k) (by omega)
    have r' : rd G' (pa A k) = some (.int .i64 (xs.getD k 0)) := rd_sub hN.sub (h.2 k (by omega))
    simp (maxSteps := 300000) (disch := omega) only [gws, ↓reduceIte, reduceEqDiff, reduceToNat, reduceMul, reduceAdd, Nat.reduceBEq, isLd, e3, e16, e17, e18, hkk, r']
    refine impl_Decimal_ok (hL.sub hN.sub) hR.1 hR.2 ?_
    simp (maxSteps := 300000) (disch := omega) only [gws, ↓reduceIte, reduceEqDiff, reduceToNat, reduceMul, reduceAdd, Nat.reduceBEq, isLd, e3, e16, e17, e18, gBs]
    refine ⟨by intro v hv; simp at hv; subst hv; rfl, fun b hb => ?_⟩
    refine ap_new hN (Sub.put hb _) (cells_one [sv (Lib.itoa (xs.getD k 0))] true) (by rfl) (by intro v hv; simp at hv; subst hv; rfl) rfl (by omega) (by omega) (by omega) fun G4 A' c' hN' => ?_
    simp (maxSteps := 300000) (disch := omega) only [gws, ↓reduceIte, reduceEqDiff, reduceToNat, reduceMul, reduceAdd, Nat.reduceBEq, isLd, e3, e16, e17, e18]
    refine ⟨m - 1, by omega, _, Sub.refl _, k + 1, A', c', rfl, rfl, by omega, by omega, New.cast hN' ?_ rfl⟩
    rw [List.take_add_one, List.map_append, List.map_append]
    congr 1
    simp [List.getD, show k < xs.length by omega]
  · simp (maxSteps := 300000) (disch := omega) only [gws, ↓reduceIte, reduceEqDiff, reduceToNat, reduceMul, reduceAdd, Nat.reduceBEq, isLd, e3, e16, e17, e18, hkk]
    have hke : k = xs.length := by omega
    subst hke
    rw [List.take_length] at hN
    obtain ⟨b, rr, rfl, _⟩ : ∃ b r, W = some ⟨b, 0, none⟩ ∧ True := by
      rcases hN with ⟨_, _, h0', _⟩ | ⟨b, r, h1, _⟩
      · omega
      · exact ⟨b, r, h1, trivial⟩
    have hml : (xs.map Lib.itoa).length = xs.length := List.length_map ..
    have hj := ltk_len hr xs.length
    rw [ltk_all hne] at hj
    have hlt : ltxt xs = Lib.join (xs.map Lib.itoa) [44] := if_neg hne
    rw [hlt] at hj hk
    rw [show Value.slice (some ⟨b, 0, none⟩) xs.length d = .slice (some ⟨b, 0, none⟩) (xs.map Lib.itoa).length d by rw [hml]]
    refine Join_ok (xs := xs.map Lib.itoa) hN.cells (by omega) (by have := hN.cap; omega) (by omega) (by omega) ?_
    simp (maxSteps := 300000) (disch := omega) only [gws, ↓reduceIte, reduceEqDiff, reduceToNat, reduceMul, reduceAdd, Nat.reduceBEq, isLd]
    exact ⟨G, hN.sub, hk⟩
def arcL (e : T3) : List Int := [e.1, e.2.1, e.2.2]
def arcT (e : T3) : List UInt8 := ltxt (arcL e)
def netH (N : Net) : List Int := [N.n, N.s, N.t]
def netTk (N : Net) (k : Nat) : List UInt8 := Lib.join (ltxt (netH N) :: (N.arcs.take k).map arcT) [32]
def netT (N : Net) : List UInt8 := netTk N N.arcs.length
theorem netTk_zero (N : Net) : netTk N 0 = ltxt (netH N) := by unfold netTk; rw [List.take_zero, List.map_nil, Lib.join_one]
theorem netTk_succ (N : Net) {k : Nat} (h : k < N.arcs.length) : netTk N (k + 1) = netTk N k ++ ([32] ++ arcT (N.arcs.getD k z3)) := by
  unfold netTk
  rw [List.take_add_one, List.map_append, show ((N.arcs[k]?).toList.map arcT) = [arcT (N.arcs.getD k z3)] by simp [List.getD, h], ← List.cons_append, join_snoc _ (by simp), List.append_assoc]
theorem netH_R {N : Net} (hn : NetOk N) : ∀ x ∈ netH N, R64 x := fun x hx => by
  obtain ⟨h1, h2, h3, _⟩ := hn
  simp only [netH, List.mem_cons, List.not_mem_nil, or_false] at hx
  rcases hx with rfl | rfl | rfl <;> constructor <;> omega
theorem arcL_R {N : Net} (hn : NetOk N) {k : Nat} (h : k < N.arcs.length) : ∀ x ∈ arcL (N.arcs.getD k z3), R64 x := fun x hx => by
  obtain ⟨h1, h2, h3, h4, h5, h6⟩ := hn
  obtain ⟨a1, a2, a3, a4⟩ := h5.1 k h
  simp only [arcL, List.mem_cons, List.not_mem_nil, or_false] at hx
  rcases hx with rfl | rfl | rfl <;> constructor <;> omega
theorem netH_F {N : Net} (hn : NetOk N) : FitL (netH N) := ⟨by simp [netH], fun x hx => by
  obtain ⟨h1, h2, h3, _⟩ := hn
  simp only [netH, List.mem_cons, List.not_mem_nil, or_false] at hx
  rcases hx with rfl | rfl | rfl <;> constructor <;> omega⟩
theorem arcL_F {N : Net} (hn : NetOk N) {k : Nat} (h : k < N.arcs.length) : FitL (arcL (N.arcs.getD k z3)) := ⟨by simp [arcL], fun x hx => by
  obtain ⟨h1, h2, h3, h4, h5, h6⟩ := hn
  obtain ⟨a1, a2, a3, a4⟩ := h5.1 k h
  simp only [arcL, List.mem_cons, List.not_mem_nil, or_false] at hx
  rcases hx with rfl | rfl | rfl <;> constructor <;> omega⟩
theorem arcT_len {N : Net} (hn : NetOk N) {k : Nat} (h : k < N.arcs.length) : (arcT (N.arcs.getD k z3)).length ≤ 64 := ltxt_len (arcL_R hn h)
theorem netTk_len {N : Net} (hn : NetOk N) : ∀ (k : Nat), k ≤ N.arcs.length → (netTk N k).length ≤ 64 + 65 * k
  | 0, _ => by rw [netTk_zero]; exact ltxt_len (netH_R hn)
  | k + 1, h => by
    rw [netTk_succ N (by omega), List.length_append, List.length_append]
    have := netTk_len hn k (by omega)
    have := arcT_len hn (k := k) (by omega)
    have : ([32] : List UInt8).length = 1 := rfl
    omega
/-- the text of a network that is valid, else none. -/
noncomputable def networkT (N : Net) : List UInt8 := open Classical in if NetOk N then netT N else []
theorem networkT_ok {N : Net} (h : NetOk N) : networkT N = netT N := by unfold networkT; rw [if_pos h]
theorem networkT_no {N : Net} (h : ¬ NetOk N) : networkT N = [] := by unfold networkT; rw [if_neg h]
theorem ints_three {G : GH} {b : Nat} {x y z : Int} (hb : G b = none) : IntS (put G b ⟨[.int .i64 x, .int .i64 y, .int .i64 z], true⟩) (some ⟨b, 0, none⟩) 3 [x, y, z] := blk_ints (xs := [x, y, z]) (put_same _ _ _)
theorem spec_l19Text_ok {G : GH} {q : Option Addr} {N : Net} {A : Option Addr} {c : Nat} (h : NetP G q N A c) (hn : NetOk N) {K : Value → GH → Prop} (hk : K (.string ⟨(netT N).toArray⟩) G) : GC Tryd.prog 47 [.pointer q] G K := by
  refine GC_drop (k89 (by simp) ?_)
  have hq := rd_some h.f0
  have f0 := h.f0
  have f1 := h.f1
  have f2 := h.f2
  simp (maxSteps := 300000) (disch := omega) only [gws, ↓reduceIte, reduceEqDiff, reduceToNat, reduceMul, reduceAdd, Nat.reduceBEq, isLd, f0, f1, f2, gBs]
  refine ⟨by intro v hv; simp at hv; rcases hv with rfl | rfl | rfl <;> rfl, fun b hb => ?_⟩
  rw [show List.flatMap (fun v : Value => v.cells.toList) [Value.int .i64 N.n, .int .i64 N.s, .int .i64 N.t] = [.int .i64 N.n, .int .i64 N.s, .int .i64 N.t] from rfl]
  have hI := ints_three (x := N.n) (y := N.s) (z := N.t) hb
  have s1 := Sub.put hb ⟨[.int .i64 N.n, .int .i64 N.s, .int .i64 N.t], true⟩
  revert hI s1
  generalize put G b ⟨[.int .i64 N.n, .int .i64 N.s, .int .i64 N.t], true⟩ = G1
  intro hI s1
  have h := h.sub s1
  have f0 := h.f0
  have f1 := h.f1
  have f2 := h.f2
  have f3 := h.f3
  have hh := h.arcs
  have hsn := hh.sn
  have p0 := hh.r0
  have p1 := hh.r1
  have p2 := hh.r2
  have hn6 := hn.2.2.2.2.2
  refine spec_l01List_ok (xs := netH N) hI (netH_R hn) (by simp [netH]) ?_
  simp (maxSteps := 300000) (disch := omega) only [gws, ↓reduceIte, reduceEqDiff, reduceToNat, reduceMul, reduceAdd, Nat.reduceBEq, isLd, f0, f1, f2]
  refine gLoop_intro (fun m T G' => ∃ k : Nat, T 0 = .pointer q ∧ T 3 = .string ⟨(netTk N k).toArray⟩ ∧ T 4 = .int .i64 k ∧ m + k = N.arcs.length ∧ k ≤ N.arcs.length ∧ G' = G1)
    N.arcs.length ⟨0, by simp (maxSteps := 300000) (disch := omega) only [gws, ↓reduceIte, reduceEqDiff, reduceToNat, reduceMul, reduceAdd, Nat.reduceBEq, isLd], by simp (maxSteps := 300000) (disch := omega) only [gws, ↓reduceIte, reduceEqDiff, reduceToNat, reduceMul, reduceAdd, Nat.reduceBEq, isLd] <;> rw [netTk_zero], by simp (maxSteps := 300000) (disch := omega) only [gws, ↓reduceIte, reduceEqDiff, reduceToNat, reduceMul, reduceAdd, Nat.reduceBEq, isLd] <;> rfl, by omega, by omega, rfl⟩ ?_
  rintro m T G' ⟨k, e0, e3, e4, hm, hkl, rfl⟩
  simp (maxSteps := 300000) (disch := omega) only [gws, ↓reduceIte, reduceEqDiff, reduceToNat, reduceMul, reduceAdd, Nat.reduceBEq, isLd, e0, e3, e4, f3]
  by_cases hkk : (k : Int) < N.arcs.length
  · have lk := netTk_len hn k hkl
    have le := arcT_len hn (k := k) (by omega)
    have w1 : ([32] : List UInt8).length = 1 := rfl
    obtain ⟨X1, a1, n1, c1⟩ := cat_ex [32] (arcT (N.arcs.getD k z3)) (by omega)
    obtain ⟨X2, a2, n2, c2⟩ := cat_ex (netTk N k) X1 (by omega)
    simp (maxSteps := 300000) (disch := omega) only [gws, ↓reduceIte, reduceEqDiff, reduceToNat, reduceMul, reduceAdd, Nat.reduceBEq, isLd, e0, e3, e4, f3, hkk, p0, p1, p2, gBs]
    refine ⟨by intro v hv; simp at hv; rcases hv with rfl | rfl | rfl <;> rfl, fun b7 hb7 => ?_⟩
    rw [show List.flatMap (fun v : Value => v.cells.toList) [Value.int .i64 (N.arcs.getD k z3).1, .int .i64 (N.arcs.getD k z3).2.1, .int .i64 (N.arcs.getD k z3).2.2] = [.int .i64 (N.arcs.getD k z3).1, .int .i64 (N.arcs.getD k z3).2.1, .int .i64 (N.arcs.getD k z3).2.2] from rfl]
    have hI7 := ints_three (x := (N.arcs.getD k z3).1) (y := (N.arcs.getD k z3).2.1) (z := (N.arcs.getD k z3).2.2) hb7
    have s7 := Sub.put hb7 ⟨[.int .i64 (N.arcs.getD k z3).1, .int .i64 (N.arcs.getD k z3).2.1, .int .i64 (N.arcs.getD k z3).2.2], true⟩
    revert hI7 s7
    generalize put G' b7 ⟨[.int .i64 (N.arcs.getD k z3).1, .int .i64 (N.arcs.getD k z3).2.1, .int .i64 (N.arcs.getD k z3).2.2], true⟩ = H
    intro hI7 s7
    have f3 := rd_sub s7 f3
    have p0 := (hh.sub s7).r0
    have p1 := (hh.sub s7).r1
    have p2 := (hh.sub s7).r2
    simp (maxSteps := 300000) (disch := omega) only [gws, ↓reduceIte, reduceEqDiff, reduceToNat, reduceMul, reduceAdd, Nat.reduceBEq, isLd, f3, p0, p1, p2]
    refine spec_l01List_ok (xs := arcL (N.arcs.getD k z3)) hI7 (arcL_R hn (by omega)) (by simp [arcL]) ?_
    unfold arcT at c1
    simp (maxSteps := 300000) (disch := omega) only [gws, ↓reduceIte, reduceEqDiff, reduceToNat, reduceMul, reduceAdd, Nat.reduceBEq, isLd, e0, e3, e4, f3, p0, p1, p2, c1, c2]
    exact ⟨m - 1, by omega, G', s7, k + 1, by rw [a2, a1, netTk_succ N (by omega)], rfl, by omega, by omega, rfl⟩
  · simp (maxSteps := 300000) (disch := omega) only [gws, ↓reduceIte, reduceEqDiff, reduceToNat, reduceMul, reduceAdd, Nat.reduceBEq, isLd, e0, e3, e4, hkk]
    have : k = N.arcs.length := by omega
    subst this
    exact ⟨G, s1, hk⟩
theorem spec_NetworkText_ok {G : GH} {N : Net} {A : Option Addr} {c : Nat} (h : T3S G A c N.arcs) (hr : R64 N.n) (hl : N.arcs.length < 2 ^ 40) {K : Value → GH → Prop} (hk : K (.string ⟨(networkT N).toArray⟩) G) : GC Tryd.prog 15 [netV N A c] G K := by
  refine GC_drop (k6a (by simp) ?_)
  unfold netV
  simp (maxSteps := 300000) (disch := omega) only [gws, ↓reduceIte, reduceEqDiff, reduceToNat, reduceMul, reduceAdd, Nat.reduceBEq, isLd]
  intro b1 hb1
  simp (maxSteps := 300000) (disch := omega) only [gws, ↓reduceIte, reduceEqDiff, reduceToNat, reduceMul, reduceAdd, Nat.reduceBEq, isLd]
  have hP := NetP.box hb1 h
  have s1 := Sub.put hb1 ⟨netC N A c, true⟩
  revert hP s1
  generalize put G b1 ⟨netC N A c, true⟩ = G1
  intro hP s1
  refine spec_l19Ok_ok hP hr hl fun bb hbb => ?_
  cases bb
  · simp (maxSteps := 300000) (disch := omega) only [gws, ↓reduceIte, reduceEqDiff, reduceToNat, reduceMul, reduceAdd, Nat.reduceBEq, isLd]
    rw [networkT_no fun x => by have := hbb.2 x; cases this] at hk
    exact ⟨G, s1, hk⟩
  · have hn := hbb.1 rfl
    simp (maxSteps := 300000) (disch := omega) only [gws, ↓reduceIte, reduceEqDiff, reduceToNat, reduceMul, reduceAdd, Nat.reduceBEq, isLd]
    refine spec_l19Text_ok hP hn ?_
    simp (maxSteps := 300000) (disch := omega) only [gws, ↓reduceIte, reduceEqDiff, reduceToNat, reduceMul, reduceAdd, Nat.reduceBEq, isLd]
    rw [networkT_ok hn] at hk
    exact ⟨G, s1, hk⟩
theorem impl_NetworkText_ok {G : GH} (hL : LibG G) {N : Net} {A : Option Addr} {c : Nat} (h : T3S G A c N.arcs) (hr : R64 N.n) (hl : N.arcs.length < 2 ^ 40) {K : Value → GH → Prop} (hk : K (.string ⟨(networkT N).toArray⟩) G) : GC Tryd.prog 17 [netV N A c] G K := by
  refine GC_drop (k22 (by simp) ?_)
  unfold netV netC
  simp (maxSteps := 300000) (disch := omega) only [gws, ↓reduceIte, reduceEqDiff, reduceToNat, reduceMul, reduceAdd, Nat.reduceBEq, isLd]
  intro b1 hb1
  have s1 := Sub.put hb1 ⟨[.int .i64 N.n, .int .i64 N.s, .int .i64 N.t, .slice A N.arcs.length c], true⟩
  have f0 : rd (put G b1 ⟨[.int .i64 N.n, .int .i64 N.s, .int .i64 N.t, .slice A N.arcs.length c], true⟩) (some ⟨b1, 0, none⟩) = some (.int .i64 N.n) := rd_box _ _ _ 0 _ rfl
  have f1 : rd (put G b1 ⟨[.int .i64 N.n, .int .i64 N.s, .int .i64 N.t, .slice A N.arcs.length c], true⟩) (some ⟨b1, 1, none⟩) = some (.int .i64 N.s) := rd_box _ _ _ 1 _ rfl
  have f2 : rd (put G b1 ⟨[.int .i64 N.n, .int .i64 N.s, .int .i64 N.t, .slice A N.arcs.length c], true⟩) (some ⟨b1, 2, none⟩) = some (.int .i64 N.t) := rd_box _ _ _ 2 _ rfl
  have f3 : rd (put G b1 ⟨[.int .i64 N.n, .int .i64 N.s, .int .i64 N.t, .slice A N.arcs.length c], true⟩) (some ⟨b1, 3, none⟩) = some (.slice A N.arcs.length c) := rd_box _ _ _ 3 _ rfl
  revert s1 f0 f1 f2 f3
  generalize put G b1 ⟨[.int .i64 N.n, .int .i64 N.s, .int .i64 N.t, .slice A N.arcs.length c], true⟩ = G1
  intro s1 f0 f1 f2 f3
  simp (maxSteps := 300000) (disch := omega) only [gws, ↓reduceIte, reduceEqDiff, reduceToNat, reduceMul, reduceAdd, Nat.reduceBEq, isLd, f0, f1, f2, f3]
  refine impl_ValidNetwork_ok (N := N) (h.sub s1) hr hl fun bb hbb => ?_
  cases bb
  · simp (maxSteps := 300000) (disch := omega) only [gws, ↓reduceIte, reduceEqDiff, reduceToNat, reduceMul, reduceAdd, Nat.reduceBEq, isLd]
    rw [networkT_no fun x => by have := hbb.2 x; cases this] at hk
    exact ⟨G, s1, hk⟩
  have hn := hbb.1 rfl
  have hn6 := hn.2.2.2.2.2
  rw [networkT_ok hn] at hk
  simp (maxSteps := 300000) (disch := omega) only [gws, ↓reduceIte, reduceEqDiff, reduceToNat, reduceMul, reduceAdd, Nat.reduceBEq, isLd, f0, f1, f2, f3, gBs]
  refine ⟨by intro v hv; simp at hv; rcases hv with rfl | rfl | rfl <;> rfl, fun b2 hb2 => ?_⟩
  rw [show List.flatMap (fun v : Value => v.cells.toList) [Value.int .i64 N.n, .int .i64 N.s, .int .i64 N.t] = [.int .i64 N.n, .int .i64 N.s, .int .i64 N.t] from rfl]
  have hI := ints_three (x := N.n) (y := N.s) (z := N.t) hb2
  have s2 := Sub.put hb2 ⟨[.int .i64 N.n, .int .i64 N.s, .int .i64 N.t], true⟩
  revert hI s2
  generalize put G1 b2 ⟨[.int .i64 N.n, .int .i64 N.s, .int .i64 N.t], true⟩ = G2
  intro hI s2
  refine impl_ListText_ok ((hL.sub s1).sub s2) (xs := netH N) hI (by simp [netH]) (fun _ => ?_) (fun x => absurd (netH_F hn) x)
  simp (maxSteps := 300000) (disch := omega) only [gws, ↓reduceIte, reduceEqDiff, reduceToNat, reduceMul, reduceAdd, Nat.reduceBEq, isLd, gBs]
  refine ⟨by intro v hv; simp at hv; subst hv; rfl, fun b3 hb3 => ?_⟩
  have f3 := rd_sub (s2.trans (Sub.put hb3 ⟨List.flatMap (fun v : Value => v.cells.toList) [.string ⟨(ltxt (netH N)).toArray⟩], true⟩)) f3
  have hN0 : New G2 (put G2 b3 ⟨List.flatMap (fun v : Value => v.cells.toList) [.string ⟨(ltxt (netH N)).toArray⟩], true⟩) (some ⟨b3, 0, none⟩) 1 ((ltxt (netH N) :: (N.arcs.take 0).map arcT).map sv) 1 (0 + 1) := .inr ⟨b3, [], rfl, hb3, rfl, rfl, rfl, Nat.le_refl _⟩
  simp (maxSteps := 300000) (disch := omega) only [gws, ↓reduceIte, reduceEqDiff, reduceToNat, reduceMul, reduceAdd, Nat.reduceBEq, isLd, f3]
  refine gLoop_intro (fun m T G' => ∃ (k : Nat) (W : Option Addr) (d : Nat), T 3 = .slice W (k + 1) d ∧ T 19 = .slice A N.arcs.length c ∧ T 20 = .int .i64 N.arcs.length ∧ T 21 = .int .i64 k ∧ m + k = N.arcs.length ∧ k ≤ N.arcs.length ∧ New G2 G' W d ((ltxt (netH N) :: (N.arcs.take k).map arcT).map sv) 1 (k + 1))
    N.arcs.length ⟨0, _, _, by simp (maxSteps := 300000) (disch := omega) only [gws, ↓reduceIte, reduceEqDiff, reduceToNat, reduceMul, reduceAdd, Nat.reduceBEq, isLd] <;> rfl, by simp (maxSteps := 300000) (disch := omega) only [gws, ↓reduceIte, reduceEqDiff, reduceToNat, reduceMul, reduceAdd, Nat.reduceBEq, isLd], by simp (maxSteps := 300000) (disch := omega) only [gws, ↓reduceIte, reduceEqDiff, reduceToNat, reduceMul, reduceAdd, Nat.reduceBEq, isLd], by simp (maxSteps := 300000) (disch := omega) only [gws, ↓reduceIte, reduceEqDiff, reduceToNat, reduceMul, reduceAdd, Nat.reduceBEq, isLd] <;> rfl, by omega, by omega, hN0⟩ ?_
  clear hN0 f3
  rintro m T G' ⟨k, W, d, e3, e19, e20, e21, hm, hkl, hN⟩
  by_cases hkk : (k : Int) < N.arcs.length
  · have hh := ((h.sub s1).sub s2).sub hN.sub
    have hsn := hh.sn
    have p0 := hh.r0
    have p1 := hh.r1
    have p2 := hh.r2
    simp (maxSteps := 300000) (disch := omega) only [gws, ↓reduceIte, reduceEqDiff, reduceToNat, reduceMul, reduceAdd, Nat.reduceBEq, isLd, e3, e19, e20, e21, hkk, p0, p1, p2]
    intro b7 hb7
    simp (maxSteps := 300000) (disch := omega) only [gws, ↓reduceIte, reduceEqDiff, reduceToNat, reduceMul, reduceAdd, Nat.reduceBEq, isLd, e3, e19, e20, e21]
    refine st_fresh (vs := c3 (N.arcs.getD k z3)) rfl rfl rfl (c3_one _) ?_
    have s7 := Sub.put hb7 ⟨c3 (N.arcs.getD k z3), true⟩
    have q0 : rd (put G' b7 ⟨c3 (N.arcs.getD k z3), true⟩) (some ⟨b7, 0, none⟩) = some (.int .i64 (N.arcs.getD k z3).1) := rd_box _ _ _ 0 _ rfl
    have q1 : rd (put G' b7 ⟨c3 (N.arcs.getD k z3), true⟩) (some ⟨b7, 1, none⟩) = some (.int .i64 (N.arcs.getD k z3).2.1) := rd_box _ _ _ 1 _ rfl
    have q2 : rd (put G' b7 ⟨c3 (N.arcs.getD k z3), true⟩) (some ⟨b7, 2, none⟩) = some (.int .i64 (N.arcs.getD k z3).2.2) := rd_box _ _ _ 2 _ rfl
    revert q0 q1 q2 s7
    generalize put G' b7 ⟨c3 (N.arcs.getD k z3), true⟩ = H
    intro s7 q0 q1 q2
    simp (maxSteps := 300000) (disch := omega) only [gws, ↓reduceIte, reduceEqDiff, reduceToNat, reduceMul, reduceAdd, Nat.reduceBEq, isLd, e3, e19, e20, e21, q0, q1, q2, gBs]
    refine ⟨by intro v hv; simp at hv; rcases hv with rfl | rfl | rfl <;> rfl, fun b8 hb8 => ?_⟩
    rw [show List.flatMap (fun v : Value => v.cells.toList) [Value.int .i64 (N.arcs.getD k z3).1, .int .i64 (N.arcs.getD k z3).2.1, .int .i64 (N.arcs.getD k z3).2.2] = [.int .i64 (N.arcs.getD k z3).1, .int .i64 (N.arcs.getD k z3).2.1, .int .i64 (N.arcs.getD k z3).2.2] from rfl]
    have hI7 := ints_three (x := (N.arcs.getD k z3).1) (y := (N.arcs.getD k z3).2.1) (z := (N.arcs.getD k z3).2.2) hb8
    have s8 := Sub.put hb8 ⟨[.int .i64 (N.arcs.getD k z3).1, .int .i64 (N.arcs.getD k z3).2.1, .int .i64 (N.arcs.getD k z3).2.2], true⟩
    revert hI7 s8
    generalize put H b8 ⟨[.int .i64 (N.arcs.getD k z3).1, .int .i64 (N.arcs.getD k z3).2.1, .int .i64 (N.arcs.getD k z3).2.2], true⟩ = H2
    intro hI7 s8
    refine impl_ListText_ok (((((hL.sub s1).sub s2).sub hN.sub).sub s7).sub s8) (xs := arcL (N.arcs.getD k z3)) hI7 (by simp [arcL]) (fun _ => ?_) (fun x => absurd (arcL_F hn (by omega)) x)
    simp (maxSteps := 300000) (disch := omega) only [gws, ↓reduceIte, reduceEqDiff, reduceToNat, reduceMul, reduceAdd, Nat.reduceBEq, isLd, e3, e19, e20, e21, gBs]
    refine ⟨by intro v hv; simp at hv; subst hv; rfl, fun b9 hb9 => ?_⟩
    refine ap_new hN ((s7.trans s8).trans (Sub.put hb9 _)) (cells_one [sv (arcT (N.arcs.getD k z3))] true) (by rfl) (by intro v hv; simp at hv; subst hv; rfl) rfl (by omega) (by omega) (by omega) fun G4 A' c' hN' => ?_
    simp (maxSteps := 300000) (disch := omega) only [gws, ↓reduceIte, reduceEqDiff, reduceToNat, reduceMul, reduceAdd, Nat.reduceBEq, isLd, e3, e19, e20, e21]
    refine ⟨m - 1, by omega, _, Sub.refl _, k + 1, A', c', rfl, rfl, by omega, by omega, New.cast hN' ?_ rfl⟩
    rw [List.take_add_one, List.map_append, List.map_append, List.map_cons, List.cons_append]
    congr 2
    simp [List.getD, show k < N.arcs.length by omega]
  · simp (maxSteps := 300000) (disch := omega) only [gws, ↓reduceIte, reduceEqDiff, reduceToNat, reduceMul, reduceAdd, Nat.reduceBEq, isLd, e3, e19, e20, e21, hkk]
    have hke : k = N.arcs.length := by omega
    subst hke
    obtain ⟨b, rr, rfl, _⟩ : ∃ b r, W = some ⟨b, 0, none⟩ ∧ True := by
      rcases hN with ⟨_, _, h0', _⟩ | ⟨b, r, h1, _⟩
      · omega
      · exact ⟨b, r, h1, trivial⟩
    have hml : (ltxt (netH N) :: (N.arcs.take N.arcs.length).map arcT).length = N.arcs.length + 1 := by simp
    have hj := netTk_len hn N.arcs.length (Nat.le_refl _)
    rw [show Value.slice (some ⟨b, 0, none⟩) (N.arcs.length + 1) d = .slice (some ⟨b, 0, none⟩) (ltxt (netH N) :: (N.arcs.take N.arcs.length).map arcT).length d by rw [hml]]
    refine Join_ok (xs := ltxt (netH N) :: (N.arcs.take N.arcs.length).map arcT) hN.cells (by omega) (by have := hN.cap; omega) (by omega) (by show (netTk N N.arcs.length).length ≤ _; omega) ?_
    simp (maxSteps := 300000) (disch := omega) only [gws, ↓reduceIte, reduceEqDiff, reduceToNat, reduceMul, reduceAdd, Nat.reduceBEq, isLd]
    exact ⟨G, (s1.trans s2).trans hN.sub, hk⟩
theorem law_NetworkText {G : GH} (hL : LibG G) {v0 : Value} {x0 : Net} (h0 : NetworkV G v0 x0) : GC Tryd.prog 4 [v0] G fun v _ => v = .bool true := by
  obtain ⟨A0, c0, rfl, h0, e0, l0, rn0, rs0, rt0⟩ := h0
  refine k3b (by simp) ?_
  unfold netV netC
  simp (maxSteps := 300000) (disch := omega) only [gws, ↓reduceIte, reduceEqDiff, reduceToNat, reduceMul, reduceAdd, Nat.reduceBEq, isLd]
  intro p0 hp0
  generalize hG1 : put G p0 ⟨[.int .i64 x0.n, .int .i64 x0.s, .int .i64 x0.t, .slice A0 x0.arcs.length c0], true⟩ = G1
  have s1 : Sub G G1 := hG1 ▸ Sub.put hp0 _
  have hL := hL.sub s1
  have h0 := h0.sub s1
  have fa0_0 : rd G1 (some ⟨p0, 0, none⟩) = some (.int .i64 x0.n) := by rw [← hG1]; exact rd_box _ _ _ 0 _ rfl
  have fa0_1 : rd G1 (some ⟨p0, 1, none⟩) = some (.int .i64 x0.s) := by rw [← hG1]; exact rd_box _ _ _ 1 _ rfl
  have fa0_2 : rd G1 (some ⟨p0, 2, none⟩) = some (.int .i64 x0.t) := by rw [← hG1]; exact rd_box _ _ _ 2 _ rfl
  have fa0_3 : rd G1 (some ⟨p0, 3, none⟩) = some (.slice A0 x0.arcs.length c0) := by rw [← hG1]; exact rd_box _ _ _ 3 _ rfl
  simp (maxSteps := 300000) (disch := omega) only [gws, ↓reduceIte, reduceEqDiff, reduceToNat, reduceMul, reduceAdd, Nat.reduceBEq, isLd, fa0_0, fa0_1, fa0_2, fa0_3]
  refine laws_szNetwork_ok (N := x0) ⟨by omega, by omega⟩ (by omega) fun q0 q0a q0b q0c => ?_
  simp (maxSteps := 300000) (disch := omega) only [gws, ↓reduceIte, reduceEqDiff, reduceToNat, reduceMul, reduceAdd, Nat.reduceBEq, isLd, fa0_0, fa0_1, fa0_2, fa0_3]
  by_cases g0 : q0 < 0
  · simp (maxSteps := 300000) (disch := omega) only [gws, ↓reduceIte, reduceEqDiff, reduceToNat, reduceMul, reduceAdd, Nat.reduceBEq, isLd, g0, fa0_0, fa0_1, fa0_2, fa0_3]
  simp (maxSteps := 300000) (disch := omega) only [gws, ↓reduceIte, reduceEqDiff, reduceToNat, reduceMul, reduceAdd, Nat.reduceBEq, isLd, g0, fa0_0, fa0_1, fa0_2, fa0_3]
  refine laws_toNetwork_ok' (N := x0) h0 (by omega) fun As0 G2 s2 hs0 => ?_
  have hL := hL.sub s2
  have h0 := h0.sub s2
  have fa0_0 := rd_sub s2 fa0_0
  have fa0_1 := rd_sub s2 fa0_1
  have fa0_2 := rd_sub s2 fa0_2
  have fa0_3 := rd_sub s2 fa0_3
  simp (maxSteps := 300000) (disch := omega) only [gws, ↓reduceIte, reduceEqDiff, reduceToNat, reduceMul, reduceAdd, Nat.reduceBEq, isLd, fa0_0, fa0_1, fa0_2, fa0_3]
  refine spec_NetworkText_ok hs0 rn0 (by omega) ?_
  simp (maxSteps := 300000) (disch := omega) only [gws, ↓reduceIte, reduceEqDiff, reduceToNat, reduceMul, reduceAdd, Nat.reduceBEq, isLd, fa0_0, fa0_1, fa0_2, fa0_3]
  refine laws_toNetwork_ok' (N := x0) h0 (by omega) fun Ai0 G3 s3 hi0 => ?_
  have hL := hL.sub s3
  have h0 := h0.sub s3
  have hs0 := hs0.sub s3
  have fa0_0 := rd_sub s3 fa0_0
  have fa0_1 := rd_sub s3 fa0_1
  have fa0_2 := rd_sub s3 fa0_2
  have fa0_3 := rd_sub s3 fa0_3
  simp (maxSteps := 300000) (disch := omega) only [gws, ↓reduceIte, reduceEqDiff, reduceToNat, reduceMul, reduceAdd, Nat.reduceBEq, isLd, fa0_0, fa0_1, fa0_2, fa0_3]
  intro p1 hp1
  simp (maxSteps := 300000) (disch := omega) only [gws, ↓reduceIte, reduceEqDiff, reduceToNat, reduceMul, reduceAdd, Nat.reduceBEq, isLd, fa0_0, fa0_1, fa0_2, fa0_3]
  refine st_fresh (vs := [.int .i64 x0.n, .int .i64 x0.s, .int .i64 x0.t, .slice Ai0 x0.arcs.length x0.arcs.length]) rfl rfl rfl (by intro v hv; simp only [List.mem_cons, List.not_mem_nil, or_false] at hv; rcases hv with rfl | rfl | rfl | rfl <;> rfl) ?_
  generalize hG4 : put G3 p1 ⟨[.int .i64 x0.n, .int .i64 x0.s, .int .i64 x0.t, .slice Ai0 x0.arcs.length x0.arcs.length], true⟩ = G4
  have s4 : Sub G3 G4 := hG4 ▸ Sub.put hp1 _
  have hL := hL.sub s4
  have h0 := h0.sub s4
  have hs0 := hs0.sub s4
  have hi0 := hi0.sub s4
  have fa0_0 := rd_sub s4 fa0_0
  have fa0_1 := rd_sub s4 fa0_1
  have fa0_2 := rd_sub s4 fa0_2
  have fa0_3 := rd_sub s4 fa0_3
  have fi0_0 : rd G4 (some ⟨p1, 0, none⟩) = some (.int .i64 x0.n) := by rw [← hG4]; exact rd_box _ _ _ 0 _ rfl
  have fi0_1 : rd G4 (some ⟨p1, 1, none⟩) = some (.int .i64 x0.s) := by rw [← hG4]; exact rd_box _ _ _ 1 _ rfl
  have fi0_2 : rd G4 (some ⟨p1, 2, none⟩) = some (.int .i64 x0.t) := by rw [← hG4]; exact rd_box _ _ _ 2 _ rfl
  have fi0_3 : rd G4 (some ⟨p1, 3, none⟩) = some (.slice Ai0 x0.arcs.length x0.arcs.length) := by rw [← hG4]; exact rd_box _ _ _ 3 _ rfl
  simp (maxSteps := 300000) (disch := omega) only [gws, ↓reduceIte, reduceEqDiff, reduceToNat, reduceMul, reduceAdd, Nat.reduceBEq, isLd, fa0_0, fa0_1, fa0_2, fa0_3, fi0_0, fi0_1, fi0_2, fi0_3]
  refine impl_NetworkText_ok hL hi0 rn0 (by omega) ?_
  simp (maxSteps := 300000) (disch := omega) only [gws, ↓reduceIte, reduceEqDiff, reduceToNat, reduceMul, reduceAdd, Nat.reduceBEq, isLd, seq_ne, ne_eq, eq_self, fa0_0, fa0_1, fa0_2, fa0_3, fi0_0, fi0_1, fi0_2, fi0_3]
  refine laws_toNetwork_ok' (N := x0) h0 (by omega) fun Ae0 G5 s5 he0 => ?_
  have hL := hL.sub s5
  have h0 := h0.sub s5
  have hs0 := hs0.sub s5
  have hi0 := hi0.sub s5
  have fa0_0 := rd_sub s5 fa0_0
  have fa0_1 := rd_sub s5 fa0_1
  have fa0_2 := rd_sub s5 fa0_2
  have fa0_3 := rd_sub s5 fa0_3
  have fi0_0 := rd_sub s5 fi0_0
  have fi0_1 := rd_sub s5 fi0_1
  have fi0_2 := rd_sub s5 fi0_2
  have fi0_3 := rd_sub s5 fi0_3
  simp (maxSteps := 300000) (disch := omega) only [gws, ↓reduceIte, reduceEqDiff, reduceToNat, reduceMul, reduceAdd, Nat.reduceBEq, isLd, fa0_0, fa0_1, fa0_2, fa0_3, fi0_0, fi0_1, fi0_2, fi0_3]
  refine laws_eqNetwork_ok (N := x0) (M := x0) hi0 he0 (by omega) fun b hb => ?_
  obtain rfl : b = true := hb.2 rfl
  simp (maxSteps := 300000) (disch := omega) only [gws, ↓reduceIte, reduceEqDiff, reduceToNat, reduceMul, reduceAdd, Nat.reduceBEq, isLd, fa0_0, fa0_1, fa0_2, fa0_3, fi0_0, fi0_1, fi0_2, fi0_3]

end Go.Proofs.YtnaoeggecibkmaaDoor.Gh
