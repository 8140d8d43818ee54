/- What the functions that the law RepairWith reaches return, and the law; it stands under no condition. -/
import Derived.Test.YtdnipjkpfpahmaaGreatYRepairWitha
namespace Go.Proofs.YtdnipjkpfpahmaaGreat.Gh
open Go Go.RowKit Go.Proofs
open Nat (reduceEqDiff reduceMul reduceAdd)
open Int (reduceToNat)
set_option linter.unusedVariables false
set_option linter.unusedSimpArgs false
set_option maxHeartbeats 4000000

theorem gws : (type_of% @gs) ∧ (type_of% @gs2) ∧ (type_of% @gs3) ∧ (type_of% @gs4) := ⟨@gs, @gs2, @gs3, @gs4⟩
theorem st_one {G : GH} {b o : Nat} {cs : List Value} {v : Value} {K : Value → GH → Prop} (hb : G b = some ⟨cs, true⟩) (ho : o < cs.length) (h1 : oneB v = true) (hk : K undef (put G b ⟨cs.set o v, true⟩)) : gSt 1 (.pointer (some ⟨b, o, none⟩)) v G K := by
  have hc : v.cells = #[v] := by cases v <;> first | rfl | simp [oneB] at h1
  refine ⟨b, o, cs, rfl, hb, by rw [hc]; rfl, by omega, ?_, ?_⟩
  · rw [hc]; intro u hu; simp at hu; subst hu; exact h1
  · rw [hc]; exact hk
theorem fill_set {α : Type} (f : α → Value) (z : Value) (d : α) (xs : List α) (k : Nat) (hk : k < xs.length) :
    ((xs.take k).map f ++ List.replicate (xs.length - k) z).set k (f (xs.getD k d)) = (xs.take (k + 1)).map f ++ List.replicate (xs.length - (k + 1)) z := by
  apply List.ext_getElem?
  intro i
  have hl : ((xs.take k).map f).length = k := by simp; omega
  rw [List.getElem?_set]
  by_cases hik : k = i
  · subst hik
    simp only [if_true, List.length_append, hl, List.length_replicate]
    rw [if_pos (by omega), List.getElem?_append_left (by simp; omega)]
    simp [List.getD, hk]
  · rw [if_neg hik]
    by_cases hlt : i < k
    · rw [List.getElem?_append_left (by omega), List.getElem?_append_left (by simp; omega)]
      simp [List.getElem?_take, hlt, show i < k + 1 by omega]
    · rw [List.getElem?_append_right (by omega), List.getElem?_append_right (by simp; omega)]
      simp only [hl, List.length_map, List.length_take, List.getElem?_replicate, show min (k + 1) xs.length = k + 1 by omega]
      by_cases h2 : i < xs.length
      · rw [if_pos (by omega), if_pos (by omega)]
      · rw [if_neg (by omega), if_neg (by omega)]
theorem zc_one (z : Value) (n : Nat) : zc [z] n = List.replicate n z := by
  apply List.ext_getElem
  · simp [zc]
  · intro i h1 h2; simp [zc, Nat.mod_one, List.getD]
theorem laws_toInt64S_ok {G : GH} {A : Option Addr} {c : Nat} {xs : List Int} (h : IntS G A c xs) (hl : xs.length ≤ 2 ^ 20) {K : Value → GH → Prop}
    (hk : ∀ b, G b = none → K (.slice (some ⟨b, 0, none⟩) xs.length xs.length) (put G b ⟨xs.map I64, true⟩)) : GC Tryz.prog 14 [.slice A xs.length c] G K := by
  refine kpg (by simp) ?_
  have hsn := h.sn
  have hrd := h.rd
  simp (maxSteps := 300000) (disch := omega) only [gws, ↓reduceIte, reduceEqDiff, reduceToNat, reduceMul, reduceAdd, Nat.reduceBEq, isLd]
  refine ⟨xs.length, xs.length, rfl, rfl, Nat.le_refl _, by omega, by omega, fun b hb => ?_⟩
  have hrd' := fun i hi => rd_sub (Sub.put hb ⟨zc [.int .i64 0] xs.length, true⟩) (hrd i hi)
  simp (maxSteps := 300000) (disch := omega) only [gws, ↓reduceIte, reduceEqDiff, reduceToNat, reduceMul, reduceAdd, Nat.reduceBEq, isLd]
  refine gLoop_intro (fun m T G' => ∃ k : Nat, T 0 = .slice A xs.length c ∧ T 3 = .slice (some ⟨b, 0, none⟩) xs.length xs.length ∧ T 4 = .int .i64 k ∧ m + k = xs.length ∧ k ≤ xs.length ∧
    G' = put G b ⟨(xs.take k).map I64 ++ List.replicate (xs.length - k) (I64 0), true⟩) xs.length ⟨0, by simp (maxSteps := 300000) (disch := omega) only [gws, ↓reduceIte, reduceEqDiff, reduceToNat, reduceMul, reduceAdd, Nat.reduceBEq, isLd], by simp (maxSteps := 300000) (disch := omega) only [gws, ↓reduceIte, reduceEqDiff, reduceToNat, reduceMul, reduceAdd, Nat.reduceBEq, isLd], by simp (maxSteps := 300000) (disch := omega) only [gws, ↓reduceIte, reduceEqDiff, reduceToNat, reduceMul, reduceAdd, Nat.reduceBEq, isLd] <;> rfl, by omega, by omega, by simp [zc_one, I64]⟩ ?_
  rintro m T G' ⟨k, h0, h3, h4, hm, hkl, rfl⟩
  have hrd' := fun i hi => rd_sub (Sub.put hb ⟨(xs.take k).map I64 ++ List.replicate (xs.length - k) (I64 0), true⟩) (hrd i hi)
  simp (maxSteps := 300000) (disch := omega) only [gws, ↓reduceIte, reduceEqDiff, reduceToNat, reduceMul, reduceAdd, Nat.reduceBEq, isLd, h0, h3, h4]
  by_cases hlt : (k : Int) < xs.length
  · simp (maxSteps := 300000) (disch := omega) only [gws, ↓reduceIte, reduceEqDiff, reduceToNat, reduceMul, reduceAdd, Nat.reduceBEq, isLd, h0, h3, h4, hlt, hrd']

    refine st_one (put_same _ _ _) (by simp; omega) rfl ?_
    simp (maxSteps := 300000) (disch := omega) only [gws, ↓reduceIte, reduceEqDiff, reduceToNat, reduceMul, reduceAdd, Nat.reduceBEq, isLd, h0, h3, h4, put_put]
    refine ⟨m - 1, by omega, _, Sub.refl _, k + 1, rfl, by omega, by omega, ?_⟩
    rw [show Value.int IntKind.i64 (xs.getD k 0) = I64 (xs.getD k 0) from rfl, fill_set I64 (I64 0) 0 xs k (by omega)]
  · simp (maxSteps := 300000) (disch := omega) only [gws, ↓reduceIte, reduceEqDiff, reduceToNat, reduceMul, reduceAdd, Nat.reduceBEq, isLd, h0, h3, h4, hlt]
    have := hk b hb
    rw [show k = xs.length by omega]
    simpa using this
theorem list_eq_iff {xs ys : List Int} (h : xs.length = ys.length) : xs = ys ↔ ∀ i, i < xs.length → xs.getD i 0 = ys.getD i 0 := by
  constructor
  · rintro rfl i _; rfl
  · intro k
    apply List.ext_getElem h
    intro i h1 h2
    have := k i h1
    simpa [List.getD, h1, h2] using this
theorem laws_eqInt64S_ok {G : GH} {A B : Option Addr} {c d : Nat} {xs ys : List Int} (h : IntS G A c xs) (h' : IntS G B d ys) (hl : xs.length < 2 ^ 40) {K : Value → GH → Prop}
    (hk : K (.bool (decide (xs = ys))) G) : GC Tryz.prog 16 [.slice A xs.length c, .slice B ys.length d] G K := by
  refine kjv (by simp) ?_
  have hsn := h.sn
  have hrd := h.rd
  have hsn' := h'.sn
  have hrd' := h'.rd
  simp (maxSteps := 300000) (disch := omega) only [gws, ↓reduceIte, reduceEqDiff, reduceToNat, reduceMul, reduceAdd, Nat.reduceBEq, isLd]
  by_cases hne : xs.length = ys.length
  · simp (maxSteps := 300000) (disch := omega) only [gws, ↓reduceIte, reduceEqDiff, reduceToNat, reduceMul, reduceAdd, Nat.reduceBEq, isLd, show ((xs.length : Int) = ys.length) = True by simp [hne], not_true]
    refine gLoop_intro (fun m T G' => ∃ k : Nat, T 0 = .slice A xs.length c ∧ T 1 = .slice B ys.length d ∧ T 5 = .int .i64 k ∧ m + k = xs.length ∧ k ≤ xs.length ∧ G' = G ∧ ∀ i, i < k → xs.getD i 0 = ys.getD i 0) xs.length
      ⟨0, by simp (maxSteps := 300000) (disch := omega) only [gws, ↓reduceIte, reduceEqDiff, reduceToNat, reduceMul, reduceAdd, Nat.reduceBEq, isLd], by simp (maxSteps := 300000) (disch := omega) only [gws, ↓reduceIte, reduceEqDiff, reduceToNat, reduceMul, reduceAdd, Nat.reduceBEq, isLd], by simp (maxSteps := 300000) (disch := omega) only [gws, ↓reduceIte, reduceEqDiff, reduceToNat, reduceMul, reduceAdd, Nat.reduceBEq, isLd] <;> rfl, by omega, by omega, rfl, fun i hi => by omega⟩ ?_
    rintro m T G' ⟨k, h0, h1, h5, hm, hkl, rfl, hinv⟩
    simp (maxSteps := 300000) (disch := omega) only [gws, ↓reduceIte, reduceEqDiff, reduceToNat, reduceMul, reduceAdd, Nat.reduceBEq, isLd, h0, h1, h5]
    by_cases hlt : (k : Int) < xs.length
    · simp (maxSteps := 300000) (disch := omega) only [gws, ↓reduceIte, reduceEqDiff, reduceToNat, reduceMul, reduceAdd, Nat.reduceBEq, isLd, h0, h1, h5, hlt, hrd, hrd']
      by_cases hkk : xs.getD k 0 = ys.getD k 0
      · simp (maxSteps := 300000) (disch := omega) only [gws, ↓reduceIte, reduceEqDiff, reduceToNat, reduceMul, reduceAdd, Nat.reduceBEq, isLd, hkk, h0, h1, h5, not_true]
        refine ⟨m - 1, by omega, _, Sub.refl _, k + 1, rfl, by omega, by omega, rfl, fun i hi => ?_⟩
        by_cases hik : i = k
        · subst hik; exact hkk
        · exact hinv i (by omega)
      · simp (maxSteps := 300000) (disch := omega) only [gws, ↓reduceIte, reduceEqDiff, reduceToNat, reduceMul, reduceAdd, Nat.reduceBEq, isLd, hkk, not_false_eq_true]
        have : ¬ xs = ys := by rintro rfl; exact hkk rfl
        simpa [this] using hk
    · simp (maxSteps := 300000) (disch := omega) only [gws, ↓reduceIte, reduceEqDiff, reduceToNat, reduceMul, reduceAdd, Nat.reduceBEq, isLd, h0, h1, h5, hlt]
      have : xs = ys := (list_eq_iff hne).2 fun i hi => hinv i (by omega)
      simpa [this] using hk
  · simp (maxSteps := 300000) (disch := omega) only [gws, ↓reduceIte, reduceEqDiff, reduceToNat, reduceMul, reduceAdd, Nat.reduceBEq, isLd, show ((xs.length : Int) = ys.length) = False by simp; omega, not_false_eq_true]
    have : ¬ xs = ys := by rintro rfl; exact hne rfl
    simpa [this] using hk
theorem spec_l00Same_ok {G : GH} {A B : Option Addr} {c d : Nat} {xs ys : List Int} (h : IntS G A c xs) (h' : IntS G B d ys) (hl : xs.length < 2 ^ 40) {K : Value → GH → Prop}
    (hk : K (.bool (decide (xs = ys))) G) : GC Tryz.prog 175 [.slice A xs.length c, .slice B ys.length d] G K := by
  refine kvb (by simp) ?_
  have hsn := h.sn
  have hrd := h.rd
  have hsn' := h'.sn
  have hrd' := h'.rd
  simp (maxSteps := 300000) (disch := omega) only [gws, ↓reduceIte, reduceEqDiff, reduceToNat, reduceMul, reduceAdd, Nat.reduceBEq, isLd]
  by_cases hne : xs.length = ys.length
  · simp (maxSteps := 300000) (disch := omega) only [gws, ↓reduceIte, reduceEqDiff, reduceToNat, reduceMul, reduceAdd, Nat.reduceBEq, isLd, show ((xs.length : Int) = ys.length) = True by simp [hne], not_true]
    refine gLoop_intro (fun m T G' => ∃ k : Nat, T 0 = .slice A xs.length c ∧ T 1 = .slice B ys.length d ∧ T 5 = .int .i64 k ∧ m + k = xs.length ∧ k ≤ xs.length ∧ G' = G ∧ ∀ i, i < k → xs.getD i 0 = ys.getD i 0) xs.length
      ⟨0, by simp (maxSteps := 300000) (disch := omega) only [gws, ↓reduceIte, reduceEqDiff, reduceToNat, reduceMul, reduceAdd, Nat.reduceBEq, isLd], by simp (maxSteps := 300000) (disch := omega) only [gws, ↓reduceIte, reduceEqDiff, reduceToNat, reduceMul, reduceAdd, Nat.reduceBEq, isLd], by simp (maxSteps := 300000) (disch := omega) only [gws, ↓reduceIte, reduceEqDiff, reduceToNat, reduceMul, reduceAdd, Nat.reduceBEq, isLd] <;> rfl, by omega, by omega, rfl, fun i hi => by omega⟩ ?_
    rintro m T G' ⟨k, h0, h1, h5, hm, hkl, rfl, hinv⟩
    simp (maxSteps := 300000) (disch := omega) only [gws, ↓reduceIte, reduceEqDiff, reduceToNat, reduceMul, reduceAdd, Nat.reduceBEq, isLd, h0, h1, h5]
    by_cases hlt : (k : Int) < xs.length
    · simp (maxSteps := 300000) (disch := omega) only [gws, ↓reduceIte, reduceEqDiff, reduceToNat, reduceMul, reduceAdd, Nat.reduceBEq, isLd, h0, h1, h5, hlt, hrd, hrd']
      by_cases hkk : xs.getD k 0 = ys.getD k 0
      · simp (maxSteps := 300000) (disch := omega) only [gws, ↓reduceIte, reduceEqDiff, reduceToNat, reduceMul, reduceAdd, Nat.reduceBEq, isLd, hkk, h0, h1, h5, not_true]
        refine ⟨m - 1, by omega, _, Sub.refl _, k + 1, rfl, by omega, by omega, rfl, fun i hi => ?_⟩
        by_cases hik : i = k
        · subst hik; exact hkk
        · exact hinv i (by omega)
      · simp (maxSteps := 300000) (disch := omega) only [gws, ↓reduceIte, reduceEqDiff, reduceToNat, reduceMul, reduceAdd, Nat.reduceBEq, isLd, hkk, not_false_eq_true]
        have : ¬ xs = ys := by rintro rfl; exact hkk rfl
        simpa [this] using hk
    · simp (maxSteps := 300000) (disch := omega) only [gws, ↓reduceIte, reduceEqDiff, reduceToNat, reduceMul, reduceAdd, Nat.reduceBEq, isLd, h0, h1, h5, hlt]
      have : xs = ys := (list_eq_iff hne).2 fun i hi => hinv i (by omega)
      simpa [this] using hk
  · simp (maxSteps := 300000) (disch := omega) only [gws, ↓reduceIte, reduceEqDiff, reduceToNat, reduceMul, reduceAdd, Nat.reduceBEq, isLd, show ((xs.length : Int) = ys.length) = False by simp; omega, not_false_eq_true]
    have : ¬ xs = ys := by rintro rfl; exact hne rfl
    simpa [this] using hk
/-- the place of the first element that meets p, or -1. -/
def idxI (p : Int → Bool) (xs : List Int) : Int := match xs.findIdx? p with | some i => i | none => -1
theorem idxI_none {p : Int → Bool} {xs : List Int} (h : ∀ i, i < xs.length → p (xs.getD i 0) = false) : idxI p xs = -1 := by
  have : xs.findIdx? p = none := by
    rw [List.findIdx?_eq_none_iff]
    intro x hx
    obtain ⟨i, hi, rfl⟩ := List.getElem_of_mem hx
    simpa [List.getD, hi] using h i hi
  simp [idxI, this]
theorem idxI_some {p : Int → Bool} {xs : List Int} {k : Nat} (hk : k < xs.length) (hp : p (xs.getD k 0) = true) (h : ∀ i, i < k → p (xs.getD i 0) = false) : idxI p xs = k := by
  have : xs.findIdx? p = some k := by
    rw [List.findIdx?_eq_some_iff_getElem]
    refine ⟨hk, by simpa [List.getD, hk] using hp, fun j hj => ?_⟩
    have := h j hj
    simpa [List.getD, show j < xs.length by omega] using this
  simp [idxI, this]
theorem slices_IndexFunc_ok {G : GH} {A : Option Addr} {c : Nat} {xs : List Int} {f : Value} (p : Int → Bool) (h : IntS G A c xs) (hl : xs.length < 2 ^ 40)
    (hf : ∀ i, i < xs.length → ∀ K : Value → GH → Prop, K (.bool (p (xs.getD i 0))) G → gCl Tryz.prog f [.int .i64 (xs.getD i 0)] G K) {K : Value → GH → Prop}
    (hk : K (.int .i64 (idxI p xs)) G) : GC Tryz.prog 112 [.slice A xs.length c, f] G K := by
  refine ktv (by simp) ?_
  have hsn := h.sn
  have hrd := h.rd
  simp (maxSteps := 300000) (disch := omega) only [gws, ↓reduceIte, reduceEqDiff, reduceToNat, reduceMul, reduceAdd, Nat.reduceBEq, isLd]
  refine gLoop_intro (fun m T G' => ∃ k : Nat, T 0 = .slice A xs.length c ∧ T 1 = f ∧ T 7 = .int .i64 xs.length ∧ T 8 = .int .i64 k ∧ m + k = xs.length ∧ k ≤ xs.length ∧ G' = G ∧ ∀ i, i < k → p (xs.getD i 0) = false) xs.length
    ⟨0, by simp (maxSteps := 300000) (disch := omega) only [gws, ↓reduceIte, reduceEqDiff, reduceToNat, reduceMul, reduceAdd, Nat.reduceBEq, isLd], by simp (maxSteps := 300000) (disch := omega) only [gws, ↓reduceIte, reduceEqDiff, reduceToNat, reduceMul, reduceAdd, Nat.reduceBEq, isLd], by simp (maxSteps := 300000) (disch := omega) only [gws, ↓reduceIte, reduceEqDiff, reduceToNat, reduceMul, reduceAdd, Nat.reduceBEq, isLd], by simp (maxSteps := 300000) (disch := omega) only [gws, ↓reduceIte, reduceEqDiff, reduceToNat, reduceMul, reduceAdd, Nat.reduceBEq, isLd] <;> rfl, by omega, by omega, rfl, fun i hi => by omega⟩ ?_
  rintro m T G' ⟨k, h0, h1, h7, h8, hm, hkl, rfl, hinv⟩
  simp (maxSteps := 300000) (disch := omega) only [gws, ↓reduceIte, reduceEqDiff, reduceToNat, reduceMul, reduceAdd, Nat.reduceBEq, isLd, h0, h1, h7, h8]
  by_cases hlt : (k : Int) < xs.length
  · simp (maxSteps := 300000) (disch := omega) only [gws, ↓reduceIte, reduceEqDiff, reduceToNat, reduceMul, reduceAdd, Nat.reduceBEq, isLd, h0, h1, h7, h8, hlt, hrd]
    refine hf k (by omega) _ ?_
    simp (maxSteps := 300000) (disch := omega) only [gws, ↓reduceIte, reduceEqDiff, reduceToNat, reduceMul, reduceAdd, Nat.reduceBEq, isLd, h0, h1, h7, h8]
    cases hp : p (xs.getD k 0)
    · simp (maxSteps := 300000) (disch := omega) only [gws, ↓reduceIte, reduceEqDiff, reduceToNat, reduceMul, reduceAdd, Nat.reduceBEq, isLd, h0, h1, h7, h8]
      refine ⟨m - 1, by omega, _, Sub.refl _, k + 1, rfl, by omega, by omega, rfl, fun i hi => ?_⟩
      by_cases hik : i = k
      · subst hik; exact hp
      · exact hinv i (by omega)
    · simp (maxSteps := 300000) (disch := omega) only [gws, ↓reduceIte, reduceEqDiff, reduceToNat, reduceMul, reduceAdd, Nat.reduceBEq, isLd, h0, h1, h7, h8]
      rw [idxI_some (by omega) hp hinv] at hk; exact hk
  · simp (maxSteps := 300000) (disch := omega) only [gws, ↓reduceIte, reduceEqDiff, reduceToNat, reduceMul, reduceAdd, Nat.reduceBEq, isLd, h0, h1, h7, h8, hlt]
    rw [idxI_none (fun i hi => hinv i (by omega))] at hk; exact hk
theorem slices_ContainsFunc_ok {G : GH} {A : Option Addr} {c : Nat} {xs : List Int} {f : Value} (p : Int → Bool) (h : IntS G A c xs) (hl : xs.length < 2 ^ 40)
    (hf : ∀ i, i < xs.length → ∀ K : Value → GH → Prop, K (.bool (p (xs.getD i 0))) G → gCl Tryz.prog f [.int .i64 (xs.getD i 0)] G K) {K : Value → GH → Prop}
    (hk : K (.bool (xs.any p)) G) : GC Tryz.prog 57 [.slice A xs.length c, f] G K := by
  refine ksj (by simp) ?_
  simp (maxSteps := 300000) (disch := omega) only [gws, ↓reduceIte, reduceEqDiff, reduceToNat, reduceMul, reduceAdd, Nat.reduceBEq, isLd]
  refine slices_IndexFunc_ok p h hl hf ?_
  simp (maxSteps := 300000) (disch := omega) only [gws, ↓reduceIte, reduceEqDiff, reduceToNat, reduceMul, reduceAdd, Nat.reduceBEq, isLd]
  have : decide (0 ≤ idxI p xs) = xs.any p := by
    unfold idxI
    cases hi : xs.findIdx? p with
    | none =>
      rw [List.findIdx?_eq_none_iff] at hi
      have : xs.any p = false := by rw [List.any_eq_false]; intro x hx; simp [hi x hx]
      simp [this]
    | some i =>
      rw [List.findIdx?_eq_some_iff_getElem] at hi
      obtain ⟨h1, h2, _⟩ := hi
      have : xs.any p = true := List.any_eq_true.2 ⟨xs[i], List.getElem_mem h1, h2⟩
      simp [this]
  rw [this]; exact hk
theorem laws_szInt64S_ok {G : GH} {A : Option Addr} {n c : Nat} {left : Int} (h0 : -1 ≤ left ∧ left ≤ 2 ^ 20) (hn : n ≤ 2 ^ 63 - 1) {K : Value → GH → Prop} (hk : ∀ l : Int, -1 ≤ l → l ≤ 2 ^ 20 → (0 ≤ l → l + n ≤ left) → K (.int .i64 l) G) :
    GC Tryz.prog 43 [.slice A n c, .int .i64 left] G K := by
  refine kni (by simp) ?_
  simp (maxSteps := 300000) (disch := omega) only [gws, ↓reduceIte, reduceEqDiff, reduceToNat, reduceMul, reduceAdd, Nat.reduceBEq, isLd]
  by_cases h : left - (n : Int) < 0
  · simp (maxSteps := 300000) (disch := omega) only [gws, ↓reduceIte, reduceEqDiff, reduceToNat, reduceMul, reduceAdd, Nat.reduceBEq, isLd, h]; exact hk _ (by omega) (by omega) (by omega)
  · simp (maxSteps := 300000) (disch := omega) only [gws, ↓reduceIte, reduceEqDiff, reduceToNat, reduceMul, reduceAdd, Nat.reduceBEq, isLd, h]; exact hk _ (by omega) (by omega) (by omega)
theorem laws_eqInt64SS_ok {G : GH} {A B : Option Addr} {c d : Nat} {hs hs' : Nat → Option Addr × Nat} {xs ys : List (List Int)} (h : RowS G A c hs xs) (h' : RowS G B d hs' ys) (hl : xs.length < 2 ^ 40) (hl2 : ∀ i, i < xs.length → (xs.getD i []).length < 2 ^ 40) {K : Value → GH → Prop}
    (hk : ∀ b : Bool, (b = true ↔ xs = ys) → K (.bool b) G) : GC Tryz.prog 106 [.slice A xs.length c, .slice B ys.length d] G K := by
  refine kk8 (by simp) ?_
  have hsn := h.sn
  have hsn' := h'.sn
  have r := h.r
  have r' := h'.r
  simp (maxSteps := 300000) (disch := omega) only [gws, ↓reduceIte, reduceEqDiff, reduceToNat, reduceMul, reduceAdd, Nat.reduceBEq, isLd]
  by_cases hne : xs.length = ys.length
  · simp (maxSteps := 300000) (disch := omega) only [gws, ↓reduceIte, reduceEqDiff, reduceToNat, reduceMul, reduceAdd, Nat.reduceBEq, isLd, eq_true (show (xs.length : Int) = ys.length by rw [hne])]
    refine gLoop_intro (fun m T G' => ∃ k : Nat, T 0 = .slice A xs.length c ∧ T 1 = .slice B ys.length d ∧ T 5 = .int .i64 k ∧ m + k = xs.length ∧ k ≤ xs.length ∧ G' = G ∧ ∀ i, i < k → xs.getD i [] = ys.getD i []) xs.length
      ⟨0, by simp (maxSteps := 300000) (disch := omega) only [gws, ↓reduceIte, reduceEqDiff, reduceToNat, reduceMul, reduceAdd, Nat.reduceBEq, isLd], by simp (maxSteps := 300000) (disch := omega) only [gws, ↓reduceIte, reduceEqDiff, reduceToNat, reduceMul, reduceAdd, Nat.reduceBEq, isLd], by simp (maxSteps := 300000) (disch := omega) only [gws, ↓reduceIte, reduceEqDiff, reduceToNat, reduceMul, reduceAdd, Nat.reduceBEq, isLd] <;> rfl, by omega, by omega, rfl, fun i hi => by omega⟩ ?_
    rintro m T G' ⟨k, e0, e1, e5, hm, hkl, rfl, hin⟩
    simp (maxSteps := 300000) (disch := omega) only [gws, ↓reduceIte, reduceEqDiff, reduceToNat, reduceMul, reduceAdd, Nat.reduceBEq, isLd, e0, e1, e5]
    by_cases hkk : (k : Int) < xs.length
    · simp (maxSteps := 300000) (disch := omega) only [gws, ↓reduceIte, reduceEqDiff, reduceToNat, reduceMul, reduceAdd, Nat.reduceBEq, isLd, e0, e1, e5, hkk, r, r']
      refine laws_eqInt64S_ok (h.row k (by omega)) (h'.row k (by omega)) (hl2 k (by omega)) ?_
      cases g : decide (xs.getD k [] = ys.getD k [])
      · simp (maxSteps := 300000) (disch := omega) only [gws, ↓reduceIte, reduceEqDiff, reduceToNat, reduceMul, reduceAdd, Nat.reduceBEq, isLd, e0, e1, e5, hkk, r, r']
        have g := of_decide_eq_false g
        exact hk false (by simp; rintro rfl; exact g rfl)
      · simp (maxSteps := 300000) (disch := omega) only [gws, ↓reduceIte, reduceEqDiff, reduceToNat, reduceMul, reduceAdd, Nat.reduceBEq, isLd, e0, e1, e5, hkk, r, r']
        have g := of_decide_eq_true g
        refine ⟨m - 1, by omega, _, Sub.refl _, k + 1, rfl, by omega, by omega, rfl, fun i hi => ?_⟩
        by_cases hik : i = k
        · subst hik; exact g
        · exact hin i (by omega)
    · simp (maxSteps := 300000) (disch := omega) only [gws, ↓reduceIte, reduceEqDiff, reduceToNat, reduceMul, reduceAdd, Nat.reduceBEq, isLd, e0, e1, e5, hkk]
      exact hk true (by simp; exact (rows_eq_iff hne).2 fun i hi => hin i (by omega))
  · simp (maxSteps := 300000) (disch := omega) only [gws, ↓reduceIte, reduceEqDiff, reduceToNat, reduceMul, reduceAdd, Nat.reduceBEq, isLd, eq_false (show ¬ (xs.length : Int) = ys.length by omega)]
    exact hk false (by simp; rintro rfl; exact hne rfl)
theorem slices_Equal_int64_ok {G : GH} {A B : Option Addr} {c d : Nat} {xs ys : List Int} (h : IntS G A c xs) (h' : IntS G B d ys) (hl : xs.length < 2 ^ 40) {K : Value → GH → Prop}
    (hk : K (.bool (decide (xs = ys))) G) : GC Tryz.prog 209 [.slice A xs.length c, .slice B ys.length d] G K := by
  refine ksx (by simp) ?_
  have hsn := h.sn
  have hrd := h.rd
  have hsn' := h'.sn
  have hrd' := h'.rd
  simp (maxSteps := 300000) (disch := omega) only [gws, ↓reduceIte, reduceEqDiff, reduceToNat, reduceMul, reduceAdd, Nat.reduceBEq, isLd]
  by_cases hne : xs.length = ys.length
  · simp (maxSteps := 300000) (disch := omega) only [gws, ↓reduceIte, reduceEqDiff, reduceToNat, reduceMul, reduceAdd, Nat.reduceBEq, isLd, show ((xs.length : Int) = ys.length) = True by simp [hne], not_true]
    refine gLoop_intro (fun m T G' => ∃ k : Nat, T 0 = .slice A xs.length c ∧ T 1 = .slice B ys.length d ∧ T 12 = .int .i64 xs.length ∧ T 13 = .int .i64 k ∧ m + k = xs.length ∧ k ≤ xs.length ∧ G' = G ∧ ∀ i, i < k → xs.getD i 0 = ys.getD i 0) xs.length
      ⟨0, by simp (maxSteps := 300000) (disch := omega) only [gws, ↓reduceIte, reduceEqDiff, reduceToNat, reduceMul, reduceAdd, Nat.reduceBEq, isLd], by simp (maxSteps := 300000) (disch := omega) only [gws, ↓reduceIte, reduceEqDiff, reduceToNat, reduceMul, reduceAdd, Nat.reduceBEq, isLd], by simp (maxSteps := 300000) (disch := omega) only [gws, ↓reduceIte, reduceEqDiff, reduceToNat, reduceMul, reduceAdd, Nat.reduceBEq, isLd], by simp (maxSteps := 300000) (disch := omega) only [gws, ↓reduceIte, reduceEqDiff, reduceToNat, reduceMul, reduceAdd, Nat.reduceBEq, isLd] <;> rfl, by omega, by omega, rfl, fun i hi => by omega⟩ ?_
    rintro m T G' ⟨k, h0, h1, h5, h6, hm, hkl, rfl, hinv⟩
    simp (maxSteps := 300000) (disch := omega) only [gws, ↓reduceIte, reduceEqDiff, reduceToNat, reduceMul, reduceAdd, Nat.reduceBEq, isLd, h0, h1, h5, h6]
    by_cases hlt : (k : Int) < xs.length
    · simp (maxSteps := 300000) (disch := omega) only [gws, ↓reduceIte, reduceEqDiff, reduceToNat, reduceMul, reduceAdd, Nat.reduceBEq, isLd, h0, h1, h5, h6, hlt, hrd, hrd']
      by_cases hkk : xs.getD k 0 = ys.getD k 0
      · simp (maxSteps := 300000) (disch := omega) only [gws, ↓reduceIte, reduceEqDiff, reduceToNat, reduceMul, reduceAdd, Nat.reduceBEq, isLd, hkk, h0, h1, h5, h6, not_true]
        refine ⟨m - 1, by omega, _, Sub.refl _, k + 1, rfl, by omega, by omega, rfl, fun i hi => ?_⟩
        by_cases hik : i = k
        · subst hik; exact hkk
        · exact hinv i (by omega)
      · simp (maxSteps := 300000) (disch := omega) only [gws, ↓reduceIte, reduceEqDiff, reduceToNat, reduceMul, reduceAdd, Nat.reduceBEq, isLd, hkk, not_false_eq_true]
        have : ¬ xs = ys := by rintro rfl; exact hkk rfl
        simpa [this] using hk
    · simp (maxSteps := 300000) (disch := omega) only [gws, ↓reduceIte, reduceEqDiff, reduceToNat, reduceMul, reduceAdd, Nat.reduceBEq, isLd, h0, h1, h5, h6, hlt]
      have : xs = ys := (list_eq_iff hne).2 fun i hi => hinv i (by omega)
      simpa [this] using hk
  · simp (maxSteps := 300000) (disch := omega) only [gws, ↓reduceIte, reduceEqDiff, reduceToNat, reduceMul, reduceAdd, Nat.reduceBEq, isLd, show ((xs.length : Int) = ys.length) = False by simp; omega, not_false_eq_true]
    have : ¬ xs = ys := by rintro rfl; exact hne rfl
    simpa [this] using hk
theorem spec_l00In_ok (a b c : Int) {G : GH} {K : Value → GH → Prop} (hk : K (.bool (decide (b ≤ a ∧ a ≤ c))) G) : GC Tryz.prog 129 [.int .i64 a, .int .i64 b, .int .i64 c] G K := by
  refine kui (by simp) ?_
  simp (maxSteps := 300000) (disch := omega) only [gws, ↓reduceIte, reduceEqDiff, reduceToNat, reduceMul, reduceAdd, Nat.reduceBEq, isLd]
  by_cases h1 : b ≤ a
  · simp (maxSteps := 300000) (disch := omega) only [gws, ↓reduceIte, reduceEqDiff, reduceToNat, reduceMul, reduceAdd, Nat.reduceBEq, isLd, h1]
    simpa [h1] using hk
  · simp (maxSteps := 300000) (disch := omega) only [gws, ↓reduceIte, reduceEqDiff, reduceToNat, reduceMul, reduceAdd, Nat.reduceBEq, isLd, h1]
    simpa [h1] using hk
theorem impl_within_ok (a b c : Int) {G : GH} {K : Value → GH → Prop} (hk : K (.bool (decide (b ≤ a ∧ a ≤ c))) G) : GC Tryz.prog 167 [.int .i64 a, .int .i64 b, .int .i64 c] G K := by
  refine kgy (by simp) ?_
  simp (maxSteps := 300000) (disch := omega) only [gws, ↓reduceIte, reduceEqDiff, reduceToNat, reduceMul, reduceAdd, Nat.reduceBEq, isLd]
  by_cases h1 : b ≤ a
  · simp (maxSteps := 300000) (disch := omega) only [gws, ↓reduceIte, reduceEqDiff, reduceToNat, reduceMul, reduceAdd, Nat.reduceBEq, isLd, h1]
    simpa [h1] using hk
  · simp (maxSteps := 300000) (disch := omega) only [gws, ↓reduceIte, reduceEqDiff, reduceToNat, reduceMul, reduceAdd, Nat.reduceBEq, isLd, h1]
    simpa [h1] using hk
def cmp3 (a b : Int) : Int := if a < b then -1 else if b < a then 1 else 0
theorem cmp_isNaN_ok (a : Int) {G : GH} {K : Value → GH → Prop} (hk : K (.bool false) G) : GC Tryz.prog 222 [.int .i64 a] G K := by
  refine k1k (by simp) ?_
  simp (maxSteps := 300000) (disch := omega) only [gws, ↓reduceIte, reduceEqDiff, reduceToNat, reduceMul, reduceAdd, Nat.reduceBEq, isLd]
  exact hk
theorem cmp_Compare_ok (a b : Int) {G : GH} {K : Value → GH → Prop} (hk : K (.int .i64 (cmp3 a b)) G) : GC Tryz.prog 220 [.int .i64 a, .int .i64 b] G K := by
  refine kx (by simp) ?_
  simp (maxSteps := 300000) (disch := omega) only [gws, ↓reduceIte, reduceEqDiff, reduceToNat, reduceMul, reduceAdd, Nat.reduceBEq, isLd]
  refine cmp_isNaN_ok _ ?_
  simp (maxSteps := 300000) (disch := omega) only [gws, ↓reduceIte, reduceEqDiff, reduceToNat, reduceMul, reduceAdd, Nat.reduceBEq, isLd]
  refine cmp_isNaN_ok _ ?_
  simp (maxSteps := 300000) (disch := omega) only [gws, ↓reduceIte, reduceEqDiff, reduceToNat, reduceMul, reduceAdd, Nat.reduceBEq, isLd]
  unfold cmp3 at hk
  by_cases h1 : a < b
  · simp (maxSteps := 300000) (disch := omega) only [gws, ↓reduceIte, reduceEqDiff, reduceToNat, reduceMul, reduceAdd, Nat.reduceBEq, isLd, h1]; rwa [if_pos h1] at hk
  · rw [if_neg h1] at hk
    simp (maxSteps := 300000) (disch := omega) only [gws, ↓reduceIte, reduceEqDiff, reduceToNat, reduceMul, reduceAdd, Nat.reduceBEq, isLd, h1]
    by_cases h2 : b < a
    · simp (maxSteps := 300000) (disch := omega) only [gws, ↓reduceIte, reduceEqDiff, reduceToNat, reduceMul, reduceAdd, Nat.reduceBEq, isLd, h2]; rwa [if_pos h2] at hk
    · simp (maxSteps := 300000) (disch := omega) only [gws, ↓reduceIte, reduceEqDiff, reduceToNat, reduceMul, reduceAdd, Nat.reduceBEq, isLd, h2]; rwa [if_neg h2] at hk
/-- cmp.Or of two numbers. -/
theorem cmp_Or_ok (a b : Int) {G : GH} {A : Option Addr} {c : Nat} (h0 : rd G A = some (.int .i64 a)) (h1 : rd G (pa A 1) = some (.int .i64 b)) {K : Value → GH → Prop} (hk : K (.int .i64 (if a = 0 then b else a)) G) : GC Tryz.prog 211 [.slice A 2 c] G K := by
  refine k1a (by simp) ?_
  have hsn := rd_some h0
  simp (maxSteps := 300000) (disch := omega) only [gws, ↓reduceIte, reduceEqDiff, reduceToNat, reduceMul, reduceAdd, Nat.reduceBEq, isLd]
  refine gLoop_intro (fun m T G' => ∃ k : Nat, T 3 = .int .i64 0 ∧ T 6 = .slice A 2 c ∧ T 7 = .int .i64 2 ∧ T 8 = .int .i64 k ∧ m + k = 2 ∧ G' = G ∧ (k = 1 → a = 0) ∧ (k = 2 → a = 0 ∧ b = 0)) 2 ⟨0, by simp (maxSteps := 300000) (disch := omega) only [gws, ↓reduceIte, reduceEqDiff, reduceToNat, reduceMul, reduceAdd, Nat.reduceBEq, isLd], by simp (maxSteps := 300000) (disch := omega) only [gws, ↓reduceIte, reduceEqDiff, reduceToNat, reduceMul, reduceAdd, Nat.reduceBEq, isLd], by simp (maxSteps := 300000) (disch := omega) only [gws, ↓reduceIte, reduceEqDiff, reduceToNat, reduceMul, reduceAdd, Nat.reduceBEq, isLd] <;> rfl, by simp (maxSteps := 300000) (disch := omega) only [gws, ↓reduceIte, reduceEqDiff, reduceToNat, reduceMul, reduceAdd, Nat.reduceBEq, isLd] <;> rfl, by omega, rfl, by omega, by omega⟩ ?_
  rintro m T G' ⟨k, e3, e6, e7, e8, hm, rfl, ha, hb⟩
  simp (maxSteps := 300000) (disch := omega) only [gws, ↓reduceIte, reduceEqDiff, reduceToNat, reduceMul, reduceAdd, Nat.reduceBEq, isLd, e3, e6, e7, e8]
  have hk2 : k = 0 ∨ k = 1 ∨ k = 2 := by omega
  rcases hk2 with rfl | rfl | rfl
  · simp (maxSteps := 300000) (disch := omega) only [gws, ↓reduceIte, reduceEqDiff, reduceToNat, reduceMul, reduceAdd, Nat.reduceBEq, isLd, e3, e6, e7, e8, Int.natCast_zero, Int.reduceLT, Int.le_refl, h0]
    cases hz : decide (¬ a = 0)
    · simp (maxSteps := 300000) (disch := omega) only [gws, ↓reduceIte, reduceEqDiff, reduceToNat, reduceMul, reduceAdd, Nat.reduceBEq, isLd, e3, e6, e7, e8]
      have hz : a = 0 := by simpa using hz
      exact ⟨m - 1, by omega, _, Sub.refl _, 1, rfl, by omega, rfl, fun _ => hz, by omega⟩
    · simp (maxSteps := 300000) (disch := omega) only [gws, ↓reduceIte, reduceEqDiff, reduceToNat, reduceMul, reduceAdd, Nat.reduceBEq, isLd]
      have hz : ¬ a = 0 := by simpa using hz
      rwa [if_neg hz] at hk
  · rw [if_pos (ha rfl)] at hk
    simp (maxSteps := 300000) (disch := omega) only [gws, ↓reduceIte, reduceEqDiff, reduceToNat, reduceMul, reduceAdd, Nat.reduceBEq, isLd, e3, e6, e7, e8, Int.natCast_one, Int.reduceLT, Int.le_refl, h1]
    cases hz : decide (¬ b = 0)
    · simp (maxSteps := 300000) (disch := omega) only [gws, ↓reduceIte, reduceEqDiff, reduceToNat, reduceMul, reduceAdd, Nat.reduceBEq, isLd, e3, e6, e7, e8]
      have hz : b = 0 := by simpa using hz
      exact ⟨m - 1, by omega, _, Sub.refl _, 2, rfl, by omega, rfl, by omega, fun _ => ⟨ha rfl, hz⟩⟩
    · simp (maxSteps := 300000) (disch := omega) only [gws, ↓reduceIte, reduceEqDiff, reduceToNat, reduceMul, reduceAdd, Nat.reduceBEq, isLd]
      exact hk
  · rw [if_pos (hb rfl).1, (hb rfl).2] at hk
    simp (maxSteps := 300000) (disch := omega) only [gws, ↓reduceIte, reduceEqDiff, reduceToNat, reduceMul, reduceAdd, Nat.reduceBEq, isLd, e3, e6, e7, e8, Int.reduceLT, show (((2 : Nat) : Int) < 2) = False by decide]
    exact hk
theorem impl_isElement_ok (a p : Int) {G : GH} {K : Value → GH → Prop} (hk : K (.bool (decide (0 ≤ a ∧ a ≤ IntKind.i64.wrap (p - 1)))) G) : GC Tryz.prog 155 [.int .i64 a, .int .i64 p] G K := by
  refine kbg (by simp) ?_
  simp (maxSteps := 300000) (disch := omega) only [gws, ↓reduceIte, reduceEqDiff, reduceToNat, reduceMul, reduceAdd, Nat.reduceBEq, isLd]
  refine impl_within_ok _ _ _ ?_
  simp (maxSteps := 300000) (disch := omega) only [gws, ↓reduceIte, reduceEqDiff, reduceToNat, reduceMul, reduceAdd, Nat.reduceBEq, isLd]
  exact hk
def Rise (xs : List Int) : Prop := ∀ i, i + 1 < xs.length → xs.getD i 0 < xs.getD (i + 1) 0
def InB (xs : List Int) (lo hi : Int) : Prop := ∀ i, i < xs.length → lo ≤ xs.getD i 0 ∧ xs.getD i 0 ≤ hi
theorem inB_mem {xs : List Int} {lo hi : Int} : InB xs lo hi ↔ ∀ x ∈ xs, lo ≤ x ∧ x ≤ hi := by
  constructor
  · intro h x hx
    obtain ⟨i, hi, rfl⟩ := List.getElem_of_mem hx
    simpa [List.getD, hi] using h i hi
  · intro h i hi
    exact h _ (by simp [List.getD, hi])
theorem spec_l00Rises_ok {G : GH} {A : Option Addr} {c : Nat} {xs : List Int} {lo hi : Int} (h : IntS G A c xs) (hl : xs.length < 2 ^ 40) {K : Value → GH → Prop}
    (hk : ∀ b : Bool, (b = true ↔ InB xs lo hi ∧ Rise xs) → K (.bool b) G) : GC Tryz.prog 109 [.slice A xs.length c, .int .i64 lo, .int .i64 hi] G K := by
  refine kuy (by simp) ?_
  have hsn := h.sn
  have r := h.rd
  have hno : ¬ (InB xs lo hi ∧ Rise xs) → K (.bool false) G := fun hx => hk false (by simp [hx])
  simp (maxSteps := 300000) (disch := omega) only [gws, ↓reduceIte, reduceEqDiff, reduceToNat, reduceMul, reduceAdd, Nat.reduceBEq, isLd]
  refine gLoop_intro (fun m T G' => ∃ k : Nat, T 0 = .slice A xs.length c ∧ T 1 = .int .i64 lo ∧ T 2 = .int .i64 hi ∧ T 7 = .int .i64 k ∧ m + k = xs.length ∧ k ≤ xs.length ∧ G' = G ∧ (∀ i, i < k → lo ≤ xs.getD i 0 ∧ xs.getD i 0 ≤ hi) ∧ ∀ i, i + 1 < k → xs.getD i 0 < xs.getD (i + 1) 0)
    xs.length ⟨0, by simp (maxSteps := 300000) (disch := omega) only [gws, ↓reduceIte, reduceEqDiff, reduceToNat, reduceMul, reduceAdd, Nat.reduceBEq, isLd], by simp (maxSteps := 300000) (disch := omega) only [gws, ↓reduceIte, reduceEqDiff, reduceToNat, reduceMul, reduceAdd, Nat.reduceBEq, isLd], by simp (maxSteps := 300000) (disch := omega) only [gws, ↓reduceIte, reduceEqDiff, reduceToNat, reduceMul, reduceAdd, Nat.reduceBEq, isLd], by simp (maxSteps := 300000) (disch := omega) only [gws, ↓reduceIte, reduceEqDiff, reduceToNat, reduceMul, reduceAdd, Nat.reduceBEq, isLd] <;> rfl, by omega, by omega, rfl, fun i hi => by omega, fun i hi => by omega⟩ ?_
  rintro m T G' ⟨k, e0, e1, e2, e7, hm, hkl, rfl, hin, hri⟩
  simp (maxSteps := 300000) (disch := omega) only [gws, ↓reduceIte, reduceEqDiff, reduceToNat, reduceMul, reduceAdd, Nat.reduceBEq, isLd, e0, e1, e2, e7]
  by_cases hkk : (k : Int) < xs.length
  · simp (maxSteps := 300000) (disch := omega) only [gws, ↓reduceIte, reduceEqDiff, reduceToNat, reduceMul, reduceAdd, Nat.reduceBEq, isLd, e0, e1, e2, e7, hkk, r]
    refine spec_l00In_ok _ _ _ ?_
    simp (maxSteps := 300000) (disch := omega) only [gws, ↓reduceIte, reduceEqDiff, reduceToNat, reduceMul, reduceAdd, Nat.reduceBEq, isLd, e0, e1, e2, e7, hkk, r]
    cases g1 : decide (lo ≤ xs.getD k 0 ∧ xs.getD k 0 ≤ hi)
    · simp (maxSteps := 300000) (disch := omega) only [gws, ↓reduceIte, reduceEqDiff, reduceToNat, reduceMul, reduceAdd, Nat.reduceBEq, isLd, e0, e1, e2, e7, hkk, r]
      have g1 := of_decide_eq_false g1
      exact hno fun hx => g1 (hx.1 k (by omega))
    · simp (maxSteps := 300000) (disch := omega) only [gws, ↓reduceIte, reduceEqDiff, reduceToNat, reduceMul, reduceAdd, Nat.reduceBEq, isLd, e0, e1, e2, e7, hkk, r]
      have g1 := of_decide_eq_true g1
      have hin' : ∀ i, i < k + 1 → lo ≤ xs.getD i 0 ∧ xs.getD i 0 ≤ hi := fun i hi => by
        by_cases hik : i = k
        · subst hik; exact g1
        · exact hin i (by omega)
      by_cases hk0 : (0 : Int) < k
      · simp (maxSteps := 300000) (disch := omega) only [gws, ↓reduceIte, reduceEqDiff, reduceToNat, reduceMul, reduceAdd, Nat.reduceBEq, isLd, e0, e1, e2, e7, hkk, hk0, r]
        by_cases g2 : xs.getD k 0 ≤ xs.getD ((k : Int) - 1).toNat 0
        · simp (maxSteps := 300000) (disch := omega) only [gws, ↓reduceIte, reduceEqDiff, reduceToNat, reduceMul, reduceAdd, Nat.reduceBEq, isLd, e0, e1, e2, e7, hkk, g2, r]
          exact hno fun hx => by
            have := hx.2 (k - 1) (by omega)
            rw [show k - 1 + 1 = k by omega, show k - 1 = ((k : Int) - 1).toNat by omega] at this
            omega
        · simp (maxSteps := 300000) (disch := omega) only [gws, ↓reduceIte, reduceEqDiff, reduceToNat, reduceMul, reduceAdd, Nat.reduceBEq, isLd, e0, e1, e2, e7, hkk, g2, r]
          refine ⟨m - 1, by omega, _, Sub.refl _, k + 1, rfl, by omega, by omega, rfl, hin', fun i hi => ?_⟩
          by_cases hik : i + 1 = k
          · rw [hik, show i = ((k : Int) - 1).toNat by omega]; omega
          · exact hri i (by omega)
      · simp (maxSteps := 300000) (disch := omega) only [gws, ↓reduceIte, reduceEqDiff, reduceToNat, reduceMul, reduceAdd, Nat.reduceBEq, isLd, e0, e1, e2, e7, hkk, hk0, r]
        exact ⟨m - 1, by omega, _, Sub.refl _, k + 1, rfl, by omega, by omega, rfl, hin', fun i hi => by omega⟩
  · simp (maxSteps := 300000) (disch := omega) only [gws, ↓reduceIte, reduceEqDiff, reduceToNat, reduceMul, reduceAdd, Nat.reduceBEq, isLd, e0, e1, e2, e7, hkk]
    exact hk true (by simp; exact ⟨fun i hi => hin i (by omega), fun i hi => hri i (by omega)⟩)
theorem impl_isRising_ok {G : GH} {A : Option Addr} {c : Nat} {xs : List Int} (h : IntS G A c xs) (hl : xs.length < 2 ^ 40) {K : Value → GH → Prop}
    (hk : ∀ b : Bool, (b = true ↔ Rise xs) → K (.bool b) G) : GC Tryz.prog 101 [.slice A xs.length c] G K := by
  refine kbr (by simp) ?_
  have hsn := h.sn
  have r := h.rd
  simp (maxSteps := 300000) (disch := omega) only [gws, ↓reduceIte, reduceEqDiff, reduceToNat, reduceMul, reduceAdd, Nat.reduceBEq, isLd]
  refine gLoop_intro (fun m T G' => ∃ k : Nat, T 0 = .slice A xs.length c ∧ T 3 = .int .i64 k ∧ m + k = xs.length + 1 ∧ 1 ≤ k ∧ G' = G ∧ ∀ i, i + 1 < k → i + 1 < xs.length → xs.getD i 0 < xs.getD (i + 1) 0)
    xs.length ⟨1, by simp (maxSteps := 300000) (disch := omega) only [gws, ↓reduceIte, reduceEqDiff, reduceToNat, reduceMul, reduceAdd, Nat.reduceBEq, isLd], by simp (maxSteps := 300000) (disch := omega) only [gws, ↓reduceIte, reduceEqDiff, reduceToNat, reduceMul, reduceAdd, Nat.reduceBEq, isLd] <;> rfl, by omega, by omega, rfl, fun i hi => by omega⟩ ?_
  rintro m T G' ⟨k, e0, e3, hm, hkl, rfl, hri⟩
  simp (maxSteps := 300000) (disch := omega) only [gws, ↓reduceIte, reduceEqDiff, reduceToNat, reduceMul, reduceAdd, Nat.reduceBEq, isLd, e0, e3]
  by_cases hkk : (k : Int) < xs.length
  · simp (maxSteps := 300000) (disch := omega) only [gws, ↓reduceIte, reduceEqDiff, reduceToNat, reduceMul, reduceAdd, Nat.reduceBEq, isLd, e0, e3, hkk, r]
    by_cases g2 : xs.getD k 0 ≤ xs.getD ((k : Int) - 1).toNat 0
    · simp (maxSteps := 300000) (disch := omega) only [gws, ↓reduceIte, reduceEqDiff, reduceToNat, reduceMul, reduceAdd, Nat.reduceBEq, isLd, e0, e3, hkk, g2, r]
      refine hk false ?_
      simp
      exact fun hx => by
        have := hx (k - 1) (by omega)
        rw [show k - 1 + 1 = k by omega, show k - 1 = ((k : Int) - 1).toNat by omega] at this
        omega
    · simp (maxSteps := 300000) (disch := omega) only [gws, ↓reduceIte, reduceEqDiff, reduceToNat, reduceMul, reduceAdd, Nat.reduceBEq, isLd, e0, e3, hkk, g2, r]
      refine ⟨m - 1, by omega, _, Sub.refl _, k + 1, rfl, by omega, by omega, rfl, fun i hi hi' => ?_⟩
      by_cases hik : i + 1 = k
      · rw [hik, show i = ((k : Int) - 1).toNat by omega]; omega
      · exact hri i (by omega) hi'
  · simp (maxSteps := 300000) (disch := omega) only [gws, ↓reduceIte, reduceEqDiff, reduceToNat, reduceMul, reduceAdd, Nat.reduceBEq, isLd, e0, e3, hkk]
    exact hk true (by simp; exact fun i hi => hri i (by omega) hi)
theorem impl_areElements_ok {G : GH} {A : Option Addr} {c : Nat} {xs : List Int} {p : Int} (h : IntS G A c xs) (hl : xs.length < 2 ^ 40) {K : Value → GH → Prop}
    (hk : ∀ b : Bool, (b = true ↔ InB xs 0 (IntKind.i64.wrap (p - 1))) → K (.bool b) G) : GC Tryz.prog 102 [.slice A xs.length c, .int .i64 p] G K := by
  refine GC_drop (k58 (by simp) ?_)
  simp (maxSteps := 300000) (disch := omega) only [gws, ↓reduceIte, reduceEqDiff, reduceToNat, reduceMul, reduceAdd, Nat.reduceBEq, isLd]
  intro b1 hb1
  simp (maxSteps := 300000) (disch := omega) only [gws, ↓reduceIte, reduceEqDiff, reduceToNat, reduceMul, reduceAdd, Nat.reduceBEq, isLd]
  have s1 := Sub.put hb1 ⟨[.int .i64 p], true⟩
  refine slices_ContainsFunc_ok (fun n => !decide (0 ≤ n ∧ n ≤ IntKind.i64.wrap (p - 1))) (h.sub s1) hl (fun i hi K' hK' => ?_) ?_
  · simp (maxSteps := 300000) (disch := omega) only [gws, ↓reduceIte, reduceEqDiff, reduceToNat, reduceMul, reduceAdd, Nat.reduceBEq, isLd]
    refine k5d (by simp) ?_
    simp (maxSteps := 300000) (disch := omega) only [gws, ↓reduceIte, reduceEqDiff, reduceToNat, reduceMul, reduceAdd, Nat.reduceBEq, isLd]
    refine impl_isElement_ok _ _ ?_
    simp (maxSteps := 300000) (disch := omega) only [gws, ↓reduceIte, reduceEqDiff, reduceToNat, reduceMul, reduceAdd, Nat.reduceBEq, isLd]
    exact hK'
  · generalize hany : (xs.any fun n => !decide (0 ≤ n ∧ n ≤ IntKind.i64.wrap (p - 1))) = bb
    simp (maxSteps := 300000) (disch := omega) only [gws, ↓reduceIte, reduceEqDiff, reduceToNat, reduceMul, reduceAdd, Nat.reduceBEq, isLd]
    refine ⟨G, s1, hk _ ?_⟩
    rw [inB_mem]
    cases bb
    · rw [List.any_eq_false] at hany
      simp
      exact fun x hx => by simpa using hany x hx
    · rw [List.any_eq_true] at hany
      obtain ⟨x, hx, hy⟩ := hany
      simp
      exact ⟨x, hx, fun h0 => by rcases (by simpa using hy : x < 0 ∨ IntKind.i64.wrap (p - 1) < x) with h | h <;> omega⟩
/-- two lists of integers, compared place by place. -/
def lexC : List Int → List Int → Int
  | [], [] => 0
  | [], _ :: _ => -1
  | _ :: _, [] => 1
  | x :: xs, y :: ys => if cmp3 x y = 0 then lexC xs ys else cmp3 x y
theorem drop_cons {xs : List Int} {k : Nat} (h : k < xs.length) : xs.drop k = xs.getD k 0 :: xs.drop (k + 1) := by
  rw [List.drop_eq_getElem_cons h]; simp [List.getD, h]
theorem lexC_drop {xs ys : List Int} : ∀ k : Nat, k ≤ xs.length → k ≤ ys.length → (∀ i, i < k → xs.getD i 0 = ys.getD i 0) → lexC xs ys = lexC (xs.drop k) (ys.drop k)
  | 0, _, _, _ => by simp
  | k + 1, h1, h2, h => by
    rw [lexC_drop k (by omega) (by omega) fun i hi => h i (by omega), drop_cons (show k < xs.length by omega), drop_cons (show k < ys.length by omega)]
    have := h k (by omega)
    rw [lexC, if_pos (by rw [this]; simp [cmp3])]
theorem lexC_at {xs ys : List Int} {k : Nat} (h1 : k < xs.length) (h2 : k < ys.length) (h : ∀ i, i < k → xs.getD i 0 = ys.getD i 0) (hne : cmp3 (xs.getD k 0) (ys.getD k 0) ≠ 0) : lexC xs ys = cmp3 (xs.getD k 0) (ys.getD k 0) := by
  rw [lexC_drop k (by omega) (by omega) h, drop_cons h1, drop_cons h2, lexC, if_neg hne]
theorem lexC_end {xs ys : List Int} (h : xs.length ≤ ys.length) (he : ∀ i, i < xs.length → xs.getD i 0 = ys.getD i 0) : lexC xs ys = if xs.length < ys.length then -1 else 0 := by
  rw [lexC_drop xs.length (by omega) h he, List.drop_length]
  by_cases hl : xs.length < ys.length
  · rw [drop_cons hl, lexC, if_pos hl]
  · rw [List.drop_eq_nil_of_le (show ys.length ≤ xs.length by omega), lexC, if_neg hl]
theorem lexC_long {xs ys : List Int} (h : ys.length < xs.length) (he : ∀ i, i < ys.length → xs.getD i 0 = ys.getD i 0) : lexC xs ys = 1 := by
  rw [lexC_drop ys.length (by omega) (by omega) he, List.drop_length, drop_cons h, lexC]
theorem cmp3_zero {a b : Int} : cmp3 a b = 0 ↔ a = b := by unfold cmp3; split <;> (try split) <;> omega
theorem cmp3_neg {a b : Int} : cmp3 a b < 0 ↔ a < b := by unfold cmp3; split <;> (try split) <;> omega
theorem slices_Compare_ok {G : GH} {A B : Option Addr} {c d : Nat} {xs ys : List Int} (h : IntS G A c xs) (h' : IntS G B d ys) (hl : xs.length < 2 ^ 40) (hl' : ys.length < 2 ^ 40) {K : Value → GH → Prop}
    (hk : K (.int .i64 (lexC xs ys)) G) : GC Tryz.prog 213 [.slice A xs.length c, .slice B ys.length d] G K := by
  refine kro (by simp) ?_
  have hsn := h.sn
  have r := h.rd
  have hsn' := h'.sn
  have r' := h'.rd
  simp (maxSteps := 300000) (disch := omega) only [gws, ↓reduceIte, reduceEqDiff, reduceToNat, reduceMul, reduceAdd, Nat.reduceBEq, isLd]
  refine gLoop_intro (fun m T G' => ∃ k : Nat, T 0 = .slice A xs.length c ∧ T 1 = .slice B ys.length d ∧ T 9 = .slice A xs.length c ∧ T 10 = .int .i64 xs.length ∧ T 11 = .int .i64 k ∧ m + k = xs.length ∧ k ≤ xs.length ∧ k ≤ ys.length ∧ G' = G ∧ ∀ i, i < k → xs.getD i 0 = ys.getD i 0) xs.length
    ⟨0, by simp (maxSteps := 300000) (disch := omega) only [gws, ↓reduceIte, reduceEqDiff, reduceToNat, reduceMul, reduceAdd, Nat.reduceBEq, isLd], by simp (maxSteps := 300000) (disch := omega) only [gws, ↓reduceIte, reduceEqDiff, reduceToNat, reduceMul, reduceAdd, Nat.reduceBEq, isLd], by simp (maxSteps := 300000) (disch := omega) only [gws, ↓reduceIte, reduceEqDiff, reduceToNat, reduceMul, reduceAdd, Nat.reduceBEq, isLd], by simp (maxSteps := 300000) (disch := omega) only [gws, ↓reduceIte, reduceEqDiff, reduceToNat, reduceMul, reduceAdd, Nat.reduceBEq, isLd], by simp (maxSteps := 300000) (disch := omega) only [gws, ↓reduceIte, reduceEqDiff, reduceToNat, reduceMul, reduceAdd, Nat.reduceBEq, isLd] <;> rfl, by omega, by omega, by omega, rfl, fun i hi => by omega⟩ ?_
  rintro m T G' ⟨k, e0, e1, e9, e10, e11, hm, hkl, hky, rfl, hin⟩
  simp (maxSteps := 300000) (disch := omega) only [gws, ↓reduceIte, reduceEqDiff, reduceToNat, reduceMul, reduceAdd, Nat.reduceBEq, isLd, e0, e1, e9, e10, e11]
  by_cases hkk : (k : Int) < xs.length
  · simp (maxSteps := 300000) (disch := omega) only [gws, ↓reduceIte, reduceEqDiff, reduceToNat, reduceMul, reduceAdd, Nat.reduceBEq, isLd, e0, e1, e9, e10, e11, hkk, r]
    by_cases hy : (ys.length : Int) ≤ k
    · simp (maxSteps := 300000) (disch := omega) only [gws, ↓reduceIte, reduceEqDiff, reduceToNat, reduceMul, reduceAdd, Nat.reduceBEq, isLd, hy, e0, e1, e9, e10, e11]
      rw [lexC_long (by omega) fun i hi => hin i (by omega)] at hk
      exact hk
    · simp (maxSteps := 300000) (disch := omega) only [gws, ↓reduceIte, reduceEqDiff, reduceToNat, reduceMul, reduceAdd, Nat.reduceBEq, isLd, hy, e0, e1, e9, e10, e11, r']
      refine cmp_Compare_ok _ _ ?_
      simp (maxSteps := 300000) (disch := omega) only [gws, ↓reduceIte, reduceEqDiff, reduceToNat, reduceMul, reduceAdd, Nat.reduceBEq, isLd, e0, e1, e9, e10, e11]
      by_cases hc : cmp3 (xs.getD k 0) (ys.getD k 0) = 0
      · simp (maxSteps := 300000) (disch := omega) only [gws, ↓reduceIte, reduceEqDiff, reduceToNat, reduceMul, reduceAdd, Nat.reduceBEq, isLd, eq_true hc, e0, e1, e9, e10, e11]
        refine ⟨m - 1, by omega, _, Sub.refl _, k + 1, rfl, by omega, by omega, by omega, rfl, fun i hi => ?_⟩
        by_cases hik : i = k
        · subst hik; exact cmp3_zero.1 hc
        · exact hin i (by omega)
      · simp (maxSteps := 300000) (disch := omega) only [gws, ↓reduceIte, reduceEqDiff, reduceToNat, reduceMul, reduceAdd, Nat.reduceBEq, isLd, eq_false hc, e0, e1, e9, e10, e11]
        rw [lexC_at (by omega) (by omega) hin hc] at hk
        exact hk
  · simp (maxSteps := 300000) (disch := omega) only [gws, ↓reduceIte, reduceEqDiff, reduceToNat, reduceMul, reduceAdd, Nat.reduceBEq, isLd, e0, e1, e9, e10, e11, hkk]
    rw [lexC_end (by omega) fun i hi => hin i (by omega)] at hk
    by_cases hlt : (xs.length : Int) < ys.length
    · simp (maxSteps := 300000) (disch := omega) only [gws, ↓reduceIte, reduceEqDiff, reduceToNat, reduceMul, reduceAdd, Nat.reduceBEq, isLd, hlt]
      rwa [if_pos (by omega)] at hk
    · simp (maxSteps := 300000) (disch := omega) only [gws, ↓reduceIte, reduceEqDiff, reduceToNat, reduceMul, reduceAdd, Nat.reduceBEq, isLd, hlt]
      rwa [if_neg (by omega)] at hk
theorem lexC_cons_neg {x y : Int} {xs ys : List Int} : lexC (x :: xs) (y :: ys) < 0 ↔ x < y ∨ (x = y ∧ lexC xs ys < 0) := by
  rw [lexC]
  split
  · next h => have := cmp3_zero.1 h; constructor
              · intro k; exact .inr ⟨this, k⟩
              · rintro (k | k)
                · omega
                · exact k.2
  · next h => rw [cmp3_neg]; constructor
              · intro k; exact .inl k
              · rintro (k | k)
                · exact k
                · exact absurd (cmp3_zero.2 k.1) h
theorem lexC_cons_zero {x y : Int} {xs ys : List Int} : lexC (x :: xs) (y :: ys) = 0 ↔ x = y ∧ lexC xs ys = 0 := by
  rw [lexC]
  split
  · next h => have := cmp3_zero.1 h; exact ⟨fun k => ⟨this, k⟩, fun k => k.2⟩
  · next h => exact ⟨fun k => absurd k h, fun k => absurd (cmp3_zero.2 k.1) h⟩
theorem lexC_zero : ∀ {xs ys : List Int}, lexC xs ys = 0 ↔ xs = ys
  | [], [] => by simp [lexC]
  | [], y :: ys => by simp [lexC]
  | x :: xs, [] => by simp [lexC]
  | x :: xs, y :: ys => by rw [lexC_cons_zero, lexC_zero]; simp
theorem lexC_trans : ∀ {xs ys zs : List Int}, lexC xs ys < 0 → lexC ys zs < 0 → lexC xs zs < 0
  | [], [], _, h, _ => by simp [lexC] at h
  | [], _ :: _, [], _, h => by simp [lexC] at h
  | [], _ :: _, _ :: _, _, _ => by rw [lexC]; decide
  | _ :: _, [], _, h, _ => by simp [lexC] at h
  | _ :: _, _ :: _, [], _, h => by simp [lexC] at h
  | x :: xs, y :: ys, z :: zs, h, k => by
    rw [lexC_cons_neg] at h k ⊢
    rcases h with h | ⟨h, h'⟩
    · rcases k with k | ⟨k, k'⟩
      · exact .inl (by omega)
      · exact .inl (by omega)
    · rcases k with k | ⟨k, k'⟩
      · exact .inl (by omega)
      · exact .inr ⟨by omega, lexC_trans h' k'⟩
theorem laws_heldInt64S_ok {G : GH} {A : Option Addr} {c n : Nat} {k : Int} (h : IntS G A c (marks k n)) (hn : n ≤ 2 ^ 40) (hk0 : 0 ≤ k ∧ k ≤ 2 ^ 40) {K : Value → GH → Prop}
    (hk : K (.int .i64 (k + n)) G) : GC Tryz.prog 20 [.slice A n c, .int .i64 k] G K := by
  refine kln (by simp) ?_
  have hsn := h.sn
  have r : ∀ i, i < n → rd G (pa A i) = some (.int .i64 (k + i)) := fun i hi => by rw [h.rd i (by rw [marks_len]; exact hi), marks_get _ _ _ hi]
  rw [marks_len] at hsn
  simp (maxSteps := 300000) (disch := omega) only [gws, ↓reduceIte, reduceEqDiff, reduceToNat, reduceMul, reduceAdd, Nat.reduceBEq, isLd]
  refine gLoop_intro (fun m T G' => ∃ j : Nat, T 0 = .slice A n c ∧ T 1 = .int .i64 (k + j) ∧ T 5 = .int .i64 j ∧ m + j = n ∧ j ≤ n ∧ G' = G) n
    ⟨0, by simp (maxSteps := 300000) (disch := omega) only [gws, ↓reduceIte, reduceEqDiff, reduceToNat, reduceMul, reduceAdd, Nat.reduceBEq, isLd], by simp (maxSteps := 300000) (disch := omega) only [gws, ↓reduceIte, reduceEqDiff, reduceToNat, reduceMul, reduceAdd, Nat.reduceBEq, isLd] <;> simp, by simp (maxSteps := 300000) (disch := omega) only [gws, ↓reduceIte, reduceEqDiff, reduceToNat, reduceMul, reduceAdd, Nat.reduceBEq, isLd] <;> rfl, by omega, by omega, rfl⟩ ?_
  rintro m T G' ⟨j, e0, e1, e5, hm, hjn, rfl⟩
  simp (maxSteps := 300000) (disch := omega) only [gws, ↓reduceIte, reduceEqDiff, reduceToNat, reduceMul, reduceAdd, Nat.reduceBEq, isLd, e0, e1, e5]
  by_cases hj : (j : Int) < n
  · simp (maxSteps := 300000) (disch := omega) only [gws, ↓reduceIte, reduceEqDiff, reduceToNat, reduceMul, reduceAdd, Nat.reduceBEq, isLd, e0, e1, e5, hj, r, eq_self]
    exact ⟨m - 1, by omega, _, Sub.refl _, j + 1, by congr 1; omega, rfl, by omega, by omega, rfl⟩
  · simp (maxSteps := 300000) (disch := omega) only [gws, ↓reduceIte, reduceEqDiff, reduceToNat, reduceMul, reduceAdd, Nat.reduceBEq, isLd, e0, e1, e5, hj]
    obtain rfl : j = n := by omega
    exact hk
theorem laws_markInt64S_ok {G : GH} {A : Option Addr} {c n : Nat} {k : Int} {cs : List Value} (h : Own G A c cs 1 n) (hn : n ≤ 2 ^ 40) (hk0 : 0 ≤ k ∧ k ≤ 2 ^ 40) {K : Value → GH → Prop}
    (hk : ∀ G', Upd G G' A → Own G' A c ((marks k n).map I64) 1 n → K (.int .i64 (k + n)) G') : GC Tryz.prog 19 [.slice A n c, .int .i64 k] G K := by
  refine km4 (by simp) ?_
  simp (maxSteps := 300000) (disch := omega) only [gws, ↓reduceIte, reduceEqDiff, reduceToNat, reduceMul, reduceAdd, Nat.reduceBEq, isLd]
  rcases h with ⟨rfl, rfl, rfl, rfl⟩ | ⟨b, rs, rfl, hb, hl, hc, hnc⟩
  · refine gLoop_intro (fun m T G' => T 0 = .slice none 0 0 ∧ T 1 = .int .i64 k ∧ T 5 = .int .i64 0 ∧ G' = G) 0 ⟨by simp (maxSteps := 300000) (disch := omega) only [gws, ↓reduceIte, reduceEqDiff, reduceToNat, reduceMul, reduceAdd, Nat.reduceBEq, isLd], by simp (maxSteps := 300000) (disch := omega) only [gws, ↓reduceIte, reduceEqDiff, reduceToNat, reduceMul, reduceAdd, Nat.reduceBEq, isLd], by simp (maxSteps := 300000) (disch := omega) only [gws, ↓reduceIte, reduceEqDiff, reduceToNat, reduceMul, reduceAdd, Nat.reduceBEq, isLd], rfl⟩ ?_
    rintro m T G' ⟨e0, e1, e5, rfl⟩
    simp (maxSteps := 300000) (disch := omega) only [gws, ↓reduceIte, reduceEqDiff, reduceToNat, reduceMul, reduceAdd, Nat.reduceBEq, isLd, e0, e1, e5, Int.natCast_zero, Int.lt_irrefl]
    have := hk G' (.inl rfl) (.inl ⟨rfl, rfl, rfl, rfl⟩)
    simpa using this
  · refine gLoop_intro (fun m T G' => ∃ j : Nat, T 0 = .slice (some ⟨b, 0, none⟩) n c ∧ T 1 = .int .i64 (k + j) ∧ T 5 = .int .i64 j ∧ m + j = n ∧ j ≤ n ∧ G' = put G b ⟨(marks k j).map I64 ++ (cs.drop j ++ rs), true⟩) n
      ⟨0, by simp (maxSteps := 300000) (disch := omega) only [gws, ↓reduceIte, reduceEqDiff, reduceToNat, reduceMul, reduceAdd, Nat.reduceBEq, isLd], by simp (maxSteps := 300000) (disch := omega) only [gws, ↓reduceIte, reduceEqDiff, reduceToNat, reduceMul, reduceAdd, Nat.reduceBEq, isLd] <;> simp, by simp (maxSteps := 300000) (disch := omega) only [gws, ↓reduceIte, reduceEqDiff, reduceToNat, reduceMul, reduceAdd, Nat.reduceBEq, isLd] <;> rfl, by omega, by omega, by simp [marks, put_self hb]⟩ ?_
    rintro m T G' ⟨j, e0, e1, e5, hm, hjn, rfl⟩
    simp (maxSteps := 300000) (disch := omega) only [gws, ↓reduceIte, reduceEqDiff, reduceToNat, reduceMul, reduceAdd, Nat.reduceBEq, isLd, e0, e1, e5]
    by_cases hj : (j : Int) < n
    · simp (maxSteps := 300000) (disch := omega) only [gws, ↓reduceIte, reduceEqDiff, reduceToNat, reduceMul, reduceAdd, Nat.reduceBEq, isLd, e0, e1, e5, hj]
      refine st_one (put_same _ _ _) (by simp [marks]; simp at hc; omega) rfl ?_
      simp (maxSteps := 300000) (disch := omega) only [gws, ↓reduceIte, reduceEqDiff, reduceToNat, reduceMul, reduceAdd, Nat.reduceBEq, isLd, e0, e1, e5, put_put']
      refine ⟨m - 1, by omega, _, Sub.refl _, j + 1, by congr 1; omega, rfl, by omega, by omega, ?_⟩
      congr 2
      have hd : cs.drop j = cs[j]'(by omega) :: cs.drop (j + 1) := List.drop_eq_getElem_cons (by omega)
      rw [List.set_append_right _ _ (by simp [marks])]
      simp [marks, List.range_succ, I64]
      rw [hd, List.cons_append, List.set_cons_zero]
    · simp (maxSteps := 300000) (disch := omega) only [gws, ↓reduceIte, reduceEqDiff, reduceToNat, reduceMul, reduceAdd, Nat.reduceBEq, isLd, e0, e1, e5, hj]
      obtain rfl : j = n := by omega
      refine hk _ (.inr ⟨b, _, rfl, by rw [hb]; simp, rfl⟩) (.inr ⟨b, cs.drop j ++ rs, rfl, put_same _ _ _, by simp [marks], ?_, hnc⟩)
      rw [List.drop_eq_nil_of_le (by omega), List.nil_append]
      simp [marks] at hc ⊢; omega
theorem own_ne {G : GH} {A : Option Addr} {c sz n : Nat} {cs : List Value} (h : Own G A c cs sz n) : ∀ a, A = some a → G a.block ≠ none := fun a ha => by
  rcases h with ⟨h, _⟩ | ⟨b, r, h1, h2, _⟩
  · rw [h] at ha; cases ha
  · rw [h1] at ha; cases ha; rw [h2]; simp
theorem laws_toInt64S_new {G : GH} {A : Option Addr} {c : Nat} {N : List Int} (h : IntS G A c N) (hl : N.length ≤ 2 ^ 20) {K : Value → GH → Prop}
    (hk : ∀ A' G', New G G' A' N.length (N.map I64) 1 N.length → K (.slice A' N.length N.length) G') : GC Tryz.prog 14 [.slice A N.length c] G K :=
  laws_toInt64S_ok h hl fun b hb => hk _ _ (New.mk hb _ 1 _ (by simp))
theorem Own.t3 {G : GH} {A : Option Addr} {c : Nat} {es : List T3} (h : Own G A c (flat3 es) 3 es.length) : T3S G A c es := h.cells.t3 h.cap
theorem Own.mk {G : GH} {A : Option Addr} {c n : Nat} {k : Int} (h : Own G A c ((marks k n).map I64) 1 n) : IntS G A c (marks k n) := ⟨by rw [marks_len]; exact h.cap, cells_int' h.cells⟩
/-- a box of one's own is a memory apart. -/
theorem box_rest {G : GH} {b : Nat} {cs : List Value} (hb : G b = none) : ∀ (k : Nat) v, cs[k]? = some v → rd (rest G (put G b ⟨cs, true⟩)) (some ⟨b, k, none⟩) = some v := fun k v hv => by
  have : rest G (put G b ⟨cs, true⟩) b = some ⟨cs, true⟩ := rest_some.2 ⟨hb, put_same _ _ _⟩
  simp [rd, this, hv]
theorem Own.len {G : GH} {A : Option Addr} {c sz n : Nat} {cs : List Value} (h : Own G A c cs sz n) : cs.length = n * sz := by
  rcases h with ⟨_, _, rfl, rfl⟩ | ⟨b, r, _, _, h, _⟩
  · simp
  · exact h
theorem ap_own {G : GH} {A B : Option Addr} {c n m d sz bytes : Nat} {z cs news : List Value} {K : Value → GH → Prop} (h : Own G A c cs sz n) (hnews : Cells G B news) (hm : news.length = m * sz) (h1 : ∀ v ∈ news, oneB v = true)
    (hz : z.length = sz) (hsz : 0 < sz) (hb : bytes ≤ 4096) (hlen : n + m < 2 ^ 33) (hk : ∀ G' A' c', Own G' A' c' (cs ++ news) sz (n + m) → (∀ H, Sub H G → Off H A → Sub H G' ∧ Off H A') → K (.slice A' (n + m) c') G') :
    gAp sz bytes z (.slice A n c) (.slice B m d) G K := by
  refine ⟨A, n, c, B, m, d, cs, news, rfl, rfl, h.len, fun j v hj => h.cells j v hj, hm, hnews, h1, ?_, by omega, fun hle => ?_, fun hlt b c' hb hc => ?_⟩
  · have : 2 * (n + m) * bytes ≤ 2 * 2 ^ 33 * 4096 := Nat.mul_le_mul (by omega) hb
    omega
  · rcases h with ⟨rfl, rfl, rfl, rfl⟩ | ⟨b, rest, rfl, hb, hcs, hrest, hnc⟩
    · obtain rfl : m = 0 := by omega
      have hn : news = [] := by simpa using hm
      subst hn
      exact .inl ⟨rfl, G, Sub.refl _, hk G none 0 (.inl ⟨rfl, rfl, rfl, rfl⟩) fun H s o => ⟨s, o⟩⟩
    · have hfit : (n + m) * sz ≤ c * sz := Nat.mul_le_mul_right _ hle
      rw [List.length_append] at hrest
      have hfit' := hfit
      rw [Nat.add_mul] at hfit'
      have ho : over (cs ++ rest) (0 + n * sz) news = cs ++ news ++ rest.drop news.length := by
        have := over_app news cs rest
        rw [if_pos (by omega)] at this
        rw [Nat.zero_add, ← hcs]; exact this
      refine .inr ⟨b, 0, cs ++ rest, rfl, hb, by rw [List.length_append]; omega, _, Sub.refl _, hk _ _ _ (.inr ⟨b, rest.drop news.length, rfl, by rw [put_same, ho], by simp [hcs, hm, Nat.add_mul], ?_, hle⟩) fun H s o => ⟨s.skip (o _ rfl), o⟩⟩
      simp only [List.length_append, List.length_drop]
      omega
  · have hcs := h.len
    refine ⟨_, Sub.refl _, hk _ _ _ (.inr ⟨b, zc z (c' - (n + m)), rfl, put_same _ _ _, by simp [hcs, hm, Nat.add_mul], ?_, hc⟩) fun H s o => ⟨s.skip (s.none hb), fun a ha => by cases ha; exact s.none hb⟩⟩
    have e1 : (zc z (c' - (n + m))).length = (c' - (n + m)) * sz := by simp [zc, hz]
    rw [List.length_append, e1, List.length_append, hcs, hm, ← Nat.add_mul, ← Nat.add_mul]
    congr 1; omega
theorem New.low {G H G' : GH} {A : Option Addr} {c sz n : Nat} {cs : List Value} (h : New G G' A c cs sz n) (s : Sub H G) : ∃ G'', Sub G'' G' ∧ New H G'' A c cs sz n := by
  rcases h with ⟨h1, h2, h3, h4, rfl⟩ | ⟨b, r, h1, h2, rfl, h3⟩
  · exact ⟨H, s, .inl ⟨h1, h2, h3, h4, rfl⟩⟩
  · exact ⟨put H b ⟨cs ++ r, true⟩, Sub.both s, .inr ⟨b, r, h1, s.none h2, rfl, h3⟩⟩
theorem Own.new {G H : GH} {A : Option Addr} {c sz n : Nat} {cs : List Value} (h : Own G A c cs sz n) (s : Sub H G) (o : Off H A) : ∃ G'', Sub G'' G ∧ New H G'' A c cs sz n := by
  rcases h with ⟨h1, h2, h3, h4⟩ | ⟨b, r, h1, h2, h3⟩
  · exact ⟨H, s, .inl ⟨h1, h2, h3, h4, rfl⟩⟩
  · exact ⟨put H b ⟨cs ++ r, true⟩, Sub.of_put s h2, .inr ⟨b, r, h1, o _ h1, rfl, h3⟩⟩
theorem Own.blk {G : GH} {b : Nat} {cs : List Value} {sz n : Nat} (h : G b = some ⟨cs, true⟩) (hl : cs.length = n * sz) : Own G (some ⟨b, 0, none⟩) n cs sz n :=
  .inr ⟨b, [], rfl, by simpa using h, hl, by simpa using hl, Nat.le_refl _⟩
theorem New.fresh {G G' : GH} {A : Option Addr} {c sz n : Nat} {cs : List Value} (h : New G G' A c cs sz n) : Own G' A c cs sz n := h.own.sub (Sub.rest _ _)
theorem blk_ne {G : GH} {a b : Nat} {e : Ent} (h : G a = some e) (k : G b = none) : a ≠ b := fun x => by rw [x, k] at h; cases h
theorem Own.ints' {G : GH} {A : Option Addr} {c n : Nat} {xs : List Int} (h : Own G A c (xs.map I64) 1 n) (hn : n = xs.length) : IntS G A c xs := by subst hn; exact h.ints
theorem Off.nil (H : GH) : Off H none := fun a ha => by cases ha
theorem Own.cast {G : GH} {A : Option Addr} {c sz n : Nat} {cs cs' : List Value} (h : Own G A c cs sz n) (e : cs = cs') {n' : Nat} (en : n = n') : Own G A c cs' sz n' := e ▸ en ▸ h
theorem Own.nil (G : GH) (sz : Nat) : Own G none 0 [] sz 0 := .inl ⟨rfl, rfl, rfl, rfl⟩
/-- the cells of a list, one at a place. -/
theorem ints_get (xs : List Int) (k : Nat) (h : k < xs.length) : (xs.map I64)[k]? = some (.int .i64 (xs.getD k 0)) := by simp [List.getD, h, I64]
theorem New.sn {G G' : GH} {A : Option Addr} {c sz n : Nat} {cs : List Value} (h : New G G' A c cs sz n) (hn : 0 < n) : 0 < Gh.sn A := by
  rcases h with ⟨_, _, h0, _, _⟩ | ⟨b, r, rfl, _⟩
  · omega
  · simp [Gh.sn]
/-- a cell of a new list is written. -/
theorem New.store {G G' : GH} {A : Option Addr} {c n : Nat} {cs : List Value} (h : New G G' A c cs 1 n) {k : Nat} {v : Value} {K : Value → GH → Prop} (hk : k < n) (hv : oneB v = true) (hK : ∀ G'', New G G'' A c (cs.set k v) 1 n → K undef G'') : gSt 1 (.pointer (pa A k)) v G' K := by
  rcases h with ⟨_, _, h0, _, _⟩ | ⟨b, r, rfl, h2, rfl, h3, h4, h5⟩
  · omega
  · rw [pa_mk, Nat.zero_add]
    refine st_one (put_same _ _ _) (by rw [h4]; omega) hv ?_
    rw [put_put', List.set_append_left _ _ (by omega)]
    exact hK _ (.inr ⟨b, r, rfl, h2, rfl, by simpa using h3, by simpa using h4, h5⟩)
/-- a list of lists, each in a block of its own. -/
structure OwnR (G : GH) (B : Option Addr) (d : Nat) (hs : Nat → Option Addr × Nat) (xss : List (List Int)) : Prop where
  out : Own G B d ((List.range xss.length).map fun i => Value.slice (hs i).1 (xss.getD i []).length (hs i).2) 1 xss.length
  row : ∀ i, i < xss.length → Own G (hs i).1 (hs i).2 ((xss.getD i []).map I64) 1 (xss.getD i []).length
  ne : ∀ i, i < xss.length → ∀ a b, (hs i).1 = some a → B = some b → a.block ≠ b.block
  inj : ∀ i j, i < xss.length → j < xss.length → i ≠ j → ∀ a b, (hs i).1 = some a → (hs j).1 = some b → a.block ≠ b.block
theorem OwnR.sub {G G' : GH} {B : Option Addr} {d : Nat} {hs : Nat → Option Addr × Nat} {xss : List (List Int)} (h : OwnR G B d hs xss) (s : Sub G G') : OwnR G' B d hs xss := ⟨h.out.sub s, fun i hi => (h.row i hi).sub s, h.ne, h.inj⟩
theorem OwnR.rows {G : GH} {B : Option Addr} {d : Nat} {hs : Nat → Option Addr × Nat} {xss : List (List Int)} (h : OwnR G B d hs xss) : RowS G B d hs xss := by
  refine ⟨h.out.cap, fun i hi => ?_, fun i hi => (h.row i hi).ints⟩
  have := h.out.cells i (Value.slice (hs i).1 (xss.getD i []).length (hs i).2) (by simp [hi])
  exact this
theorem OwnR.nil (G : GH) (hs : Nat → Option Addr × Nat) : OwnR G none 0 hs [] := ⟨Own.nil _ _, fun i hi => by simp at hi, fun i hi => by simp at hi, fun i j hi => by simp at hi⟩
/-- how many cells lie ahead of a list. -/
def pre (xss : List (List Int)) : Nat → Nat
  | 0 => 0
  | j + 1 => pre xss j + (xss.getD j []).length
def mks (k : Int) (xss : List (List Int)) : List (List Int) := (List.range xss.length).map fun j => marks (k + pre xss j) (xss.getD j []).length
def midR (k : Int) (xss : List (List Int)) (i : Nat) : List (List Int) := (List.range xss.length).map fun j => if j < i then marks (k + pre xss j) (xss.getD j []).length else xss.getD j []
theorem midR_len (k : Int) (xss : List (List Int)) (i : Nat) : (midR k xss i).length = xss.length := by simp [midR]
theorem midR_get {k : Int} {xss : List (List Int)} {i j : Nat} (hj : j < xss.length) : (midR k xss i).getD j [] = if j < i then marks (k + pre xss j) (xss.getD j []).length else xss.getD j [] := by simp [midR, List.getD, hj]
theorem midR_zero (k : Int) (xss : List (List Int)) : midR k xss 0 = xss := by
  refine List.ext_getElem (by simp [midR]) fun j h1 h2 => ?_
  simp [midR, List.getD, h2]
theorem midR_all (k : Int) (xss : List (List Int)) : midR k xss xss.length = mks k xss := by
  unfold midR mks
  refine List.map_congr_left fun j hj => ?_
  rw [if_pos (List.mem_range.1 hj)]
/-- the blocks of the lists. -/
def rowB (hs : Nat → Option Addr × Nat) (n : Nat) : Nat → Prop := fun x => ∃ i, i < n ∧ ∃ a, (hs i).1 = some a ∧ a.block = x
/-- other blocks are as they were. -/
def Oth (S : Nat → Prop) (G G' : GH) : Prop := ∀ x, ¬ S x → G' x = G x
theorem Oth.refl (S : Nat → Prop) (G : GH) : Oth S G G := fun _ _ => rfl
theorem Oth.trans {S : Nat → Prop} {G G' G'' : GH} (h : Oth S G G') (h' : Oth S G' G'') : Oth S G G'' := fun x hx => (h' x hx).trans (h x hx)
theorem Oth.mono {S S' : Nat → Prop} {G G' : GH} (h : Oth S G G') (hs : ∀ x, S x → S' x) : Oth S' G G' := fun x hx => h x fun y => hx (hs x y)
theorem Oth.sub {S : Nat → Prop} {H G G' : GH} (h : Oth S G G') (s : Sub H G) (o : ∀ x, S x → H x = none) : Sub H G' := fun x e hx => by
  rw [h x fun y => by rw [o x y] at hx; cases hx]; exact s x e hx
theorem Upd.oth {G G' : GH} {A : Option Addr} (u : Upd G G' A) : Oth (fun x => ∃ a, A = some a ∧ a.block = x) G G' := fun x hx => by
  rcases u with rfl | ⟨b, e, rfl, _, rfl⟩
  · rfl
  · exact put_ne _ _ fun y => hx ⟨_, rfl, y.symm⟩
theorem Own.oth {G G' : GH} {S : Nat → Prop} {A : Option Addr} {c sz n : Nat} {cs : List Value} (h : Own G A c cs sz n) (u : Oth S G G') (hA : ∀ a, A = some a → ¬ S a.block) : Own G' A c cs sz n := by
  rcases h with h | ⟨b, r, rfl, hb, h⟩
  · exact .inl h
  · exact .inr ⟨b, r, rfl, by rw [u b (hA _ rfl)]; exact hb, h⟩
/-- one of the lists is written over. -/
theorem OwnR.set {G G' : GH} {B : Option Addr} {d i : Nat} {hs : Nat → Option Addr × Nat} {xss yss : List (List Int)} (h : OwnR G B d hs xss) (hi : i < xss.length) (u : Upd G G' (hs i).1) (hl : yss.length = xss.length) (hy : (yss.getD i []).length = (xss.getD i []).length)
    (ho : ∀ j, j < xss.length → j ≠ i → yss.getD j [] = xss.getD j []) (hw : Own G' (hs i).1 (hs i).2 ((yss.getD i []).map I64) 1 (yss.getD i []).length) : OwnR G' B d hs yss := by
  refine ⟨?_, fun j hj => ?_, fun j hj => h.ne j (by omega), fun j k hj hk => h.inj j k (by omega) (by omega)⟩
  · have e : ((List.range yss.length).map fun i => Value.slice (hs i).1 (yss.getD i []).length (hs i).2) = (List.range xss.length).map fun i => Value.slice (hs i).1 (xss.getD i []).length (hs i).2 := by
      rw [hl]
      refine List.map_congr_left fun j hj => ?_
      by_cases e : j = i
      · subst e; rw [hy]
      · rw [ho j (List.mem_range.1 hj) e]
    rw [e, hl]
    exact h.out.oth u.oth fun b hb => fun ⟨a, ha, hx⟩ => h.ne i hi a b ha hb hx
  · by_cases e : j = i
    · subst e; exact hw
    · rw [ho j (by omega) e]
      exact (h.row j (by omega)).oth u.oth fun b hb => fun ⟨a, ha, hx⟩ => h.inj i j hi (by omega) (fun y => e y.symm) a b ha hb hx
/-- what the first k arcs bring to a node, less what they take away. -/
def exc (es : List T3) (fl : List Int) (v : Int) : Nat → Int
  | 0 => 0
  | k + 1 => exc es fl v k + (if (es.getD k z3).2.1 = v then fl.getD k 0 else 0) - (if (es.getD k z3).1 = v then fl.getD k 0 else 0)
/-- the place of the arc from a to b, or -1. -/
def arcI (es : List T3) (a b : Int) : Int := match es.findIdx? (fun e => decide (e.1 = a ∧ e.2.1 = b)) with | some i => (i : Int) | none => -1
def rm (es : List T3) (fl : List Int) (a b : Int) : Int := (if 0 ≤ arcI es a b then (es.getD (arcI es a b).toNat z3).2.2 - fl.getD (arcI es a b).toNat 0 else 0) + (if 0 ≤ arcI es b a then fl.getD (arcI es b a).toNat 0 else 0)
/-- the search: the nodes in the order in which they are reached; for each the node before it. -/
structure BS where
  q : List Int
  b : Int → Int
def visit (es : List T3) (fl : List Int) (u v : Int) (st : BS) : BS := if ¬ v ∈ st.q ∧ 0 < rm es fl u v then ⟨st.q ++ [v], fun w => if w = v then u else st.b w⟩ else st
def scan (es : List T3) (fl : List Int) (u : Int) : Nat → BS → BS
  | 0, st => st
  | v + 1, st => visit es fl u v (scan es fl u v st)
def bfs (es : List T3) (fl : List Int) (n : Nat) (s : Int) : Nat → BS
  | 0 => ⟨[s], fun v => if v = s then s else -1⟩
  | i + 1 => let st := bfs es fl n s i; if i < st.q.length then scan es fl (st.q.getD i 0) n st else st
/-- the whole search. -/
def reach (es : List T3) (fl : List Int) (n : Nat) (s : Int) : BS := bfs es fl n s n
/-- what is sent from u to v: first back, then on. -/
def push (es : List T3) (fl : List Int) (u v a : Int) : List Int :=
  let m := if fl.getD (arcI es v u).toNat 0 < a then fl.getD (arcI es v u).toNat 0 else a
  let fl1 := if 0 ≤ arcI es v u then fl.set (arcI es v u).toNat (fl.getD (arcI es v u).toNat 0 - m) else fl
  let more := if 0 ≤ arcI es v u then a - m else a
  if 0 ≤ arcI es u v then fl1.set (arcI es u v).toNat (fl1.getD (arcI es u v).toNat 0 + more) else fl1
/-- the nodes on the way back from v, without the source. -/
def path (b : Int → Int) (s : Int) : Nat → Int → List Int
  | 0, _ => []
  | f + 1, v => if v = s then [] else v :: path b s f (b v)
/-- the numbers below n. -/
def iota (n : Nat) : List Int := (List.range n).map fun i : Nat => (i : Int)
theorem New.cast {G G' : GH} {A : Option Addr} {c sz n : Nat} {cs cs' : List Value} (h : New G G' A c cs sz n) (e : cs = cs') {n' : Nat} (en : n = n') : New G G' A c cs' sz n' := e ▸ en ▸ h
/-- the class of a node after k arcs, as the reference keeps it. -/
def sP (es : List T3) : Nat → Int → Int
  | 0, v => v
  | k + 1, v => if sP es k v = sP es k (es.getD k z3).2.1 then sP es k (es.getD k z3).1 else sP es k v
def sR (es : List T3) : Nat → Int
  | 0 => 0
  | k + 1 => sR es k + (if sP es k (es.getD k z3).1 = sP es k (es.getD k z3).2.1 then 1 else 0)
theorem range_app_get {α : Type} {n : Nat} {f : Nat → α} {rest : List α} {i : Nat} (h : i < n) : ((List.range n).map f ++ rest)[i]? = some (f i) := by
  rw [List.getElem?_append_left (by simpa using h), range_get _ _ _ h]
theorem range_app_set {α : Type} {n : Nat} {f : Nat → α} {rest : List α} {i : Nat} {x : α} (h : i < n) : ((List.range n).map f ++ rest).set i x = (List.range n).map (fun v => if v = i then x else f v) ++ rest := by
  rw [List.set_append_left _ _ (by simpa using h), range_set]
theorem put_comm (G : GH) {b b' : Nat} (e e' : Ent) (h : b ≠ b') : put (put G b e) b' e' = put (put G b' e') b e := by
  funext x; unfold put
  by_cases h1 : x = b'
  · subst h1; rw [if_pos rfl, if_neg (fun e => h e.symm), if_pos rfl]
  · rw [if_neg h1]; by_cases h2 : x = b
    · rw [if_pos h2, if_pos h2]
    · rw [if_neg h2, if_neg h2, if_neg h1]
/-- a block of the ground is written while a list of its own lies above it. -/
theorem New.base {G Gc : GH} {bB : Nat} {e e' : Ent} {A : Option Addr} {c sz n : Nat} {cs : List Value} (h : New (put G bB e) Gc A c cs sz n) : New (put G bB e') (put Gc bB e') A c cs sz n := by
  rcases h with ⟨h1, h2, h3, h4, rfl⟩ | ⟨b, r, h1, h2, rfl, h3⟩
  · exact .inl ⟨h1, h2, h3, h4, by rw [put_put']⟩
  · have hne : b ≠ bB := fun e2 => by rw [e2, put_same] at h2; cases h2
    exact .inr ⟨b, r, h1, by rw [put_ne _ _ hne] at h2 ⊢; exact h2, by rw [put_comm _ _ _ hne, put_put'], h3⟩
theorem New.ints' {G G' : GH} {A : Option Addr} {c n : Nat} {xs : List Int} (h : New G G' A c (xs.map I64) 1 n) (hn : n = xs.length) : IntS G' A c xs := by subst hn; exact h.ints
/-- the cells of a function on the numbers below n. -/
def fcells (n : Nat) (b : Int → Int) : List Value := (List.range n).map fun v : Nat => I64 (b v)
theorem fcells_len (n : Nat) (b : Int → Int) : (fcells n b).length = n := by simp [fcells]
theorem fcells_get {n : Nat} {b : Int → Int} {rest : List Value} {v : Int} (h0 : 0 ≤ v) (h : v < n) : (fcells n b ++ rest)[v.toNat]? = some (.int .i64 (b v)) := by
  unfold fcells; rw [range_app_get (by omega)]; simp only [I64]; rw [Int.toNat_of_nonneg h0]
theorem fcells_set {n : Nat} {b : Int → Int} {rest : List Value} {v x : Int} (h0 : 0 ≤ v) (h : v < n) : (fcells n b ++ rest).set v.toNat (.int .i64 x) = fcells n (fun w => if w = v then x else b w) ++ rest := by
  unfold fcells
  rw [range_app_set (by omega)]
  congr 1
  exact range_cong fun w hw => by
    by_cases hwv : (w : Int) = v
    · rw [if_pos (by omega)]; simp only [if_pos hwv]; rfl
    · rw [if_neg (by omega)]; simp only [if_neg hwv]
/-- the result of a function that returns a list and a code. -/
abbrev LI (v : List Int × Int) (K : Value → GH → Prop) (G : GH) : Prop := ∀ G' A c, New G G' A c (v.1.map I64) 1 v.1.length → K (.tuple [.slice A v.1.length c, .int .i64 v.2].toArray) G'
theorem LI.err {K : Value → GH → Prop} {G : GH} {v : List Int × Int} {code : Int} (hk : LI v K G) (h : v = ([], code)) : K (.tuple [.slice none 0 0, .int .i64 code].toArray) G := by
  subst h; exact hk G none 0 (New.nil _ _)
theorem IntS.cells {G : GH} {A : Option Addr} {c : Nat} {xs : List Int} (h : IntS G A c xs) : Cells G A (xs.map I64) := fun i v hv => by
  rw [List.getElem?_map] at hv
  obtain ⟨x, hx, rfl⟩ := Option.map_eq_some_iff.1 hv
  have hi := (List.getElem?_eq_some_iff.1 hx).1
  rw [h.rd i hi]
  simp [List.getD, hx, I64]
theorem map_one (xs : List Int) : ∀ v ∈ xs.map I64, oneB v = true := by
  intro v hv
  obtain ⟨x, _, rfl⟩ := List.mem_map.1 hv
  rfl
theorem spec_l00Own_ok {G : GH} {A : Option Addr} {c : Nat} {xs : List Int} (h : IntS G A c xs) (hl : xs.length < 2 ^ 30) {K : Value → GH → Prop}
    (hk : ∀ G' A' c', New G G' A' c' (xs.map I64) 1 xs.length → K (.slice A' xs.length c') G') : GC Tryz.prog 72 [.slice A xs.length c] G K := by
  refine kun (by simp) ?_
  simp (maxSteps := 300000) (disch := omega) only [gws, ↓reduceIte, reduceEqDiff, reduceToNat, reduceMul, reduceAdd, Nat.reduceBEq, isLd, gBs]
  refine ⟨by intro v hv; simp at hv, fun b hb => ?_⟩
  refine ap_new (New.mk hb [] 1 0 rfl) (Sub.refl _) (h.sub (Sub.put hb _)).cells (by simp) (map_one xs) rfl (by omega) (by omega) (by omega) fun G'' A' c' hN => ?_
  simp (maxSteps := 300000) (disch := omega) only [gws, ↓reduceIte, reduceEqDiff, reduceToNat, reduceMul, reduceAdd, Nat.reduceBEq, isLd]
  simpa using hk _ _ _ (hN.cast (by simp) (by simp))
theorem slices_Clone_ok {G : GH} {A : Option Addr} {c : Nat} {xs : List Int} (h : IntS G A c xs) (hl : xs.length < 2 ^ 30) {K : Value → GH → Prop}
    (hk : ∀ G' A' c', New G G' A' c' (xs.map I64) 1 xs.length → K (.slice A' xs.length c') G') : GC Tryz.prog 118 [.slice A xs.length c] G K := by
  refine kr6 (by simp) ?_
  cases A with
  | none =>
    have h0 : xs.length = 0 := by
      rcases Nat.eq_zero_or_pos xs.length with h0 | h0
      · exact h0
      · have := h.sn h0; simp [sn] at this
    obtain rfl : xs = [] := List.length_eq_zero_iff.1 h0
    simp (maxSteps := 300000) (disch := omega) only [gws, ↓reduceIte, reduceEqDiff, reduceToNat, reduceMul, reduceAdd, Nat.reduceBEq, isLd, Option.isNone_none]
    exact hk G none 0 (New.nil _ _)
  | some a =>
    simp (maxSteps := 300000) (disch := omega) only [gws, ↓reduceIte, reduceEqDiff, reduceToNat, reduceMul, reduceAdd, Nat.reduceBEq, isLd, Option.isNone_some, gBs]
    refine ⟨by intro v hv; simp at hv, fun b hb => ?_⟩
    refine ap_new (New.mk hb [] 1 0 rfl) (Sub.refl _) (h.sub (Sub.put hb _)).cells (by simp) (map_one xs) rfl (by omega) (by omega) (by omega) fun G'' A' c' hN => ?_
    simp (maxSteps := 300000) (disch := omega) only [gws, ↓reduceIte, reduceEqDiff, reduceToNat, reduceMul, reduceAdd, Nat.reduceBEq, isLd]
    simpa using hk _ _ _ (hN.cast (by simp) (by simp))
theorem flatMap_cong {α β : Type} {l : List α} {f g : α → List β} (h : ∀ a ∈ l, f a = g a) : l.flatMap f = l.flatMap g := by
  induction l with
  | nil => rfl
  | cons a l ih => rw [List.flatMap_cons, List.flatMap_cons, h a (by simp), ih fun b hb => h b (by simp [hb])]
theorem sl_init {A : Option Addr} {n i c : Nat} (hi : i ≤ n) (hn : n ≤ c) : slV 1 (.slice A n c) none (some (.int .i64 (i : Int))) = some (.slice A i c) := by
  simp only [slV, onSl, bndV, onInt]
  rw [if_pos ⟨by omega, by omega⟩, Int.toNat_natCast]
  simp [pa_zero]
theorem slices_IndexFuncR_ok {G : GH} {A : Option Addr} {c : Nat} {hs : Nat → Option Addr × Nat} {xss : List (List Int)} {f : Value} (p : List Int → Bool) (h : RowS G A c hs xss) (hl : xss.length < 2 ^ 40)
    (hf : ∀ i, i < xss.length → ∀ K : Value → GH → Prop, K (.bool (p (xss.getD i []))) G → gCl Tryz.prog f [.slice (hs i).1 (xss.getD i []).length (hs i).2] G K) {K : Value → GH → Prop}
    (hk : ∀ v : Int, (0 ≤ v ↔ ∃ x ∈ xss, p x = true) → K (.int .i64 v) G) : GC Tryz.prog 192 [.slice A xss.length c, f] G K := by
  refine ktj (by simp) ?_
  have hsn := h.sn
  have hrd := h.r
  simp (maxSteps := 300000) (disch := omega) only [gws, ↓reduceIte, reduceEqDiff, reduceToNat, reduceMul, reduceAdd, Nat.reduceBEq, isLd]
  refine gLoop_intro (fun m T G' => ∃ k : Nat, T 0 = .slice A xss.length c ∧ T 1 = f ∧ T 7 = .int .i64 xss.length ∧ T 8 = .int .i64 k ∧ m + k = xss.length ∧ k ≤ xss.length ∧ G' = G ∧ ∀ i, i < k → p (xss.getD i []) = false) xss.length
    ⟨0, by simp (maxSteps := 300000) (disch := omega) only [gws, ↓reduceIte, reduceEqDiff, reduceToNat, reduceMul, reduceAdd, Nat.reduceBEq, isLd], by simp (maxSteps := 300000) (disch := omega) only [gws, ↓reduceIte, reduceEqDiff, reduceToNat, reduceMul, reduceAdd, Nat.reduceBEq, isLd], by simp (maxSteps := 300000) (disch := omega) only [gws, ↓reduceIte, reduceEqDiff, reduceToNat, reduceMul, reduceAdd, Nat.reduceBEq, isLd], by simp (maxSteps := 300000) (disch := omega) only [gws, ↓reduceIte, reduceEqDiff, reduceToNat, reduceMul, reduceAdd, Nat.reduceBEq, isLd] <;> rfl, by omega, by omega, rfl, fun i hi => by omega⟩ ?_
  rintro m T G' ⟨k, h0, h1, h7, h8, hm, hkl, rfl, hinv⟩
  simp (maxSteps := 300000) (disch := omega) only [gws, ↓reduceIte, reduceEqDiff, reduceToNat, reduceMul, reduceAdd, Nat.reduceBEq, isLd, h0, h1, h7, h8]
  by_cases hlt : (k : Int) < xss.length
  · simp (maxSteps := 300000) (disch := omega) only [gws, ↓reduceIte, reduceEqDiff, reduceToNat, reduceMul, reduceAdd, Nat.reduceBEq, isLd, h0, h1, h7, h8, hlt, hrd]
    refine hf k (by omega) _ ?_
    simp (maxSteps := 300000) (disch := omega) only [gws, ↓reduceIte, reduceEqDiff, reduceToNat, reduceMul, reduceAdd, Nat.reduceBEq, isLd, h0, h1, h7, h8]
    cases hp : p (xss.getD k [])
    · simp (maxSteps := 300000) (disch := omega) only [gws, ↓reduceIte, reduceEqDiff, reduceToNat, reduceMul, reduceAdd, Nat.reduceBEq, isLd, h0, h1, h7, h8]
      refine ⟨m - 1, by omega, _, Sub.refl _, k + 1, rfl, by omega, by omega, rfl, fun i hi => ?_⟩
      by_cases hik : i = k
      · subst hik; exact hp
      · exact hinv i (by omega)
    · simp (maxSteps := 300000) (disch := omega) only [gws, ↓reduceIte, reduceEqDiff, reduceToNat, reduceMul, reduceAdd, Nat.reduceBEq, isLd, h0, h1, h7, h8]
      exact hk _ ⟨fun _ => ⟨xss.getD k [], by simp [List.getD, show k < xss.length by omega], hp⟩, fun _ => by omega⟩
  · simp (maxSteps := 300000) (disch := omega) only [gws, ↓reduceIte, reduceEqDiff, reduceToNat, reduceMul, reduceAdd, Nat.reduceBEq, isLd, h0, h1, h7, h8, hlt]
    refine hk _ ⟨fun x => by omega, fun ⟨x, hx, hp⟩ => ?_⟩
    obtain ⟨i, hi, rfl⟩ := List.mem_iff_getElem.1 hx
    have := hinv i (by omega)
    rw [show xss.getD i [] = xss[i] by simp [List.getD, hi]] at this
    rw [this] at hp; cases hp
theorem slices_ContainsFuncR_ok {G : GH} {A : Option Addr} {c : Nat} {hs : Nat → Option Addr × Nat} {xss : List (List Int)} {f : Value} (p : List Int → Bool) (h : RowS G A c hs xss) (hl : xss.length < 2 ^ 40)
    (hf : ∀ i, i < xss.length → ∀ K : Value → GH → Prop, K (.bool (p (xss.getD i []))) G → gCl Tryz.prog f [.slice (hs i).1 (xss.getD i []).length (hs i).2] G K) {K : Value → GH → Prop}
    (hk : ∀ z : Bool, (z = true ↔ ∃ x ∈ xss, p x = true) → K (.bool z) G) : GC Tryz.prog 202 [.slice A xss.length c, f] G K := by
  refine kse (by simp) ?_
  simp (maxSteps := 300000) (disch := omega) only [gws, ↓reduceIte, reduceEqDiff, reduceToNat, reduceMul, reduceAdd, Nat.reduceBEq, isLd]
  refine slices_IndexFuncR_ok p h hl hf fun v hv => ?_
  simp (maxSteps := 300000) (disch := omega) only [gws, ↓reduceIte, reduceEqDiff, reduceToNat, reduceMul, reduceAdd, Nat.reduceBEq, isLd]
  exact hk _ (by rw [decide_eq_true_eq]; exact hv)
/-- simplices by their dimensions, then as lists. -/
def cmpS (a b : List Int) : Int := if cmp3 a.length b.length = 0 then lexC a b else cmp3 a.length b.length
theorem cmpS_neg {a b : List Int} : cmpS a b < 0 ↔ a.length < b.length ∨ (a.length = b.length ∧ lexC a b < 0) := by
  unfold cmpS
  by_cases h : cmp3 (a.length : Int) b.length = 0
  · rw [if_pos h]; rw [cmp3_zero] at h
    constructor
    · exact fun x => .inr ⟨by omega, x⟩
    · rintro (x | x)
      · omega
      · exact x.2
  · rw [if_neg h, cmp3_neg]
    rw [cmp3_zero] at h
    constructor
    · exact fun x => .inl (by omega)
    · rintro (x | x) <;> omega
theorem cmpS_zero {a b : List Int} : cmpS a b = 0 ↔ a = b := by
  unfold cmpS
  by_cases h : cmp3 (a.length : Int) b.length = 0
  · rw [if_pos h]; exact lexC_zero
  · rw [if_neg h]
    exact ⟨fun x => absurd x h, fun x => by subst x; exact absurd (cmp3_zero.2 rfl) h⟩
theorem cmpS_trans {a b c : List Int} (h : cmpS a b < 0) (k : cmpS b c < 0) : cmpS a c < 0 := by
  rw [cmpS_neg] at *
  rcases h with h | ⟨h, h'⟩ <;> rcases k with k | ⟨k, k'⟩
  · exact .inl (by omega)
  · exact .inl (by omega)
  · exact .inl (by omega)
  · exact .inr ⟨by omega, lexC_trans h' k'⟩
/-- strictly in order. -/
def SAsc (xss : List (List Int)) : Prop := xss.Pairwise fun a b => cmpS a b < 0
theorem sasc_get {xss : List (List Int)} (h : SAsc xss) {i j : Nat} (hij : i < j) (hj : j < xss.length) : cmpS (xss.getD i []) (xss.getD j []) < 0 := by
  have := List.pairwise_iff_getElem.1 h i j (by omega) hj hij
  rwa [show xss.getD i [] = xss[i] by simp [List.getD, show i < xss.length by omega], show xss.getD j [] = xss[j] by simp [List.getD, hj]]
theorem sasc_of {xss : List (List Int)} (h : ∀ i, i + 1 < xss.length → cmpS (xss.getD i []) (xss.getD (i + 1) []) < 0) : SAsc xss := by
  have key : ∀ d i, i + d + 1 < xss.length → cmpS (xss.getD i []) (xss.getD (i + d + 1) []) < 0 := fun d => by
    induction d with
    | zero => exact fun i hi => h i hi
    | succ d ih => exact fun i hi => cmpS_trans (ih i (by omega)) (h (i + d + 1) (by omega))
  refine List.pairwise_iff_getElem.2 fun i j hi hj hij => ?_
  have := key (j - i - 1) i (by omega)
  rw [show i + (j - i - 1) + 1 = j by omega] at this
  rwa [show xss.getD i [] = xss[i] by simp [List.getD, hi], show xss.getD j [] = xss[j] by simp [List.getD, hj]] at this
theorem sasc_nodup {xss : List (List Int)} (h : SAsc xss) : xss.Nodup := h.imp fun {a b} q e => by rw [e, cmpS_zero.2 rfl] at q; omega
/-- where a simplex stands, or -1. -/
def fIdx (xss : List (List Int)) (t : List Int) : Int := if t ∈ xss then (xss.idxOf t : Int) else -1
theorem fIdx_neg {xss : List (List Int)} {t : List Int} : fIdx xss t < 0 ↔ t ∉ xss := by
  unfold fIdx
  by_cases h : t ∈ xss
  · rw [if_pos h]; simp [h]
  · rw [if_neg h]; simp [h]
theorem idx_of_get {xss : List (List Int)} {t : List Int} (h : xss.Nodup) {i : Nat} (hi : i < xss.length) (e : xss.getD i [] = t) : fIdx xss t = i := by
  have e' : xss[i] = t := by rwa [show xss.getD i [] = xss[i] by simp [List.getD, hi]] at e
  unfold fIdx
  rw [if_pos (by rw [← e']; exact List.getElem_mem hi)]
  rw [← e']
  congr 1
  exact List.Nodup.idxOf_getElem h i hi
theorem half_u {i j : Nat} (hb : i + j < 2 ^ 40) : binV .shr (.int .u64 (IntKind.u64.wrap ((i : Int) + j))) (.int .u64 1) = some (.int .u64 (((i + j) / 2 : Nat) : Int)) := by
  have w : IntKind.u64.wrap ((i : Int) + j) = ((i + j : Nat) : Int) := by
    simp [IntKind.wrap, IntKind.bits, IntKind.signed]; omega
  rw [w]
  have h2 : binV .shr (.int .u64 ((i + j : Nat) : Int)) (.int .u64 1) = some (.int .u64 (((i + j : Nat) : Int).fdiv (2 ^ 1))) := by
    simp [binV, binOp, Op.shift, pureOf, pure, IntKind.bits]
    try exact (Int.fdiv_eq_ediv_of_nonneg _ (by omega)).symm
  rw [h2, Int.fdiv_eq_ediv_of_nonneg _ (by omega)]
  congr 1
/-- a complex as a value. -/
def cxV (A : Option Addr) (n c : Nat) : Value := .agg #[.slice A n c]
theorem RowS.take {G : GH} {Z : Option Addr} {z n : Nat} {hs : Nat → Option Addr × Nat} {xss : List (List Int)} (h : RowS G Z z hs xss) (hn : n ≤ xss.length) : RowS G Z z hs (xss.take n) := by
  have hl : (xss.take n).length = n := by simp; omega
  have hg : ∀ {i}, i < n → (xss.take n).getD i [] = xss.getD i [] := fun hi => by simp [List.getD, List.getElem?_take, hi]
  have hc := h.cap
  refine ⟨by rw [hl]; omega, fun i hi => ?_, fun i hi => ?_⟩ <;> rw [hl] at hi <;> rw [hg hi]
  · exact h.r i (by omega)
  · exact h.row i (by omega)
theorem cmp_isNaNi_ok (a : Int) {G : GH} {K : Value → GH → Prop} (hk : K (.bool false) G) : GC Tryz.prog 219 [.int .i64 a] G K := by
  refine k1f (by simp) ?_
  simp (maxSteps := 300000) (disch := omega) only [gws, ↓reduceIte, reduceEqDiff, reduceToNat, reduceMul, reduceAdd, Nat.reduceBEq, isLd]
  exact hk
theorem cmp_Comparei_ok (a b : Int) {G : GH} {K : Value → GH → Prop} (hk : K (.int .i64 (cmp3 a b)) G) : GC Tryz.prog 212 [.int .i64 a, .int .i64 b] G K := by
  refine kg (by simp) ?_
  simp (maxSteps := 300000) (disch := omega) only [gws, ↓reduceIte, reduceEqDiff, reduceToNat, reduceMul, reduceAdd, Nat.reduceBEq, isLd]
  refine cmp_isNaNi_ok _ ?_
  simp (maxSteps := 300000) (disch := omega) only [gws, ↓reduceIte, reduceEqDiff, reduceToNat, reduceMul, reduceAdd, Nat.reduceBEq, isLd]
  refine cmp_isNaNi_ok _ ?_
  simp (maxSteps := 300000) (disch := omega) only [gws, ↓reduceIte, reduceEqDiff, reduceToNat, reduceMul, reduceAdd, Nat.reduceBEq, isLd]
  unfold cmp3 at hk
  by_cases h1 : a < b
  · simp (maxSteps := 300000) (disch := omega) only [gws, ↓reduceIte, reduceEqDiff, reduceToNat, reduceMul, reduceAdd, Nat.reduceBEq, isLd, h1]; rwa [if_pos h1] at hk
  · rw [if_neg h1] at hk
    simp (maxSteps := 300000) (disch := omega) only [gws, ↓reduceIte, reduceEqDiff, reduceToNat, reduceMul, reduceAdd, Nat.reduceBEq, isLd, h1]
    by_cases h2 : b < a
    · simp (maxSteps := 300000) (disch := omega) only [gws, ↓reduceIte, reduceEqDiff, reduceToNat, reduceMul, reduceAdd, Nat.reduceBEq, isLd, h2]; rwa [if_pos h2] at hk
    · simp (maxSteps := 300000) (disch := omega) only [gws, ↓reduceIte, reduceEqDiff, reduceToNat, reduceMul, reduceAdd, Nat.reduceBEq, isLd, h2]; rwa [if_neg h2] at hk
theorem impl_compareSimplices_ok {G : GH} {A B : Option Addr} {c d : Nat} {xs ys : List Int} (h : IntS G A c xs) (h' : IntS G B d ys) (hl : xs.length < 2 ^ 40) (hl' : ys.length < 2 ^ 40) {K : Value → GH → Prop}
    (hk : K (.int .i64 (cmpS xs ys)) G) : GC Tryz.prog 190 [.slice A xs.length c, .slice B ys.length d] G K := by
  refine GC_drop (k7h (by simp) ?_)
  simp (maxSteps := 300000) (disch := omega) only [gws, ↓reduceIte, reduceEqDiff, reduceToNat, reduceMul, reduceAdd, Nat.reduceBEq, isLd]
  refine cmp_Comparei_ok _ _ ?_
  simp (maxSteps := 300000) (disch := omega) only [gws, ↓reduceIte, reduceEqDiff, reduceToNat, reduceMul, reduceAdd, Nat.reduceBEq, isLd]
  refine slices_Compare_ok h h' hl hl' ?_
  simp (maxSteps := 300000) (disch := omega) only [gws, ↓reduceIte, reduceEqDiff, reduceToNat, reduceMul, reduceAdd, Nat.reduceBEq, isLd, gBs]
  refine ⟨fun v hv => (by simp at hv; rcases hv with rfl | rfl <;> rfl), fun b hb => ?_⟩
  refine cmp_Or_ok (cmp3 xs.length ys.length) (lexC xs ys) (rd_box G b _ 0 _ rfl) (by rw [pa_mk]; exact rd_box G b _ 1 _ rfl) ?_
  simp (maxSteps := 300000) (disch := omega) only [gws, ↓reduceIte, reduceEqDiff, reduceToNat, reduceMul, reduceAdd, Nat.reduceBEq, isLd]
  exact ⟨G, Sub.put hb _, hk⟩
theorem slices_BinarySearchS_ok {G : GH} {A B : Option Addr} {c d : Nat} {hs : Nat → Option Addr × Nat} {xss : List (List Int)} {t : List Int} {f : Value} (h : RowS G A c hs xss) (hsrt : SAsc xss) (hl : xss.length ≤ 2 ^ 20)
    (hf : ∀ i, i < xss.length → ∀ K : Value → GH → Prop, K (.int .i64 (cmpS (xss.getD i []) t)) G → gCl Tryz.prog f [.slice (hs i).1 (xss.getD i []).length (hs i).2, .slice B t.length d] G K) {K : Value → GH → Prop}
    (hk : ∀ (i : Nat) (z : Bool), i ≤ xss.length → (z = true → i < xss.length ∧ xss.getD i [] = t) → (z = false → t ∉ xss) → K (.tuple [.int .i64 i, .bool z].toArray) G) : GC Tryz.prog 189 [.slice A xss.length c, .slice B t.length d, f] G K := by
  refine kqz (by simp) ?_
  have hsn := h.sn
  have hrd := h.r
  simp (maxSteps := 300000) (disch := omega) only [gws, ↓reduceIte, reduceEqDiff, reduceToNat, reduceMul, reduceAdd, Nat.reduceBEq, isLd]
  refine gLoop_intro (fun m T G' => ∃ i j : Nat, T 0 = .slice A xss.length c ∧ T 1 = .slice B t.length d ∧ T 2 = f ∧ T 8 = .int .i64 xss.length ∧ T 9 = .int .i64 i ∧ T 10 = .int .i64 j ∧ m + i = j ∧ j ≤ xss.length ∧ G' = G ∧ (∀ q, q < i → cmpS (xss.getD q []) t < 0) ∧ (∀ q, j ≤ q → q < xss.length → ¬ cmpS (xss.getD q []) t < 0)) xss.length
    ⟨0, xss.length, by simp (maxSteps := 300000) (disch := omega) only [gws, ↓reduceIte, reduceEqDiff, reduceToNat, reduceMul, reduceAdd, Nat.reduceBEq, isLd], by simp (maxSteps := 300000) (disch := omega) only [gws, ↓reduceIte, reduceEqDiff, reduceToNat, reduceMul, reduceAdd, Nat.reduceBEq, isLd], by simp (maxSteps := 300000) (disch := omega) only [gws, ↓reduceIte, reduceEqDiff, reduceToNat, reduceMul, reduceAdd, Nat.reduceBEq, isLd], by simp (maxSteps := 300000) (disch := omega) only [gws, ↓reduceIte, reduceEqDiff, reduceToNat, reduceMul, reduceAdd, Nat.reduceBEq, isLd], by simp (maxSteps := 300000) (disch := omega) only [gws, ↓reduceIte, reduceEqDiff, reduceToNat, reduceMul, reduceAdd, Nat.reduceBEq, isLd] <;> rfl, by simp (maxSteps := 300000) (disch := omega) only [gws, ↓reduceIte, reduceEqDiff, reduceToNat, reduceMul, reduceAdd, Nat.reduceBEq, isLd], by omega, by omega, rfl, fun q hq => by omega, fun q h1 h2 => by omega⟩ ?_
  rintro m T G' ⟨i, j, e0, e1, e2, e8, e9, e10, hm, hj, rfl, hlo, hhi⟩
  simp (maxSteps := 300000) (disch := omega) only [gws, ↓reduceIte, reduceEqDiff, reduceToNat, reduceMul, reduceAdd, Nat.reduceBEq, isLd, e0, e1, e2, e8, e9, e10]
  by_cases hij : (i : Int) < j
  · have hu := half_u (i := i) (j := j) (by omega)
    have w2 : IntKind.i64.wrap (((i + j) / 2 : Nat) : Int) = (((i + j) / 2 : Nat) : Int) := w64 _ (by omega) (by omega)
    simp (maxSteps := 300000) (disch := omega) only [gws, ↓reduceIte, reduceEqDiff, reduceToNat, reduceMul, reduceAdd, Nat.reduceBEq, isLd, e0, e1, e2, e8, e9, e10, hij, hu, w2]
    generalize hh : (i + j) / 2 = h2
    simp (maxSteps := 300000) (disch := omega) only [gws, ↓reduceIte, reduceEqDiff, reduceToNat, reduceMul, reduceAdd, Nat.reduceBEq, isLd, e0, e1, e2, e8, e9, e10, hrd]
    refine hf h2 (by omega) _ ?_
    simp (maxSteps := 300000) (disch := omega) only [gws, ↓reduceIte, reduceEqDiff, reduceToNat, reduceMul, reduceAdd, Nat.reduceBEq, isLd, e0, e1, e2, e8, e9, e10]
    by_cases hc : cmpS (xss.getD h2 []) t < 0
    · simp (maxSteps := 300000) (disch := omega) only [gws, ↓reduceIte, reduceEqDiff, reduceToNat, reduceMul, reduceAdd, Nat.reduceBEq, isLd, e0, e1, e2, e8, e9, e10, hc]
      refine ⟨m - (h2 + 1 - i), by omega, _, Sub.refl _, h2 + 1, j, rfl, rfl, by omega, by omega, rfl, fun q hq => ?_, hhi⟩
      by_cases hqe : q = h2
      · subst hqe; exact hc
      · exact cmpS_trans (sasc_get hsrt (i := q) (j := h2) (by omega) (by omega)) hc
    · simp (maxSteps := 300000) (disch := omega) only [gws, ↓reduceIte, reduceEqDiff, reduceToNat, reduceMul, reduceAdd, Nat.reduceBEq, isLd, e0, e1, e2, e8, e9, e10, hc]
      refine ⟨h2 - i, by omega, _, Sub.refl _, i, h2, rfl, rfl, by omega, by omega, rfl, hlo, fun q h1 h3 hq => hc ?_⟩
      by_cases hqe : q = h2
      · subst hqe; exact hq
      · exact cmpS_trans (sasc_get hsrt (i := h2) (j := q) (by omega) (by omega)) hq
  · obtain rfl : i = j := by omega
    have nomem : (∀ q, q = i → q < xss.length → xss.getD q [] ≠ t) → t ∉ xss := fun hne hm => by
      obtain ⟨q, hq, e⟩ := List.mem_iff_getElem.1 hm
      have e' : xss.getD q [] = t := by rw [← e]; simp [List.getD, hq]
      by_cases h1 : q < i
      · have := hlo q h1
        rw [e', cmpS_zero.2 rfl] at this; omega
      · by_cases h2 : q = i
        · exact hne q h2 hq e'
        · have := sasc_get hsrt (i := i) (j := q) (by omega) hq
          rw [e'] at this
          exact hhi i (by omega) (by omega) this
    by_cases hin : (i : Int) < xss.length
    · simp (maxSteps := 300000) (disch := omega) only [gws, ↓reduceIte, reduceEqDiff, reduceToNat, reduceMul, reduceAdd, Nat.reduceBEq, isLd, e0, e1, e2, e8, e9, e10, hij, hin, hrd]
      refine hf i (by omega) _ ?_
      by_cases hz : cmpS (xss.getD i []) t = 0
      · simp (maxSteps := 300000) (disch := omega) only [gws, ↓reduceIte, reduceEqDiff, reduceToNat, reduceMul, reduceAdd, Nat.reduceBEq, isLd, e0, e1, e2, e8, e9, e10, eq_true hz]
        exact hk i true hj (fun _ => ⟨by omega, cmpS_zero.1 hz⟩) (fun x => by cases x)
      · simp (maxSteps := 300000) (disch := omega) only [gws, ↓reduceIte, reduceEqDiff, reduceToNat, reduceMul, reduceAdd, Nat.reduceBEq, isLd, e0, e1, e2, e8, e9, e10, eq_false hz]
        exact hk i false hj (fun x => by cases x) fun _ => nomem fun q hq _ e => hz (by rw [← hq, e]; exact cmpS_zero.2 rfl)
    · simp (maxSteps := 300000) (disch := omega) only [gws, ↓reduceIte, reduceEqDiff, reduceToNat, reduceMul, reduceAdd, Nat.reduceBEq, isLd, e0, e1, e2, e8, e9, e10, hij, hin]
      exact hk i false hj (fun x => by cases x) fun _ => nomem fun q hq h _ => by omega
theorem impl_indexOf_ok {G : GH} {A B : Option Addr} {c d : Nat} {hs : Nat → Option Addr × Nat} {xss : List (List Int)} {t : List Int} (h : RowS G A c hs xss) (ht : IntS G B d t) (hsrt : SAsc xss) (hl : xss.length ≤ 2 ^ 20) (hl1 : ∀ i, i < xss.length → (xss.getD i []).length < 2 ^ 40) (hlt : t.length < 2 ^ 40) {K : Value → GH → Prop}
    (hk : K (.int .i64 (fIdx xss t)) G) : GC Tryz.prog 162 [cxV A xss.length c, .slice B t.length d] G K := by
  refine GC_drop (kb1 (by simp) ?_)
  unfold cxV
  simp (maxSteps := 300000) (disch := omega) only [gws, ↓reduceIte, reduceEqDiff, reduceToNat, reduceMul, reduceAdd, Nat.reduceBEq, isLd]
  intro b hb
  have s := Sub.put hb ⟨[.slice A xss.length c], true⟩
  simp (maxSteps := 300000) (disch := omega) only [gws, ↓reduceIte, reduceEqDiff, reduceToNat, reduceMul, reduceAdd, Nat.reduceBEq, isLd, rd_put]
  refine slices_BinarySearchS_ok (h.sub s) hsrt hl (fun i hi K' hK' => ?_) fun i z hi hz1 hz2 => ?_
  · simp (maxSteps := 300000) (disch := omega) only [gws, ↓reduceIte, reduceEqDiff, reduceToNat, reduceMul, reduceAdd, Nat.reduceBEq, isLd]
    exact impl_compareSimplices_ok ((h.sub s).row i hi) (ht.sub s) (hl1 i hi) hlt hK'
  · cases z
    · simp (maxSteps := 300000) (disch := omega) only [gws, ↓reduceIte, reduceEqDiff, reduceToNat, reduceMul, reduceAdd, Nat.reduceBEq, isLd]
      refine ⟨G, s, ?_⟩
      have := hz2 rfl
      unfold fIdx at hk
      rwa [if_neg this] at hk
    · simp (maxSteps := 300000) (disch := omega) only [gws, ↓reduceIte, reduceEqDiff, reduceToNat, reduceMul, reduceAdd, Nat.reduceBEq, isLd]
      obtain ⟨h1, h2⟩ := hz1 rfl
      refine ⟨G, s, ?_⟩
      rwa [idx_of_get (sasc_nodup hsrt) h1 h2] at hk
/-- what is known but for a list's block. -/
def wz (G : GH) (A : Option Addr) : GH := fun x => if A.map (·.block) = some x then none else G x
theorem Sub.wz (G : GH) (A : Option Addr) : Sub (Gh.wz G A) G := fun x e h => by
  unfold Gh.wz at h; split at h
  · cases h
  · exact h
theorem Off.wz (G : GH) (A : Option Addr) : Off (Gh.wz G A) A := fun a ha => by unfold Gh.wz; rw [if_pos (by rw [ha]; rfl)]
theorem wz_ne {G : GH} {A : Option Addr} {x : Nat} (h : ∀ a, A = some a → a.block ≠ x) : wz G A x = G x := by
  unfold wz; rw [if_neg]
  intro y
  cases A with
  | none => cases y
  | some a => simp at y; exact h a rfl y
theorem Sub.wz_mono {G G' : GH} {Z : Option Addr} (s : Sub G G') : Sub (Gh.wz G Z) (Gh.wz G' Z) := fun y e h => by
  unfold Gh.wz at h ⊢
  split at h
  · cases h
  · next c => rw [if_neg c]; exact s y e h
theorem Own.wz {G : GH} {Z A : Option Addr} {c sz n : Nat} {cs : List Value} (h : Own G A c cs sz n) (hne : ∀ a b, A = some a → Z = some b → a.block ≠ b.block) : Own (Gh.wz G Z) A c cs sz n := by
  rcases h with h | ⟨b, r, rfl, hb, h⟩
  · exact .inl h
  · exact .inr ⟨b, r, rfl, by rw [wz_ne fun a ha x => hne _ a rfl ha x.symm]; exact hb, h⟩
theorem OwnR.oth {G G' : GH} {S : Nat → Prop} {B : Option Addr} {d : Nat} {hs : Nat → Option Addr × Nat} {xss : List (List Int)} (h : OwnR G B d hs xss) (u : Oth S G G') (hB : ∀ a, B = some a → ¬ S a.block) (hR : ∀ i, i < xss.length → ∀ a, (hs i).1 = some a → ¬ S a.block) : OwnR G' B d hs xss :=
  ⟨h.out.oth u hB, fun i hi => (h.row i hi).oth u (hR i hi), h.ne, h.inj⟩
theorem Oth.put (G : GH) (b : Nat) (e : Ent) : Oth (fun x => x = b) G (Gh.put G b e) := fun x hx => put_ne _ _ hx
theorem Off.ne {H : GH} {b : Nat} {e : Ent} {A : Option Addr} (h : Off (Gh.put H b e) A) : ∀ a, A = some a → a.block ≠ b := fun a ha x => by
  have := h a ha; rw [x, put_same] at this; cases this
theorem flat_take {xss : List (List Int)} {k : Nat} (hk : k < xss.length) : (xss.take (k + 1)).flatten = (xss.take k).flatten ++ xss.getD k [] := by
  rw [List.take_succ_eq_append_getElem hk, List.flatten_append]
  simp [List.getD, hk]
theorem flat_le (xss : List (List Int)) (k : Nat) : (xss.take k).flatten.length ≤ xss.flatten.length := by
  have := congrArg (fun l : List (List Int) => l.flatten.length) (List.take_append_drop k xss)
  simp only [List.flatten_append, List.length_append] at this
  omega
theorem Grow0_ok {G : GH} {n : Nat} (hn : n < 2 ^ 40) {K : Value → GH → Prop} (hk : ∀ G' A c, New G G' A c [] 1 0 → K (.slice A 0 c) G') : GC Tryz.prog 210 [.slice none 0 0, .int .i64 n] G K := by
  refine kt7 (by simp) ?_
  have w1 := w64 (((0 : Nat) : Int) - ((0 : Nat) : Int)) (by omega) (by omega)
  have w2 := w64 ((n : Int) - (((0 : Nat) : Int) - ((0 : Nat) : Int))) (by omega) (by omega)
  have l1 : decide ((n : Int) < 0) = false := decide_eq_false (by omega)
  by_cases h0 : n = 0
  · subst h0
    have l2 : decide (0 < ((0 : Nat) : Int) - (((0 : Nat) : Int) - ((0 : Nat) : Int))) = false := rfl
    simp (maxSteps := 300000) (disch := omega) only [gws, ↓reduceIte, reduceEqDiff, reduceToNat, reduceMul, reduceAdd, Nat.reduceBEq, isLd, w1, w2, l1, l2]
    exact hk G none 0 (New.nil _ _)
  have l2 : decide (0 < (n : Int) - (((0 : Nat) : Int) - ((0 : Nat) : Int))) = true := decide_eq_true (by omega)
  have e1 : slV 1 (.slice none 0 0) none (some (.int .i64 ((0 : Nat) : Int))) = some (.slice none 0 0) := rfl
  simp (maxSteps := 300000) (disch := omega) only [gws, ↓reduceIte, reduceEqDiff, reduceToNat, reduceMul, reduceAdd, Nat.reduceBEq, isLd, w1, w2, l1, l2, e1, Option.map_none]
  refine ⟨none, 0, 0, n, [], rfl, by rw [show ((n : Int) - (((0 : Nat) : Int) - ((0 : Nat) : Int))) = n by omega], rfl, fun j v hj => by simp at hj, by omega, by omega, by omega, by omega, fun b c' hb hc => ⟨put G b ⟨zc [.int .i64 0] n ++ zc [.int .i64 0] (c' - n), true⟩, by rw [Nat.zero_add]; exact Sub.refl _, ?_⟩⟩
  have e2 : slV 1 (.slice (some ⟨b, 0, none⟩) n c') none (some (.int .i64 ((0 : Nat) : Int))) = some (.slice (some ⟨b, 0, none⟩) 0 c') := by
    simp only [slV, onSl, bndV, onInt]
    rw [if_pos ⟨by omega, by omega⟩]
    simp only [Option.bind_some, Int.toNat_natCast]
    rw [if_pos (by omega)]
    simp only [Nat.zero_mul, pa_mk, Nat.add_zero, Nat.sub_zero, ite_self]
  simp only [Nat.zero_add]
  simp (maxSteps := 300000) (disch := omega) only [gws, ↓reduceIte, reduceEqDiff, reduceToNat, reduceMul, reduceAdd, Nat.reduceBEq, isLd, e2, Option.map_none]
  refine hk _ _ _ (.inr ⟨b, zc [.int .i64 0] n ++ zc [.int .i64 0] (c' - n), rfl, hb, rfl, rfl, ?_, by omega⟩)
  simp only [List.nil_append, List.length_append]
  simp only [zc, List.length_map, List.length_range, List.length_singleton, Nat.mul_one]
  omega
theorem ConcatR_ok {G : GH} {Y : Option Addr} {cy : Nat} {hs : Nat → Option Addr × Nat} {xss : List (List Int)} (h : RowS G Y cy hs xss) (hl : xss.length < 2 ^ 20) (hf : xss.flatten.length < 2 ^ 30) {K : Value → GH → Prop}
    (hk : ∀ G' A c, New G G' A c (xss.flatten.map I64) 1 xss.flatten.length → K (.slice A xss.flatten.length c) G') : GC Tryz.prog 188 [.slice Y xss.length cy] G K := by
  refine ks9 (by simp) ?_
  have hsn := h.sn
  have r := h.r
  simp (maxSteps := 300000) (disch := omega) only [gws, ↓reduceIte, reduceEqDiff, reduceToNat, reduceMul, reduceAdd, Nat.reduceBEq, isLd]
  refine gLoop_intro (fun m T G' => ∃ k : Nat, T 0 = .slice Y xss.length cy ∧ T 3 = .int .i64 (((xss.take k).flatten.length : Nat) : Int) ∧ T 9 = .slice Y xss.length cy ∧ T 10 = .int .i64 xss.length ∧ T 11 = .int .i64 k ∧ m + k = xss.length ∧ k ≤ xss.length ∧ G' = G) xss.length
    ⟨0, by simp (maxSteps := 300000) (disch := omega) only [gws, ↓reduceIte, reduceEqDiff, reduceToNat, reduceMul, reduceAdd, Nat.reduceBEq, isLd], by simp (maxSteps := 300000) (disch := omega) only [gws, ↓reduceIte, reduceEqDiff, reduceToNat, reduceMul, reduceAdd, Nat.reduceBEq, isLd] <;> rfl, by simp (maxSteps := 300000) (disch := omega) only [gws, ↓reduceIte, reduceEqDiff, reduceToNat, reduceMul, reduceAdd, Nat.reduceBEq, isLd], by simp (maxSteps := 300000) (disch := omega) only [gws, ↓reduceIte, reduceEqDiff, reduceToNat, reduceMul, reduceAdd, Nat.reduceBEq, isLd], by simp (maxSteps := 300000) (disch := omega) only [gws, ↓reduceIte, reduceEqDiff, reduceToNat, reduceMul, reduceAdd, Nat.reduceBEq, isLd] <;> rfl, by omega, by omega, rfl⟩ ?_
  rintro m T G' ⟨k, e0, e3, e9, e10, e11, hm, hkl, rfl⟩
  simp (maxSteps := 300000) (disch := omega) only [gws, ↓reduceIte, reduceEqDiff, reduceToNat, reduceMul, reduceAdd, Nat.reduceBEq, isLd, e0, e3, e9, e10, e11]
  by_cases hkk : (k : Int) < xss.length
  · have hf1 := flat_take (show k < xss.length by omega)
    have hle := flat_le xss (k + 1)
    have hsum : (xss.take (k + 1)).flatten.length = (xss.take k).flatten.length + (xss.getD k []).length := by rw [hf1, List.length_append]
    have w1 := w64 ((((xss.take k).flatten.length : Nat) : Int) + ((xss.getD k []).length : Int)) (by omega) (by omega)
    have l1 : decide ((((xss.take k).flatten.length : Nat) : Int) + ((xss.getD k []).length : Int) < 0) = false := decide_eq_false (by omega)
    simp (maxSteps := 300000) (disch := omega) only [gws, ↓reduceIte, reduceEqDiff, reduceToNat, reduceMul, reduceAdd, Nat.reduceBEq, isLd, e0, e3, e9, e10, e11, hkk, r k (by omega), w1, l1]
    exact ⟨m - 1, by omega, G', Sub.refl _, k + 1, by rw [hsum]; push_cast; rfl, rfl, by omega, by omega, rfl⟩
  · simp (maxSteps := 300000) (disch := omega) only [gws, ↓reduceIte, reduceEqDiff, reduceToNat, reduceMul, reduceAdd, Nat.reduceBEq, isLd, e0, e3, e9, e10, e11, hkk]
    obtain rfl : k = xss.length := by omega
    rw [List.take_length]
    refine Grow0_ok (by omega) fun G2 A2 c2 hN => ?_
    simp (maxSteps := 300000) (disch := omega) only [gws, ↓reduceIte, reduceEqDiff, reduceToNat, reduceMul, reduceAdd, Nat.reduceBEq, isLd, e0, e3, e9, e10, e11]
    refine gLoop_intro (fun m T Gx => ∃ (i : Nat) (B : Option Addr) (cB : Nat), T 6 = .slice B (xss.take i).flatten.length cB ∧ T 25 = .slice Y xss.length cy ∧ T 26 = .int .i64 xss.length ∧ T 27 = .int .i64 i ∧ m + i = xss.length ∧ i ≤ xss.length ∧ New G' Gx B cB ((xss.take i).flatten.map I64) 1 (xss.take i).flatten.length) xss.length
      ⟨0, A2, c2, by simp (maxSteps := 300000) (disch := omega) only [gws, ↓reduceIte, reduceEqDiff, reduceToNat, reduceMul, reduceAdd, Nat.reduceBEq, isLd] <;> rfl, by simp (maxSteps := 300000) (disch := omega) only [gws, ↓reduceIte, reduceEqDiff, reduceToNat, reduceMul, reduceAdd, Nat.reduceBEq, isLd], by simp (maxSteps := 300000) (disch := omega) only [gws, ↓reduceIte, reduceEqDiff, reduceToNat, reduceMul, reduceAdd, Nat.reduceBEq, isLd], by simp (maxSteps := 300000) (disch := omega) only [gws, ↓reduceIte, reduceEqDiff, reduceToNat, reduceMul, reduceAdd, Nat.reduceBEq, isLd] <;> rfl, by omega, by omega, hN⟩ ?_
    clear e0 e3 e9 e10 e11 hm hkl hN
    rintro m' T' G3 ⟨i, B, cB, e6, e25, e26, e27, hm, hkl, hN⟩
    simp (maxSteps := 300000) (disch := omega) only [gws, ↓reduceIte, reduceEqDiff, reduceToNat, reduceMul, reduceAdd, Nat.reduceBEq, isLd, e6, e25, e26, e27]
    by_cases hii : (i : Int) < xss.length
    · have hri := rd_sub hN.sub (r i (by omega))
      have hrow := (h.row i (by omega)).sub hN.sub
      have hf1 := flat_take (show i < xss.length by omega)
      have hle := flat_le xss (i + 1)
      have hsum : (xss.take (i + 1)).flatten.length = (xss.take i).flatten.length + (xss.getD i []).length := by rw [hf1, List.length_append]
      simp (maxSteps := 300000) (disch := omega) only [gws, ↓reduceIte, reduceEqDiff, reduceToNat, reduceMul, reduceAdd, Nat.reduceBEq, isLd, e6, e25, e26, e27, hii, hri]
      refine ap_new hN (Sub.refl _) (news := (xss.getD i []).map I64) (m := (xss.getD i []).length) (fun j v hj => ?_) (by simp) (by intro v hv; obtain ⟨x, _, rfl⟩ := List.mem_map.1 hv; rfl) rfl (by omega) (by omega) (by omega) fun G4 B4 c4 hN4 => ?_
      · have hj' : j < (xss.getD i []).length := by
          have := (List.getElem?_eq_some_iff.1 hj).1
          simpa using this
        rw [ints_get _ j hj'] at hj
        rw [← hj]; exact hrow.rd j hj'
      simp (maxSteps := 300000) (disch := omega) only [gws, ↓reduceIte, reduceEqDiff, reduceToNat, reduceMul, reduceAdd, Nat.reduceBEq, isLd, e6, e25, e26, e27]
      exact ⟨m' - 1, by omega, G4, Sub.refl _, i + 1, B4, c4, by rw [hsum], rfl, by omega, by omega, hN4.cast (by rw [hf1, List.map_append]) hsum.symm⟩
    · simp (maxSteps := 300000) (disch := omega) only [gws, ↓reduceIte, reduceEqDiff, reduceToNat, reduceMul, reduceAdd, Nat.reduceBEq, isLd, e6, e25, e26, e27, hii]
      obtain rfl : i = xss.length := by omega
      rw [List.take_length] at hN ⊢
      exact hk _ _ _ hN
def SimOk (s : List Int) : Prop := (1 ≤ s.length ∧ s.length ≤ 4) ∧ Rise s ∧ InB s 0 9
/-- the faces of a simplex. -/
def facs (s : List Int) : List (List Int) := if 1 < s.length then (List.range s.length).map fun k => s.eraseIdx k else []
theorem facs_len {s : List Int} (h : 1 < s.length) : (facs s).length = s.length := by unfold facs; rw [if_pos h]; simp
theorem facs_get {s : List Int} {k : Nat} (h : 1 < s.length) (hk : k < s.length) : (facs s).getD k [] = s.eraseIdx k := by unfold facs; rw [if_pos h]; simp [List.getD, hk]
theorem facs_shorter {s f : List Int} (h : f ∈ facs s) : f.length + 1 = s.length := by
  unfold facs at h
  by_cases c : 1 < s.length
  · rw [if_pos c] at h
    obtain ⟨k, hk, rfl⟩ := List.mem_map.1 h
    have := List.mem_range.1 hk
    rw [List.length_eraseIdx_of_lt this]; omega
  · rw [if_neg c] at h; cases h
structure CxOk (xss : List (List Int)) : Prop where
  n : xss.length ≤ 48
  s : ∀ i, i < xss.length → SimOk (xss.getD i [])
  a : SAsc xss
  f : ∀ i, i < xss.length → ∀ f ∈ facs (xss.getD i []), f ∈ xss
theorem mem_before {xss : List (List Int)} (h : SAsc xss) {i : Nat} (hi : i < xss.length) {f : List Int} (hf : f ∈ facs (xss.getD i [])) (hm : f ∈ xss) : f ∈ xss.take i := by
  obtain ⟨q, hq, rfl⟩ := List.mem_iff_getElem.1 hm
  have hl := facs_shorter hf
  have e : xss.getD q [] = xss[q] := by simp [List.getD, hq]
  by_cases c : q < i
  · exact List.mem_iff_getElem.2 ⟨q, by simp; omega, by simp⟩
  · exfalso
    by_cases d : q = i
    · subst d; rw [e] at hl; omega
    · have := sasc_get h (i := i) (j := q) (by omega) hq
      rw [cmpS_neg, e] at this
      rcases this with this | ⟨this, _⟩ <;> omega
/-- a list of lists that is being laid. -/
structure RB (G0 G : GH) (Z : Option Addr) (z : Nat) (hs : Nat → Option Addr × Nat) (xss : List (List Int)) : Prop where
  sub : Sub G0 G
  out : Own G Z z ((List.range xss.length).map fun i => Value.slice (hs i).1 (xss.getD i []).length (hs i).2) 1 xss.length
  off : Off G0 Z
  row : ∀ i, i < xss.length → IntS (wz G Z) (hs i).1 (hs i).2 (xss.getD i [])
theorem RB.nil (G : GH) (hs : Nat → Option Addr × Nat) : RB G G none 0 hs [] := ⟨Sub.refl _, Own.nil _ _, Off.nil _, fun i hi => by simp at hi⟩
theorem RB.up {G0 G G' : GH} {Z : Option Addr} {z : Nat} {hs : Nat → Option Addr × Nat} {xss : List (List Int)} (h : RB G0 G Z z hs xss) (s : Sub G G') : RB G0 G' Z z hs xss := ⟨h.sub.trans s, h.out.sub s, h.off, fun i hi => (h.row i hi).sub (Sub.wz_mono s)⟩
theorem RB.rows {G0 G : GH} {Z : Option Addr} {z : Nat} {hs : Nat → Option Addr × Nat} {xss : List (List Int)} (h : RB G0 G Z z hs xss) : RowS G Z z hs xss :=
  ⟨h.out.cap, fun i hi => h.out.cells _ _ (by simp [hi]), fun i hi => (h.row i hi).sub (Sub.wz _ _)⟩
theorem RB.add {G0 G : GH} {bs : Nat} {Z : Option Addr} {z : Nat} {hs : Nat → Option Addr × Nat} {xss : List (List Int)} {r : List Int} {D : Option Addr} {e : Nat} (h : RB G0 G Z z hs xss) (hr : IntS (wz G Z) D e r) (hb : G bs = some ⟨[.slice D r.length e], true⟩) (hl : xss.length < 2 ^ 20) {K : Value → GH → Prop}
    (hK : ∀ G4 Z' z' hs', RB G0 G4 Z' z' hs' (xss ++ [r]) → K (.slice Z' (xss.length + 1) z') G4) : gAp 1 24 [.slice none 0 0] (.slice Z xss.length z) (.slice (some ⟨bs, 0, none⟩) 1 1) G K := by
  refine ap_own h.out (news := [.slice D r.length e]) (m := 1) (Own.blk (n := 1) (sz := 1) hb rfl).cells (by rfl) (by intro v hv; simp at hv; subst hv; rfl) rfl (by omega) (by omega) (by omega) fun G4 Z' z' hO keep => ?_
  obtain ⟨s4, o4⟩ := keep _ (Sub.wz G Z) (Off.wz G Z)
  have s0 : Sub G0 G4 := fun q f hq => by
    refine s4 _ _ ?_
    rw [wz_ne fun a ha e => ?_]
    · exact h.sub _ _ hq
    · have := h.off a ha
      rw [e, hq] at this; cases this
  have o0 : Off G0 Z' := fun a ha => by
    have h2 := o4 a ha
    by_cases c : G a.block = none
    · exact h.sub.none c
    · have : ∃ y, Z = some y ∧ y.block = a.block := by
        apply Classical.byContradiction; intro hn
        rw [wz_ne fun y hy e => hn ⟨y, hy, e⟩] at h2
        exact c h2
      obtain ⟨y, hy, e⟩ := this
      have := h.off y hy
      rwa [e] at this
  have w : Sub (wz G Z) (wz G4 Z') := fun q f hq => by
    rw [wz_ne fun a ha e => ?_]
    · exact s4 _ _ hq
    · have := o4 a ha
      rw [e, hq] at this; cases this
  have hg : ∀ i, i < xss.length → (xss ++ [r]).getD i [] = xss.getD i [] := fun i hi => by simp [List.getD, List.getElem?_append_left hi]
  have hgl : (xss ++ [r]).getD xss.length [] = r := by simp [List.getD]
  have hl' : (xss ++ [r]).length = xss.length + 1 := by simp
  refine hK G4 Z' z' (fun i => if i = xss.length then (D, e) else hs i) ⟨s0, hO.cast ?_ hl'.symm, o0, fun i hi => ?_⟩
  · rw [hl', List.range_succ, List.map_append]
    congr 1
    · exact List.map_congr_left fun i hi => by
        have := List.mem_range.1 hi
        rw [if_neg (by omega), hg i this]
    · simp
  · rw [hl'] at hi
    by_cases c : i = xss.length
    · subst c; simp only [if_true]; rw [hgl]; exact hr.sub w
    · simp only [if_neg c]; rw [hg i (by omega)]; exact (h.row i (by omega)).sub w
theorem IntS.take {G : GH} {A : Option Addr} {c k : Nat} {xs : List Int} (h : IntS G A c xs) (hk : k ≤ xs.length) : IntS G A c (xs.take k) :=
  ⟨by have := h.cap; simp; omega, fun i hi => by
    have hi' : i < k := by simp at hi; omega
    rw [show (xs.take k).getD i 0 = xs.getD i 0 by simp [List.getD, List.getElem?_take, hi']]
    exact h.rd i (by omega)⟩
theorem IntS.from {G : GH} {A : Option Addr} {c k : Nat} {xs : List Int} (h : IntS G A c xs) (hk : k ≤ xs.length) : IntS G (if c = k then A else pa A k) (c - k) (xs.drop k) := by
  have hc := h.cap
  refine ⟨by simp; omega, fun i hi => ?_⟩
  have hi' : k + i < xs.length := by simp at hi; omega
  rw [if_neg (by omega), pa_pa, show (xs.drop k).getD i 0 = xs.getD (k + i) 0 by simp [List.getD]]
  exact h.rd (k + i) hi'
theorem sl_from {A : Option Addr} {n c l : Nat} (hl : l ≤ n) (hn : n ≤ c) : slV 1 (.slice A n c) (some (.int .i64 (l : Int))) none = some (.slice (if c = l then A else pa A l) (n - l) (c - l)) := by
  simp only [slV, onSl, bndV, onInt, Option.bind_some]
  rw [if_pos ⟨by omega, by omega⟩]
  simp only [Option.bind_some, Int.toNat_natCast]
  rw [if_pos hl, Nat.mul_one]
def h2S (A B : Option Addr) (c d : Nat) (i : Nat) : Option Addr × Nat := if i = 0 then (A, c) else (B, d)
theorem rows_two {G : GH} {b : Nat} {A B : Option Addr} {c d : Nat} {xs ys : List Int} (hb : G b = none) (h : IntS G A c xs) (h' : IntS G B d ys) : RowS (put G b ⟨[.slice A xs.length c, .slice B ys.length d], true⟩) (some ⟨b, 0, none⟩) 2 (h2S A B c d) [xs, ys] := by
  have s := Sub.put hb ⟨[.slice A xs.length c, .slice B ys.length d], true⟩
  refine ⟨by simp, fun i hi => ?_, fun i hi => ?_⟩
  · have : i = 0 ∨ i = 1 := by simp at hi; omega
    rcases this with rfl | rfl <;> rw [pa_mk, rd_put] <;> rfl
  · have : i = 0 ∨ i = 1 := by simp at hi; omega
    rcases this with rfl | rfl
    · exact h.sub s
    · exact h'.sub s
theorem erase_two (s : List Int) (k : Nat) : [s.take k, s.drop (k + 1)].flatten = s.eraseIdx k := by
  rw [List.eraseIdx_eq_take_drop_succ]; simp
theorem New.ints2 {G G' : GH} {A : Option Addr} {c n : Nat} {xs : List Int} (h : New G G' A c (xs.map I64) 1 n) (hn : n = xs.length) : IntS G' A c xs := h.fresh.ints' hn
theorem impl_facesOf_ok {G : GH} {A : Option Addr} {c : Nat} {s : List Int} (h : IntS G A c s) (hl : s.length ≤ 2 ^ 10) {K : Value → GH → Prop}
    (hk : ∀ G' Y y hs, Sub G G' → RowS G' Y y hs (facs s) → K (.slice Y (facs s).length y) G') : GC Tryz.prog 161 [.slice A s.length c] G K := by
  refine k9m (by simp) ?_
  have hcap := h.cap
  simp (maxSteps := 300000) (disch := omega) only [gws, ↓reduceIte, reduceEqDiff, reduceToNat, reduceMul, reduceAdd, Nat.reduceBEq, isLd]
  refine gLoop_intro (fun m T G' => ∃ (k : Nat) (Z : Option Addr) (z : Nat) (hs : Nat → Option Addr × Nat), T 0 = .slice A s.length c ∧ T 3 = .slice Z ((facs s).take k).length z ∧ T 6 = .int .i64 s.length ∧ T 7 = .int .i64 k ∧ m + k = s.length ∧ k ≤ s.length ∧ RB G G' Z z hs ((facs s).take k)) s.length
    ⟨0, none, 0, fun _ => (none, 0), by simp (maxSteps := 300000) (disch := omega) only [gws, ↓reduceIte, reduceEqDiff, reduceToNat, reduceMul, reduceAdd, Nat.reduceBEq, isLd], by simp (maxSteps := 300000) (disch := omega) only [gws, ↓reduceIte, reduceEqDiff, reduceToNat, reduceMul, reduceAdd, Nat.reduceBEq, isLd] <;> simp, by simp (maxSteps := 300000) (disch := omega) only [gws, ↓reduceIte, reduceEqDiff, reduceToNat, reduceMul, reduceAdd, Nat.reduceBEq, isLd], by simp (maxSteps := 300000) (disch := omega) only [gws, ↓reduceIte, reduceEqDiff, reduceToNat, reduceMul, reduceAdd, Nat.reduceBEq, isLd] <;> rfl, by omega, by omega, by simpa using RB.nil G _⟩ ?_
  rintro m T G' ⟨k, Z, z, hs, e0, e3, e6, e7, hm, hkl, hB⟩
  simp (maxSteps := 300000) (disch := omega) only [gws, ↓reduceIte, reduceEqDiff, reduceToNat, reduceMul, reduceAdd, Nat.reduceBEq, isLd, e0, e3, e6, e7]
  by_cases hkk : (k : Int) < s.length
  · by_cases h1 : (1 : Int) < s.length
    · have w1 := sl_init (A := A) (n := s.length) (c := c) (i := k) (by omega) hcap
      have w2 := sl_from (A := A) (n := s.length) (c := c) (l := k + 1) (by omega) hcap
      rw [show (((k + 1 : Nat)) : Int) = (k : Int) + 1 by omega] at w2
      simp (maxSteps := 300000) (disch := omega) only [gws, ↓reduceIte, reduceEqDiff, reduceToNat, reduceMul, reduceAdd, Nat.reduceBEq, isLd, e0, e3, e6, e7, hkk, h1, w1, w2, Option.map_none, gBs]
      refine ⟨fun v hv => (by simp at hv; rcases hv with rfl | rfl <;> rfl), fun b hb => ?_⟩
      have hI := h.sub hB.sub
      have hT := hI.take (k := k) (by omega)
      have hF := hI.from (k := k + 1) (by omega)
      have hR := rows_two hb hT hF
      rw [show (s.take k).length = k by simp; omega, show (s.drop (k + 1)).length = s.length - (k + 1) by simp] at hR
      have sb := Sub.put hb ⟨[Value.slice A k c, Value.slice (if c = k + 1 then A else pa A (k + 1)) (s.length - (k + 1)) (c - (k + 1))], true⟩
      have hfl := erase_two s k
      have hel : (s.eraseIdx k).length = s.length - 1 := by rw [List.length_eraseIdx_of_lt (by omega)]
      refine ConcatR_ok (xss := [s.take k, s.drop (k + 1)]) hR (by simp) (by rw [hfl, hel]; omega) fun G2 D e hN => ?_
      rw [hfl] at hN ⊢
      simp (maxSteps := 300000) (disch := omega) only [gws, ↓reduceIte, reduceEqDiff, reduceToNat, reduceMul, reduceAdd, Nat.reduceBEq, isLd, gBs]
      refine ⟨fun v hv => (by simp at hv; subst hv; rfl), fun b2 hb2 => ?_⟩
      have s2 := Sub.put hb2 ⟨[.slice D (s.eraseIdx k).length e], true⟩
      have hB2 := ((hB.up sb).up hN.sub).up s2
      have hr : IntS (wz G2 Z) D e (s.eraseIdx k) := (hN.own.ints' rfl).sub fun q f hq => by
        obtain ⟨h1, h3⟩ := rest_some.1 hq
        rw [wz_ne fun a ha e' => ?_]
        · exact h3
        · exact own_ne (hB.out.sub sb) a ha (by rw [e']; exact h1)
      have hg : (facs s).take (k + 1) = (facs s).take k ++ [s.eraseIdx k] := by
        have hfl1 := facs_len (s := s) (by omega)
        have := facs_get (s := s) (k := k) (by omega) (by omega)
        rw [List.take_succ_eq_append_getElem (by omega)]
        congr 2
        rwa [show (facs s).getD k [] = (facs s)[k]'(by omega) by simp [List.getD, hfl1, show k < s.length by omega]] at this
      refine hB2.add (hr.sub (Sub.wz_mono s2)) (put_same _ _ _) (by have := facs_len (s := s) (by omega); simp; omega) fun G4 Z' z' hs' hB4 => ?_
      simp (maxSteps := 300000) (disch := omega) only [gws, ↓reduceIte, reduceEqDiff, reduceToNat, reduceMul, reduceAdd, Nat.reduceBEq, isLd, e0, e3, e6, e7]
      rw [← hg] at hB4
      have hl4 : ((facs s).take (k + 1)).length = ((facs s).take k).length + 1 := by rw [hg]; simp
      exact ⟨m - 1, by omega, G4, Sub.refl _, k + 1, Z', z', hs', by rw [hl4], rfl, by omega, by omega, hB4⟩
    · simp (maxSteps := 300000) (disch := omega) only [gws, ↓reduceIte, reduceEqDiff, reduceToNat, reduceMul, reduceAdd, Nat.reduceBEq, isLd, e0, e3, e6, e7, hkk, h1]
      have hf0 : facs s = [] := by unfold facs; rw [if_neg (by omega)]
      rw [hf0] at hB ⊢
      exact ⟨m - 1, by omega, _, Sub.refl _, k + 1, Z, z, hs, by simp, rfl, by omega, by omega, by simpa using hB⟩
  · simp (maxSteps := 300000) (disch := omega) only [gws, ↓reduceIte, reduceEqDiff, reduceToNat, reduceMul, reduceAdd, Nat.reduceBEq, isLd, e0, e3, e6, e7, hkk]
    obtain rfl : k = s.length := by omega
    have hf : (facs s).take s.length = facs s := by
      refine List.take_of_length_le ?_
      unfold facs; split <;> simp
    rw [hf] at hB ⊢
    exact hk G' Z z hs hB.sub hB.rows
/-- a complex that a pointer leads to. -/
structure CxP (G : GH) (q : Option Addr) (A : Option Addr) (c : Nat) (hs : Nat → Option Addr × Nat) (xss : List (List Int)) : Prop where
  f : rd G q = some (.slice A xss.length c)
  rows : RowS G A c hs xss
theorem CxP.sub {G G' : GH} {q A : Option Addr} {c : Nat} {hs : Nat → Option Addr × Nat} {xss : List (List Int)} (h : CxP G q A c hs xss) (s : Sub G G') : CxP G' q A c hs xss := ⟨rd_sub s h.f, h.rows.sub s⟩
theorem IntS.cellsI {G : GH} {A : Option Addr} {c : Nat} {xs : List Int} (h : IntS G A c xs) : Cells G A (xs.map I64) := fun j v hv => by
  have hj : j < xs.length := by have := (List.getElem?_eq_some_iff.1 hv).1; simpa using this
  rw [ints_get xs j hj] at hv
  cases hv
  exact h.rd j hj
theorem impl_ValidSimplex_ok {G : GH} {A : Option Addr} {c : Nat} {s : List Int} (h : IntS G A c s) (hl : s.length < 2 ^ 40) {K : Value → GH → Prop}
    (hk : ∀ z : Bool, (z = true ↔ SimOk s) → K (.bool z) G) : GC Tryz.prog 201 [.slice A s.length c] G K := by
  refine k43 (by simp) ?_
  simp (maxSteps := 300000) (disch := omega) only [gws, ↓reduceIte, reduceEqDiff, reduceToNat, reduceMul, reduceAdd, Nat.reduceBEq, isLd]
  by_cases h1 : (1 : Int) ≤ s.length
  · by_cases h2 : (s.length : Int) ≤ 4
    · simp (maxSteps := 300000) (disch := omega) only [gws, ↓reduceIte, reduceEqDiff, reduceToNat, reduceMul, reduceAdd, Nat.reduceBEq, isLd, h1, h2]
      refine impl_isRising_ok h hl fun z hz => ?_
      cases z
      · simp (maxSteps := 300000) (disch := omega) only [gws, ↓reduceIte, reduceEqDiff, reduceToNat, reduceMul, reduceAdd, Nat.reduceBEq, isLd]
        exact hk false ⟨fun x => (by cases x), fun x => (by have := hz.2 x.2.1; cases this)⟩
      · simp (maxSteps := 300000) (disch := omega) only [gws, ↓reduceIte, reduceEqDiff, reduceToNat, reduceMul, reduceAdd, Nat.reduceBEq, isLd]
        refine slices_ContainsFunc_ok (fun n => !decide (0 ≤ n ∧ n ≤ 9)) h hl (fun i hi K' hK' => ?_) ?_
        · simp (maxSteps := 300000) (disch := omega) only [gws, ↓reduceIte, reduceEqDiff, reduceToNat, reduceMul, reduceAdd, Nat.reduceBEq, isLd]
          refine k48 (by simp) ?_
          simp (maxSteps := 300000) (disch := omega) only [gws, ↓reduceIte, reduceEqDiff, reduceToNat, reduceMul, reduceAdd, Nat.reduceBEq, isLd]
          refine kc6 (by simp) ?_
          simp (maxSteps := 300000) (disch := omega) only [gws, ↓reduceIte, reduceEqDiff, reduceToNat, reduceMul, reduceAdd, Nat.reduceBEq, isLd]
          refine impl_within_ok _ _ _ ?_
          simp (maxSteps := 300000) (disch := omega) only [gws, ↓reduceIte, reduceEqDiff, reduceToNat, reduceMul, reduceAdd, Nat.reduceBEq, isLd]
          exact hK'
        · generalize hany : (s.any fun n => !decide (0 ≤ n ∧ n ≤ 9)) = bb
          simp (maxSteps := 300000) (disch := omega) only [gws, ↓reduceIte, reduceEqDiff, reduceToNat, reduceMul, reduceAdd, Nat.reduceBEq, isLd]
          refine hk _ ?_
          unfold SimOk
          rw [inB_mem]
          cases bb
          · rw [List.any_eq_false] at hany
            simp
            exact ⟨⟨by omega, by omega⟩, hz.1 rfl, fun x hx => by simpa using hany x hx⟩
          · rw [List.any_eq_true] at hany
            obtain ⟨x, hx, hy⟩ := hany
            simp
            exact fun _ _ _ => ⟨x, hx, fun h0 => by rcases (by simpa using hy : x < 0 ∨ 9 < x) with h | h <;> omega⟩
    · simp (maxSteps := 300000) (disch := omega) only [gws, ↓reduceIte, reduceEqDiff, reduceToNat, reduceMul, reduceAdd, Nat.reduceBEq, isLd, h1, h2]
      exact hk false ⟨fun x => (by cases x), fun x => by have := x.1.2; omega⟩
  · simp (maxSteps := 300000) (disch := omega) only [gws, ↓reduceIte, reduceEqDiff, reduceToNat, reduceMul, reduceAdd, Nat.reduceBEq, isLd, h1]
    exact hk false ⟨fun x => (by cases x), fun x => by have := x.1.1; omega⟩
theorem spec_l05Simplex_ok {G : GH} {A : Option Addr} {c : Nat} {s : List Int} (h : IntS G A c s) (hl : s.length < 2 ^ 40) {K : Value → GH → Prop}
    (hk : ∀ z : Bool, (z = true ↔ SimOk s) → K (.bool z) G) : GC Tryz.prog 138 [.slice A s.length c] G K := by
  refine k12m (by simp) ?_
  simp (maxSteps := 300000) (disch := omega) only [gws, ↓reduceIte, reduceEqDiff, reduceToNat, reduceMul, reduceAdd, Nat.reduceBEq, isLd]
  refine spec_l00In_ok _ _ _ ?_
  by_cases h1 : (1 : Int) ≤ s.length ∧ (s.length : Int) ≤ 4
  · rw [decide_eq_true h1]
    simp (maxSteps := 300000) (disch := omega) only [gws, ↓reduceIte, reduceEqDiff, reduceToNat, reduceMul, reduceAdd, Nat.reduceBEq, isLd]
    refine spec_l00Rises_ok h hl fun z hz => ?_
    simp (maxSteps := 300000) (disch := omega) only [gws, ↓reduceIte, reduceEqDiff, reduceToNat, reduceMul, reduceAdd, Nat.reduceBEq, isLd]
    exact hk z ⟨fun x => ⟨⟨by omega, by omega⟩, (hz.1 x).2, (hz.1 x).1⟩, fun x => hz.2 ⟨x.2.2, x.2.1⟩⟩
  · rw [decide_eq_false h1]
    simp (maxSteps := 300000) (disch := omega) only [gws, ↓reduceIte, reduceEqDiff, reduceToNat, reduceMul, reduceAdd, Nat.reduceBEq, isLd]
    exact hk false ⟨fun x => (by cases x), fun x => absurd ⟨by have := x.1.1; omega, by have := x.1.2; omega⟩ h1⟩
theorem spec_l05Before_ok {G : GH} {A B : Option Addr} {c d : Nat} {xs ys : List Int} (h : IntS G A c xs) (h' : IntS G B d ys) (hl : xs.length < 2 ^ 40) (hl' : ys.length < 2 ^ 40) {K : Value → GH → Prop}
    (hk : K (.bool (decide (cmpS xs ys < 0))) G) : GC Tryz.prog 139 [.slice A xs.length c, .slice B ys.length d] G K := by
  refine k10n (by simp) ?_
  have hsn := h.sn
  have hsn' := h'.sn
  have r := h.rd
  have r' := h'.rd
  simp only [cmpS_neg] at hk
  simp (maxSteps := 300000) (disch := omega) only [gws, ↓reduceIte, reduceEqDiff, reduceToNat, reduceMul, reduceAdd, Nat.reduceBEq, isLd]
  by_cases he : (xs.length : Int) = ys.length
  · have he' : xs.length = ys.length := by omega
    simp (maxSteps := 300000) (disch := omega) only [gws, ↓reduceIte, reduceEqDiff, reduceToNat, reduceMul, reduceAdd, Nat.reduceBEq, isLd, eq_true he]
    refine gLoop_intro (fun m T G' => ∃ k : Nat, T 0 = .slice A xs.length c ∧ T 1 = .slice B ys.length d ∧ T 5 = .int .i64 k ∧ m + k = xs.length ∧ k ≤ xs.length ∧ G' = G ∧ ∀ i, i < k → xs.getD i 0 = ys.getD i 0) xs.length
      ⟨0, by simp (maxSteps := 300000) (disch := omega) only [gws, ↓reduceIte, reduceEqDiff, reduceToNat, reduceMul, reduceAdd, Nat.reduceBEq, isLd], by simp (maxSteps := 300000) (disch := omega) only [gws, ↓reduceIte, reduceEqDiff, reduceToNat, reduceMul, reduceAdd, Nat.reduceBEq, isLd], by simp (maxSteps := 300000) (disch := omega) only [gws, ↓reduceIte, reduceEqDiff, reduceToNat, reduceMul, reduceAdd, Nat.reduceBEq, isLd] <;> rfl, by omega, by omega, rfl, fun i hi => by omega⟩ ?_
    rintro m T G' ⟨k, e0, e1, e5, hm, hkl, rfl, hin⟩
    simp (maxSteps := 300000) (disch := omega) only [gws, ↓reduceIte, reduceEqDiff, reduceToNat, reduceMul, reduceAdd, Nat.reduceBEq, isLd, e0, e1, e5]
    by_cases hkk : (k : Int) < xs.length
    · simp (maxSteps := 300000) (disch := omega) only [gws, ↓reduceIte, reduceEqDiff, reduceToNat, reduceMul, reduceAdd, Nat.reduceBEq, isLd, e0, e1, e5, hkk, r, r']
      by_cases hv : xs.getD k 0 = ys.getD k 0
      · simp (maxSteps := 300000) (disch := omega) only [gws, ↓reduceIte, reduceEqDiff, reduceToNat, reduceMul, reduceAdd, Nat.reduceBEq, isLd, eq_true hv, e0, e1, e5]
        exact ⟨m - 1, by omega, _, Sub.refl _, k + 1, rfl, by omega, by omega, rfl, fun i hi => by
          by_cases hik : i = k
          · subst hik; exact hv
          · exact hin i (by omega)⟩
      · simp (maxSteps := 300000) (disch := omega) only [gws, ↓reduceIte, reduceEqDiff, reduceToNat, reduceMul, reduceAdd, Nat.reduceBEq, isLd, eq_false hv, e0, e1, e5, hkk, r, r']
        have hlex := lexC_at (xs := xs) (ys := ys) (k := k) (by omega) (by omega) hin (fun x => hv (cmp3_zero.1 x))
        have : (xs.length < ys.length ∨ (xs.length = ys.length ∧ lexC xs ys < 0)) = (xs.getD k 0 < ys.getD k 0) := propext ⟨fun x => by
          rcases x with x | x
          · omega
          · rw [hlex, cmp3_neg] at x; exact x.2, fun x => .inr ⟨he', by rw [hlex, cmp3_neg]; exact x⟩⟩
        simp only [this] at hk
        exact hk
    · simp (maxSteps := 300000) (disch := omega) only [gws, ↓reduceIte, reduceEqDiff, reduceToNat, reduceMul, reduceAdd, Nat.reduceBEq, isLd, e0, e1, e5, hkk]
      have hlex := lexC_end (xs := xs) (ys := ys) (by omega) fun i hi => hin i (by omega)
      rw [if_neg (by omega)] at hlex
      rw [decide_eq_false (by rw [hlex]; omega)] at hk
      exact hk
  · simp (maxSteps := 300000) (disch := omega) only [gws, ↓reduceIte, reduceEqDiff, reduceToNat, reduceMul, reduceAdd, Nat.reduceBEq, isLd, eq_false he]
    have : (xs.length < ys.length ∨ (xs.length = ys.length ∧ lexC xs ys < 0)) = ((xs.length : Int) < ys.length) := propext ⟨fun x => by omega, fun x => .inl (by omega)⟩
    simp only [this] at hk
    exact hk
theorem spec_l05Find_ok {G : GH} {q A B : Option Addr} {c d : Nat} {hs : Nat → Option Addr × Nat} {xss : List (List Int)} {t : List Int} (h : CxP G q A c hs xss) (ht : IntS G B d t) (hl : xss.length ≤ 2 ^ 20) (hl1 : ∀ i, i < xss.length → (xss.getD i []).length < 2 ^ 40) {K : Value → GH → Prop}
    (hk : K (.int .i64 (fIdx xss t)) G) : GC Tryz.prog 140 [.pointer q, .slice B t.length d] G K := by
  refine k11l (by simp) ?_
  have hf := h.f
  have hq := rd_some hf
  have hsn := h.rows.sn
  have r := h.rows.r
  simp (maxSteps := 300000) (disch := omega) only [gws, ↓reduceIte, reduceEqDiff, reduceToNat, reduceMul, reduceAdd, Nat.reduceBEq, isLd]
  refine gLoop_intro (fun m T G' => ∃ k : Nat, T 0 = .pointer q ∧ T 1 = .slice B t.length d ∧ T 5 = .int .i64 k ∧ m + k = xss.length ∧ k ≤ xss.length ∧ G' = G ∧ ∀ i, i < k → xss.getD i [] ≠ t) xss.length
    ⟨0, by simp (maxSteps := 300000) (disch := omega) only [gws, ↓reduceIte, reduceEqDiff, reduceToNat, reduceMul, reduceAdd, Nat.reduceBEq, isLd], by simp (maxSteps := 300000) (disch := omega) only [gws, ↓reduceIte, reduceEqDiff, reduceToNat, reduceMul, reduceAdd, Nat.reduceBEq, isLd], by simp (maxSteps := 300000) (disch := omega) only [gws, ↓reduceIte, reduceEqDiff, reduceToNat, reduceMul, reduceAdd, Nat.reduceBEq, isLd] <;> rfl, by omega, by omega, rfl, fun i hi => by omega⟩ ?_
  rintro m T G' ⟨k, e0, e1, e5, hm, hkl, rfl, hin⟩
  simp (maxSteps := 300000) (disch := omega) only [gws, ↓reduceIte, reduceEqDiff, reduceToNat, reduceMul, reduceAdd, Nat.reduceBEq, isLd, e0, e1, e5, hf]
  by_cases hkk : (k : Int) < xss.length
  · simp (maxSteps := 300000) (disch := omega) only [gws, ↓reduceIte, reduceEqDiff, reduceToNat, reduceMul, reduceAdd, Nat.reduceBEq, isLd, e0, e1, e5, hf, hkk, r]
    refine spec_l00Same_ok (h.rows.row k (by omega)) ht (hl1 k (by omega)) ?_
    generalize hz : decide (xss.getD k [] = t) = z
    cases z
    · simp (maxSteps := 300000) (disch := omega) only [gws, ↓reduceIte, reduceEqDiff, reduceToNat, reduceMul, reduceAdd, Nat.reduceBEq, isLd, e0, e1, e5]
      exact ⟨m - 1, by omega, _, Sub.refl _, k + 1, rfl, by omega, by omega, rfl, fun i hi => by
        by_cases hik : i = k
        · subst hik; exact of_decide_eq_false hz
        · exact hin i (by omega)⟩
    · simp (maxSteps := 300000) (disch := omega) only [gws, ↓reduceIte, reduceEqDiff, reduceToNat, reduceMul, reduceAdd, Nat.reduceBEq, isLd, e0, e1, e5]
      have hkt := of_decide_eq_true hz
      have : fIdx xss t = k := by
        have hk' : k < xss.length := by omega
        have e' : xss[k] = t := by rwa [show xss.getD k [] = xss[k] by simp [List.getD, hk']] at hkt
        have hmem : t ∈ xss := by rw [← e']; exact List.getElem_mem hk'
        unfold fIdx
        rw [if_pos hmem]
        have hlt : xss.idxOf t < xss.length := List.idxOf_lt_length_iff.2 hmem
        have h1 := List.getElem_idxOf hlt
        congr 1
        apply Classical.byContradiction
        intro hne
        rcases Nat.lt_or_gt_of_ne hne with h2 | h2
        · refine hin _ h2 ?_
          rw [show xss.getD (xss.idxOf t) [] = xss[xss.idxOf t] by simp [List.getD, hlt]]; exact h1
        · have := List.not_of_lt_findIdx (p := fun x => x == t) (xs := xss) (i := k) h2
          simp [e'] at this
      rwa [this] at hk
  · simp (maxSteps := 300000) (disch := omega) only [gws, ↓reduceIte, reduceEqDiff, reduceToNat, reduceMul, reduceAdd, Nat.reduceBEq, isLd, e0, e1, e5, hf, hkk]
    have hno : t ∉ xss := fun hm => by
      obtain ⟨i, hi, e⟩ := List.mem_iff_getElem.1 hm
      exact hin i (by omega) (by rw [← e]; simp [List.getD, hi])
    unfold fIdx at hk
    rwa [if_neg hno] at hk
theorem spec_l05Drop_ok {G : GH} {A : Option Addr} {c k : Nat} {s : List Int} (h : IntS G A c s) (hl : s.length < 2 ^ 20) (hk0 : k < s.length) {K : Value → GH → Prop}
    (hk : ∀ G' D e, New G G' D e ((s.eraseIdx k).map I64) 1 (s.eraseIdx k).length → K (.slice D (s.eraseIdx k).length e) G') : GC Tryz.prog 141 [.slice A s.length c, .int .i64 (k : Int)] G K := by
  refine k10y (by simp) ?_
  have hcap := h.cap
  have w1 := sl_init (A := A) (n := s.length) (c := c) (i := k) (by omega) hcap
  have w2 := sl_from (A := A) (n := s.length) (c := c) (l := k + 1) (by omega) hcap
  rw [show (((k + 1 : Nat)) : Int) = (k : Int) + 1 by omega] at w2
  simp (maxSteps := 300000) (disch := omega) only [gws, ↓reduceIte, reduceEqDiff, reduceToNat, reduceMul, reduceAdd, Nat.reduceBEq, isLd, w1, Option.map_none]
  have hT := h.take (k := k) (by omega)
  have hF := h.from (k := k + 1) (by omega)
  have hlt : (s.take k).length = k := by simp; omega
  have hld : (s.drop (k + 1)).length = s.length - (k + 1) := by simp
  have key := fun K => spec_l00Own_ok hT (by omega) (K := K)
  rw [hlt] at key
  refine key _ fun G1 D e hN => ?_
  simp (maxSteps := 300000) (disch := omega) only [gws, ↓reduceIte, reduceEqDiff, reduceToNat, reduceMul, reduceAdd, Nat.reduceBEq, isLd, w2, Option.map_none]
  refine ap_new hN (Sub.refl _) (B := if c = k + 1 then A else pa A (k + 1)) (news := (s.drop (k + 1)).map I64) (m := s.length - (k + 1)) ?_ (by simp) ?_ rfl (by omega) (by omega) (by omega) fun G2 D2 e2 hN2 => ?_
  · exact (hF.sub hN.sub).cellsI
  · intro v hv
    obtain ⟨x, _, rfl⟩ := List.mem_map.1 hv
    rfl
  · simp (maxSteps := 300000) (disch := omega) only [gws, ↓reduceIte, reduceEqDiff, reduceToNat, reduceMul, reduceAdd, Nat.reduceBEq, isLd]
    have e1 : ((s.take k).map I64 ++ (s.drop (k + 1)).map I64) = (s.eraseIdx k).map I64 := by rw [← List.map_append, List.eraseIdx_eq_take_drop_succ]
    have e2' : k + (s.length - (k + 1)) = (s.eraseIdx k).length := by rw [List.length_eraseIdx_of_lt hk0]; omega
    rw [e1, e2'] at hN2
    rw [e2']
    exact hk G2 D2 e2 hN2
theorem facs_le {s f : List Int} (h : f ∈ facs s) : f.length ≤ s.length := by have := facs_shorter h; omega
theorem facs_n (s : List Int) : (facs s).length ≤ s.length := by unfold facs; split <;> simp
theorem sasc_take {xss : List (List Int)} {k : Nat} (hk : k ≤ xss.length) (h : ∀ i, i + 1 < k → cmpS (xss.getD i []) (xss.getD (i + 1) []) < 0) : SAsc (xss.take k) := sasc_of fun i hi => by
  have hi' : i + 1 < k := by simp at hi; omega
  have e : ∀ j, j < k → (xss.take k).getD j [] = xss.getD j [] := fun j hj => by simp [List.getD, List.getElem?_take, hj]
  rw [e i (by omega), e (i + 1) hi']
  exact h i hi'
theorem vc_reg6 {G : GH} {A S : Option Addr} {b1 b3 c k d : Nat} {hs : Nat → Option Addr × Nat} {xss : List (List Int)} {s : List Int} {T : Nat → Value} {Q : (Nat → Value) → GH → Prop} (t1 : T 1 = .pointer (some ⟨b1, 0, none⟩)) (t3 : T 3 = .pointer (some ⟨b3, 0, none⟩)) (t4 : T 4 = .slice S s.length d)
    (f1 : rd G (some ⟨b1, 0, none⟩) = some (.slice A xss.length c)) (f3 : rd G (some ⟨b3, 0, none⟩) = some (.int .i64 k)) (hk : k ≤ xss.length) (h : RowS G A c hs xss) (hS : IntS G S d s) (hs4 : s.length ≤ 4) (hsm : Sm xss) (ha : SAsc (xss.take k))
    (hq : ∀ z G' T', Sub G G' → (z = true ↔ ∃ f ∈ facs s, f ∉ xss.take k) → (∀ j, j ≤ 30 → T' j = T j) → T' 34 = .bool z → Q T' G') : gO Tryz.prog k2p Q T G := by
  obtain ⟨hn, hl⟩ := hsm
  simp (maxSteps := 300000) (disch := omega) only [gws, ↓reduceIte, reduceEqDiff, reduceToNat, reduceMul, reduceAdd, Nat.reduceBEq, isLd, t1, t3, t4]
  refine impl_facesOf_ok hS (by omega) fun G2 Y y hs2 s2 hR => ?_
  simp (maxSteps := 300000) (disch := omega) only [gws, ↓reduceIte, reduceEqDiff, reduceToNat, reduceMul, reduceAdd, Nat.reduceBEq, isLd, t1, t3, t4]
  have f1' := rd_sub s2 f1
  have f3' := rd_sub s2 f3
  have hc := h.cap
  refine slices_ContainsFuncR_ok (fun f => decide (fIdx (xss.take k) f < 0)) hR (by have := facs_n s; omega) (fun i hi K' hK' => ?_) fun z hz => ?_
  · simp (maxSteps := 300000) (disch := omega) only [gws, ↓reduceIte, reduceEqDiff, reduceToNat, reduceMul, reduceAdd, Nat.reduceBEq, isLd]
    refine k31 (by simp) ?_
    have w1 := sl_init (A := A) (n := xss.length) (c := c) (i := k) hk hc
    have hbl : bldV [Value.slice none 0 0] [(0, 1, .slice A k c)] = some [.slice A k c] := rfl
    simp (maxSteps := 300000) (disch := omega) only [gws, ↓reduceIte, reduceEqDiff, reduceToNat, reduceMul, reduceAdd, Nat.reduceBEq, isLd, f1', f3', w1, Option.map_none, hbl]
    have hlt : (xss.take k).length = k := by simp; omega
    have hfl : ((facs s).getD i []).length ≤ s.length := facs_le (by simp [List.getD, hi])
    have key := fun K => impl_indexOf_ok (K := K) ((h.sub s2).take hk) (hR.row i hi) ha (by rw [hlt]; omega) (fun j hj => by
      rw [hlt] at hj
      rw [show (xss.take k).getD j [] = xss.getD j [] by simp [List.getD, List.getElem?_take, hj]]
      have := hl j (by omega); omega) (by omega)
    rw [hlt] at key
    refine key _ ?_
    simp (maxSteps := 300000) (disch := omega) only [gws, ↓reduceIte, reduceEqDiff, reduceToNat, reduceMul, reduceAdd, Nat.reduceBEq, isLd]
    exact hK'
  · simp (maxSteps := 300000) (disch := omega) only [gws, ↓reduceIte, reduceEqDiff, reduceToNat, reduceMul, reduceAdd, Nat.reduceBEq, isLd, t1, t3, t4]
    refine hq z G2 _ s2 ?_ (fun j hj => ?_) (by simp (maxSteps := 300000) (disch := omega) only [gws, ↓reduceIte, reduceEqDiff, reduceToNat, reduceMul, reduceAdd, Nat.reduceBEq, isLd])
    · rw [hz]
      constructor
      · rintro ⟨f, hf, hp⟩
        exact ⟨f, hf, fIdx_neg.1 (of_decide_eq_true hp)⟩
      · rintro ⟨f, hf, hp⟩
        exact ⟨f, hf, decide_eq_true (fIdx_neg.2 hp)⟩
    · simp only [upd_app, if_neg (show ¬ j = 34 by omega), if_neg (show ¬ j = 33 by omega), if_neg (show ¬ j = 32 by omega), if_neg (show ¬ j = 31 by omega)]
theorem impl_ValidComplex_ok {G : GH} {A : Option Addr} {c : Nat} {hs : Nat → Option Addr × Nat} {xss : List (List Int)} (h : RowS G A c hs xss) (hsm : Sm xss) {K : Value → GH → Prop}
    (hk : ∀ z : Bool, (z = true ↔ CxOk xss) → K (.bool z) G) : GC Tryz.prog 179 [cxV A xss.length c] G K := by
  refine GC_drop (k2w (by simp) ?_)
  have hl := hsm.2
  have hn := hsm.1
  have hw := @vc_reg6
  unfold k2u k2s
  generalize k2p = R6 at hw ⊢
  unfold cxV
  simp (maxSteps := 300000) (disch := omega) only [gws, ↓reduceIte, reduceEqDiff, reduceToNat, reduceMul, reduceAdd, Nat.reduceBEq, isLd]
  intro b1 hb1
  have s1 := Sub.put hb1 ⟨[.slice A xss.length c], true⟩
  have f1 : rd (put G b1 ⟨[.slice A xss.length c], true⟩) (some ⟨b1, 0, none⟩) = some (.slice A xss.length c) := rd_box _ _ _ 0 _ rfl
  have h1 := h.sub s1
  revert h1 f1 s1
  generalize put G b1 ⟨[.slice A xss.length c], true⟩ = G1
  intro s1 f1 h1
  have hsn := h1.sn
  have r := h1.r
  simp (maxSteps := 300000) (disch := omega) only [gws, ↓reduceIte, reduceEqDiff, reduceToNat, reduceMul, reduceAdd, Nat.reduceBEq, isLd, f1]
  refine gLoop_intro (fun m T G' => ∃ k : Nat, T 1 = .pointer (some ⟨b1, 0, none⟩) ∧ T 6 = .slice A xss.length c ∧ T 7 = .int .i64 xss.length ∧ T 8 = .int .i64 k ∧ m + k = xss.length ∧ k ≤ xss.length ∧ G' = G1 ∧
    (∀ i, i < k → SimOk (xss.getD i [])) ∧ (∀ i, i + 1 < k → cmpS (xss.getD i []) (xss.getD (i + 1) []) < 0) ∧ ∀ i, i < k → ∀ f ∈ facs (xss.getD i []), f ∈ xss.take i) xss.length
    ⟨0, by simp (maxSteps := 300000) (disch := omega) only [gws, ↓reduceIte, reduceEqDiff, reduceToNat, reduceMul, reduceAdd, Nat.reduceBEq, isLd], by simp (maxSteps := 300000) (disch := omega) only [gws, ↓reduceIte, reduceEqDiff, reduceToNat, reduceMul, reduceAdd, Nat.reduceBEq, isLd], by simp (maxSteps := 300000) (disch := omega) only [gws, ↓reduceIte, reduceEqDiff, reduceToNat, reduceMul, reduceAdd, Nat.reduceBEq, isLd], by simp (maxSteps := 300000) (disch := omega) only [gws, ↓reduceIte, reduceEqDiff, reduceToNat, reduceMul, reduceAdd, Nat.reduceBEq, isLd] <;> rfl, by omega, by omega, rfl, fun i hi => by omega, fun i hi => by omega, fun i hi => by omega⟩ ?_
  rintro m T G' ⟨k, e1, e6, e7, e8, hm, hkl, rfl, hi1, hi2, hi3⟩
  simp (maxSteps := 300000) (disch := omega) only [gws, ↓reduceIte, reduceEqDiff, reduceToNat, reduceMul, reduceAdd, Nat.reduceBEq, isLd, e1, e6, e7, e8]
  by_cases hkk : (k : Int) < xss.length
  · simp (maxSteps := 300000) (disch := omega) only [gws, ↓reduceIte, reduceEqDiff, reduceToNat, reduceMul, reduceAdd, Nat.reduceBEq, isLd, e1, e6, e7, e8, hkk, r]
    intro b3 hb3
    simp (maxSteps := 300000) (disch := omega) only [gws, ↓reduceIte, reduceEqDiff, reduceToNat, reduceMul, reduceAdd, Nat.reduceBEq, isLd]
    refine st_one (put_same _ _ _) (by simp) rfl ?_
    rw [put_put', show List.set [Value.int .i64 0] 0 (.int .i64 (k : Int)) = [.int .i64 (k : Int)] from rfl]
    have s3 := Sub.put hb3 ⟨[.int .i64 k], true⟩
    have g3 : rd (put G' b3 ⟨[.int .i64 k], true⟩) (some ⟨b3, 0, none⟩) = some (.int .i64 k) := rd_box _ _ _ 0 _ rfl
    have g1 := rd_sub s3 f1
    have h3 := h1.sub s3
    revert s3 g3 g1 h3
    generalize put G' b3 ⟨[.int .i64 k], true⟩ = G2
    intro s3 g3 g1 h3
    have r3 := h3.r
    have hlk := hl k (by omega)
    simp (maxSteps := 300000) (disch := omega) only [gws, ↓reduceIte, reduceEqDiff, reduceToNat, reduceMul, reduceAdd, Nat.reduceBEq, isLd, e1, e6, e7, e8]
    refine impl_ValidSimplex_ok (h3.row k (by omega)) (by omega) fun z hz => ?_
    have fin : (¬ CxOk xss) → K (.bool false) G := fun hno => hk false ⟨fun x => (by cases x), fun x => absurd x hno⟩
    cases z
    · simp (maxSteps := 300000) (disch := omega) only [gws, ↓reduceIte, reduceEqDiff, reduceToNat, reduceMul, reduceAdd, Nat.reduceBEq, isLd]
      exact ⟨G, s1.trans s3, fin fun x => by have := hz.2 (x.s k (by omega)); cases this⟩
    · have hsk := hz.1 rfl
      by_cases hk0 : (0 : Int) < k
      · have hk1 : ((k : Int) - 1).toNat = k - 1 := by omega
        have hlk1 := hl (k - 1) (by omega)
        simp (maxSteps := 300000) (disch := omega) only [gws, ↓reduceIte, reduceEqDiff, reduceToNat, reduceMul, reduceAdd, Nat.reduceBEq, isLd, e1, e6, e7, e8, g3, g1, hk0, r3, hk1]
        refine impl_compareSimplices_ok (h3.row (k - 1) (by omega)) (h3.row k (by omega)) (by omega) (by omega) ?_
        by_cases hc : 0 ≤ cmpS (xss.getD (k - 1) []) (xss.getD k [])
        · simp (maxSteps := 300000) (disch := omega) only [gws, ↓reduceIte, reduceEqDiff, reduceToNat, reduceMul, reduceAdd, Nat.reduceBEq, isLd, hc]
          refine ⟨G, s1.trans s3, fin fun x => ?_⟩
          have := sasc_get x.a (i := k - 1) (j := k) (by omega) (by omega)
          omega
        · simp (maxSteps := 300000) (disch := omega) only [gws, ↓reduceIte, reduceEqDiff, reduceToNat, reduceMul, reduceAdd, Nat.reduceBEq, isLd, hc]
          refine hw (hs := hs) (by simp (maxSteps := 300000) (disch := omega) only [gws, ↓reduceIte, reduceEqDiff, reduceToNat, reduceMul, reduceAdd, Nat.reduceBEq, isLd, e1]) (by simp (maxSteps := 300000) (disch := omega) only [gws, ↓reduceIte, reduceEqDiff, reduceToNat, reduceMul, reduceAdd, Nat.reduceBEq, isLd]) (by simp (maxSteps := 300000) (disch := omega) only [gws, ↓reduceIte, reduceEqDiff, reduceToNat, reduceMul, reduceAdd, Nat.reduceBEq, isLd]) g1 g3 hkl h3 (h3.row k (by omega)) hsk.1.2 hsm (sasc_take hkl hi2) fun z G3 T' s3' hz' hT h34 => ?_
          have t1 : T' 1 = .pointer (some ⟨b1, 0, none⟩) := by rw [hT _ (by omega)]; simp (maxSteps := 300000) (disch := omega) only [gws, ↓reduceIte, reduceEqDiff, reduceToNat, reduceMul, reduceAdd, Nat.reduceBEq, isLd, e1]
          have t6 : T' 6 = .slice A xss.length c := by rw [hT _ (by omega)]; simp (maxSteps := 300000) (disch := omega) only [gws, ↓reduceIte, reduceEqDiff, reduceToNat, reduceMul, reduceAdd, Nat.reduceBEq, isLd, e6]
          have t7 : T' 7 = .int .i64 xss.length := by rw [hT _ (by omega)]; simp (maxSteps := 300000) (disch := omega) only [gws, ↓reduceIte, reduceEqDiff, reduceToNat, reduceMul, reduceAdd, Nat.reduceBEq, isLd, e7]
          have t8 : T' 8 = .int .i64 k := by rw [hT _ (by omega)]; simp (maxSteps := 300000) (disch := omega) only [gws, ↓reduceIte, reduceEqDiff, reduceToNat, reduceMul, reduceAdd, Nat.reduceBEq, isLd, e8]
          cases z
          · simp (maxSteps := 300000) (disch := omega) only [gws, ↓reduceIte, reduceEqDiff, reduceToNat, reduceMul, reduceAdd, Nat.reduceBEq, isLd, h34, t1, t6, t7, t8]
            refine ⟨m - 1, by omega, G', s3.trans s3', k + 1, rfl, by omega, by omega, rfl, fun i hi => ?_, fun i hi => ?_, fun i hi f hf => ?_⟩
            · by_cases hik : i = k
              · subst hik; exact hsk
              · exact hi1 i (by omega)
            · by_cases hik : i + 1 = k
              · have := (show cmpS (xss.getD (k - 1) []) (xss.getD k []) < 0 by omega)
                rwa [show k - 1 = i by omega, ← hik] at this
              · exact hi2 i (by omega)
            · by_cases hik : i = k
              · subst hik
                apply Classical.byContradiction
                intro hno
                have := hz'.2 ⟨f, hf, hno⟩
                cases this
              · exact hi3 i (by omega) f hf
          · simp (maxSteps := 300000) (disch := omega) only [gws, ↓reduceIte, reduceEqDiff, reduceToNat, reduceMul, reduceAdd, Nat.reduceBEq, isLd, h34]
            refine ⟨G, (s1.trans s3).trans s3', fin fun x => ?_⟩
            obtain ⟨f, hf, hno⟩ := hz'.1 rfl
            exact hno (mem_before x.a (by omega) hf (x.f k (by omega) f hf))
      · simp (maxSteps := 300000) (disch := omega) only [gws, ↓reduceIte, reduceEqDiff, reduceToNat, reduceMul, reduceAdd, Nat.reduceBEq, isLd, e1, e6, e7, e8, g3, g1, hk0]
        refine hw (hs := hs) (by simp (maxSteps := 300000) (disch := omega) only [gws, ↓reduceIte, reduceEqDiff, reduceToNat, reduceMul, reduceAdd, Nat.reduceBEq, isLd, e1]) (by simp (maxSteps := 300000) (disch := omega) only [gws, ↓reduceIte, reduceEqDiff, reduceToNat, reduceMul, reduceAdd, Nat.reduceBEq, isLd]) (by simp (maxSteps := 300000) (disch := omega) only [gws, ↓reduceIte, reduceEqDiff, reduceToNat, reduceMul, reduceAdd, Nat.reduceBEq, isLd]) g1 g3 hkl h3 (h3.row k (by omega)) hsk.1.2 hsm (sasc_take hkl hi2) fun z G3 T' s3' hz' hT h34 => ?_
        have t1 : T' 1 = .pointer (some ⟨b1, 0, none⟩) := by rw [hT _ (by omega)]; simp (maxSteps := 300000) (disch := omega) only [gws, ↓reduceIte, reduceEqDiff, reduceToNat, reduceMul, reduceAdd, Nat.reduceBEq, isLd, e1]
        have t6 : T' 6 = .slice A xss.length c := by rw [hT _ (by omega)]; simp (maxSteps := 300000) (disch := omega) only [gws, ↓reduceIte, reduceEqDiff, reduceToNat, reduceMul, reduceAdd, Nat.reduceBEq, isLd, e6]
        have t7 : T' 7 = .int .i64 xss.length := by rw [hT _ (by omega)]; simp (maxSteps := 300000) (disch := omega) only [gws, ↓reduceIte, reduceEqDiff, reduceToNat, reduceMul, reduceAdd, Nat.reduceBEq, isLd, e7]
        have t8 : T' 8 = .int .i64 k := by rw [hT _ (by omega)]; simp (maxSteps := 300000) (disch := omega) only [gws, ↓reduceIte, reduceEqDiff, reduceToNat, reduceMul, reduceAdd, Nat.reduceBEq, isLd, e8]
        cases z
        · simp (maxSteps := 300000) (disch := omega) only [gws, ↓reduceIte, reduceEqDiff, reduceToNat, reduceMul, reduceAdd, Nat.reduceBEq, isLd, h34, t1, t6, t7, t8]
          refine ⟨m - 1, by omega, G', s3.trans s3', k + 1, rfl, by omega, by omega, rfl, fun i hi => ?_, fun i hi => ?_, fun i hi f hf => ?_⟩
          · by_cases hik : i = k
            · subst hik; exact hsk
            · exact hi1 i (by omega)
          · by_cases hik : i + 1 = k
            · have := (show False by omega).elim (C := cmpS (xss.getD (k - 1) []) (xss.getD k []) < 0)
              rwa [show k - 1 = i by omega, ← hik] at this
            · exact hi2 i (by omega)
          · by_cases hik : i = k
            · subst hik
              apply Classical.byContradiction
              intro hno
              have := hz'.2 ⟨f, hf, hno⟩
              cases this
            · exact hi3 i (by omega) f hf
        · simp (maxSteps := 300000) (disch := omega) only [gws, ↓reduceIte, reduceEqDiff, reduceToNat, reduceMul, reduceAdd, Nat.reduceBEq, isLd, h34]
          refine ⟨G, (s1.trans s3).trans s3', fin fun x => ?_⟩
          obtain ⟨f, hf, hno⟩ := hz'.1 rfl
          exact hno (mem_before x.a (by omega) hf (x.f k (by omega) f hf))
  · simp (maxSteps := 300000) (disch := omega) only [gws, ↓reduceIte, reduceEqDiff, reduceToNat, reduceMul, reduceAdd, Nat.reduceBEq, isLd, e1, e6, e7, e8, hkk, f1]
    refine ⟨G, s1, hk _ ?_⟩
    rw [decide_eq_true_eq]
    obtain rfl : k = xss.length := by omega
    have ha := sasc_of (xss := xss) fun i hi => hi2 i hi
    exact ⟨fun x => ⟨by omega, hi1, ha, fun i hi f hf => List.mem_of_mem_take (hi3 i hi f hf)⟩, fun x => by have := x.n; omega⟩
theorem facs_mem {s : List Int} {k : Nat} (h : 1 < s.length) (hk : k < s.length) : s.eraseIdx k ∈ facs s := by
  unfold facs; rw [if_pos h]; exact List.mem_map.2 ⟨k, List.mem_range.2 hk, rfl⟩
theorem facs_ex {s f : List Int} (h : f ∈ facs s) : 1 < s.length ∧ ∃ k, k < s.length ∧ f = s.eraseIdx k := by
  unfold facs at h
  by_cases c : 1 < s.length
  · rw [if_pos c] at h
    obtain ⟨k, hk, rfl⟩ := List.mem_map.1 h
    exact ⟨c, k, List.mem_range.1 hk, rfl⟩
  · rw [if_neg c] at h; cases h
/-- the indices of the faces of a simplex. -/
def fcs (xss : List (List Int)) (k : Nat) : List Int := (facs (xss.getD k [])).map (fIdx xss)
theorem rows_mem {L : List (List Int)} {j : Nat} (h : j < L.length) : L.getD j [] ∈ L := by simp [List.getD, h]
theorem map_snoc {L : List (List Int)} {f : List Int → Int} {j : Nat} (h : j < L.length) : (L.map f).take (j + 1) = (L.map f).take j ++ [f (L.getD j [])] := by
  rw [← List.map_take, ← List.map_take, List.take_succ_eq_append_getElem h, List.map_append]
  simp [List.getD, h]
theorem fcs_snoc {xss : List (List Int)} {k j : Nat} (h : j < (facs (xss.getD k [])).length) : (fcs xss k).take (j + 1) = (fcs xss k).take j ++ [fIdx xss ((facs (xss.getD k [])).getD j [])] := map_snoc h
theorem ok_l0 {G : GH} {q A S : Option Addr} {c d k : Nat} {hs : Nat → Option Addr × Nat} {xss : List (List Int)} {s : List Int} {T : Nat → Value} {Q : Cont} (h : CxP G q A c hs xss) (hsm : Sm xss) (hS : IntS G S d s) (hs4 : s.length ≤ 4) (t0 : T 0 = .pointer q) (t3 : T 3 = .int .i64 k) (t4 : T 4 = .slice S s.length d) (t5 : T 5 = .int .i64 0)
    (hbad : ∀ T' G2, Sub G G2 → (∃ f ∈ facs s, f ∉ xss) → T' 2 = .bool false → Q .ret T' G2) (hok : ∀ T' G2, Sub G G2 → (∀ f ∈ facs s, f ∈ xss) → T' 0 = .pointer q → T' 3 = .int .i64 k → Q (.ex 2) T' G2) : gLoop (gW Tryz.prog k12b) Q T G := by
  have hl := hsm.2
  have hn := hsm.1
  refine gLoop_intro (fun m T G' => ∃ j : Nat, T 0 = .pointer q ∧ T 3 = .int .i64 k ∧ T 4 = .slice S s.length d ∧ T 5 = .int .i64 j ∧ m + j = s.length ∧ j ≤ s.length ∧ Sub G G' ∧ (1 < s.length → ∀ i, i < j → s.eraseIdx i ∈ xss)) s.length
    ⟨0, t0, t3, t4, t5, by omega, by omega, Sub.refl _, fun _ i hi => by omega⟩ ?_
  clear t0 t3 t4 t5
  rintro m T G' ⟨j, e0, e3, e4, e5, hm, hjl, hS', hin⟩
  simp (maxSteps := 300000) (disch := omega) only [gws, ↓reduceIte, reduceEqDiff, reduceToNat, reduceMul, reduceAdd, Nat.reduceBEq, isLd, e0, e3, e4, e5]
  by_cases hj : (j : Int) < s.length
  · by_cases h1 : (1 : Int) < s.length
    · simp (maxSteps := 300000) (disch := omega) only [gws, ↓reduceIte, reduceEqDiff, reduceToNat, reduceMul, reduceAdd, Nat.reduceBEq, isLd, e0, e3, e4, e5, hj, h1]
      refine spec_l05Drop_ok (k := j) (hS.sub hS') (by omega) (by omega) fun G2 D e hN => ?_
      simp (maxSteps := 300000) (disch := omega) only [gws, ↓reduceIte, reduceEqDiff, reduceToNat, reduceMul, reduceAdd, Nat.reduceBEq, isLd, e0, e3, e4, e5]
      have hel : (s.eraseIdx j).length ≤ 4 := by rw [List.length_eraseIdx_of_lt (by omega)]; omega
      refine spec_l05Find_ok ((h.sub hS').sub hN.sub) (hN.ints2 rfl) hn (fun i hi => by have := hl i hi; omega) ?_
      by_cases hfd : fIdx xss (s.eraseIdx j) < 0
      · simp (maxSteps := 300000) (disch := omega) only [gws, ↓reduceIte, reduceEqDiff, reduceToNat, reduceMul, reduceAdd, Nat.reduceBEq, isLd, hfd]
        exact hbad _ _ (hS'.trans hN.sub) ⟨_, facs_mem (by omega) (by omega), fIdx_neg.1 hfd⟩ (by simp (maxSteps := 300000) (disch := omega) only [gws, ↓reduceIte, reduceEqDiff, reduceToNat, reduceMul, reduceAdd, Nat.reduceBEq, isLd])
      · simp (maxSteps := 300000) (disch := omega) only [gws, ↓reduceIte, reduceEqDiff, reduceToNat, reduceMul, reduceAdd, Nat.reduceBEq, isLd, hfd, e0, e3, e4, e5]
        refine ⟨m - 1, by omega, G2, Sub.refl _, j + 1, rfl, by omega, by omega, hS'.trans hN.sub, fun hh i hi => ?_⟩
        by_cases hij : i = j
        · subst hij; exact Classical.byContradiction fun hno => hfd (fIdx_neg.2 hno)
        · exact hin hh i (by omega)
    · simp (maxSteps := 300000) (disch := omega) only [gws, ↓reduceIte, reduceEqDiff, reduceToNat, reduceMul, reduceAdd, Nat.reduceBEq, isLd, e0, e3, e4, e5, hj, h1]
      exact hok _ _ hS' (fun f hf => by have := (facs_ex hf).1; omega) (by simp (maxSteps := 300000) (disch := omega) only [gws, ↓reduceIte, reduceEqDiff, reduceToNat, reduceMul, reduceAdd, Nat.reduceBEq, isLd, e0]) (by simp (maxSteps := 300000) (disch := omega) only [gws, ↓reduceIte, reduceEqDiff, reduceToNat, reduceMul, reduceAdd, Nat.reduceBEq, isLd, e3])
  · simp (maxSteps := 300000) (disch := omega) only [gws, ↓reduceIte, reduceEqDiff, reduceToNat, reduceMul, reduceAdd, Nat.reduceBEq, isLd, e0, e3, e4, e5, hj]
    refine hok _ _ hS' (fun f hf => ?_) (by simp (maxSteps := 300000) (disch := omega) only [gws, ↓reduceIte, reduceEqDiff, reduceToNat, reduceMul, reduceAdd, Nat.reduceBEq, isLd, e0]) (by simp (maxSteps := 300000) (disch := omega) only [gws, ↓reduceIte, reduceEqDiff, reduceToNat, reduceMul, reduceAdd, Nat.reduceBEq, isLd, e3])
    obtain ⟨h1, i, hi, rfl⟩ := facs_ex hf
    exact hin h1 i (by omega)
theorem spec_l05Ok_ok {G : GH} {q A : Option Addr} {c : Nat} {hs : Nat → Option Addr × Nat} {xss : List (List Int)} (h : CxP G q A c hs xss) (hsm : Sm xss) {K : Value → GH → Prop}
    (hk : ∀ z : Bool, (z = true ↔ CxOk xss) → K (.bool z) G) : GC Tryz.prog 81 [.pointer q] G K := by
  refine GC_drop (k12h (by simp) ?_)
  have hl := hsm.2
  have hn := hsm.1
  have hf := h.f
  have hq := rd_some hf
  have hsn := h.rows.sn
  have r := h.rows.r
  simp (maxSteps := 300000) (disch := omega) only [gws, ↓reduceIte, reduceEqDiff, reduceToNat, reduceMul, reduceAdd, Nat.reduceBEq, isLd, hf]
  have fin : (¬ CxOk xss) → K (.bool false) G := fun hno => hk false ⟨fun x => (by cases x), fun x => absurd x hno⟩
  by_cases h48 : (48 : Int) < xss.length
  · simp (maxSteps := 300000) (disch := omega) only [gws, ↓reduceIte, reduceEqDiff, reduceToNat, reduceMul, reduceAdd, Nat.reduceBEq, isLd, h48]
    exact ⟨G, Sub.refl _, fin fun x => by have := x.n; omega⟩
  simp (maxSteps := 300000) (disch := omega) only [gws, ↓reduceIte, reduceEqDiff, reduceToNat, reduceMul, reduceAdd, Nat.reduceBEq, isLd, h48]
  refine gLoop_intro (fun m T G' => ∃ k : Nat, T 0 = .pointer q ∧ T 3 = .int .i64 k ∧ m + k = xss.length ∧ k ≤ xss.length ∧ G' = G ∧
    (∀ i, i < k → SimOk (xss.getD i [])) ∧ (∀ i, i + 1 < k → cmpS (xss.getD i []) (xss.getD (i + 1) []) < 0) ∧ ∀ i, i < k → ∀ f ∈ facs (xss.getD i []), f ∈ xss) xss.length
    ⟨0, by simp (maxSteps := 300000) (disch := omega) only [gws, ↓reduceIte, reduceEqDiff, reduceToNat, reduceMul, reduceAdd, Nat.reduceBEq, isLd], by simp (maxSteps := 300000) (disch := omega) only [gws, ↓reduceIte, reduceEqDiff, reduceToNat, reduceMul, reduceAdd, Nat.reduceBEq, isLd] <;> rfl, by omega, by omega, rfl, fun i hi => by omega, fun i hi => by omega, fun i hi => by omega⟩ ?_
  rintro m T G' ⟨k, e0, e3, hm, hkl, rfl, hi1, hi2, hi3⟩
  simp (maxSteps := 300000) (disch := omega) only [gws, ↓reduceIte, reduceEqDiff, reduceToNat, reduceMul, reduceAdd, Nat.reduceBEq, isLd, e0, e3, hf]
  by_cases hkk : (k : Int) < xss.length
  · have hlk := hl k (by omega)
    simp (maxSteps := 300000) (disch := omega) only [gws, ↓reduceIte, reduceEqDiff, reduceToNat, reduceMul, reduceAdd, Nat.reduceBEq, isLd, e0, e3, hf, hkk, r]
    refine spec_l05Simplex_ok (h.rows.row k (by omega)) (by omega) fun z hz => ?_
    cases z
    · simp (maxSteps := 300000) (disch := omega) only [gws, ↓reduceIte, reduceEqDiff, reduceToNat, reduceMul, reduceAdd, Nat.reduceBEq, isLd]
      exact ⟨G', Sub.refl _, fin fun x => by have := hz.2 (x.s k (by omega)); cases this⟩
    have hsk := hz.1 rfl
    by_cases hk0 : (0 : Int) < k
    · have hk1 : ((k : Int) - 1).toNat = k - 1 := by omega
      have hlk1 := hl (k - 1) (by omega)
      simp (maxSteps := 300000) (disch := omega) only [gws, ↓reduceIte, reduceEqDiff, reduceToNat, reduceMul, reduceAdd, Nat.reduceBEq, isLd, e0, e3, hf, hk0, r, hk1]
      refine spec_l05Before_ok (h.rows.row (k - 1) (by omega)) (h.rows.row k (by omega)) (by omega) (by omega) ?_
      by_cases hc : cmpS (xss.getD (k - 1) []) (xss.getD k []) < 0
      · rw [decide_eq_true hc]
        simp (maxSteps := 300000) (disch := omega) only [gws, ↓reduceIte, reduceEqDiff, reduceToNat, reduceMul, reduceAdd, Nat.reduceBEq, isLd, e0, e3]
        refine ok_l0 (s := xss.getD k []) (k := k) h hsm (h.rows.row k (by omega)) hsk.1.2 (by simp (maxSteps := 300000) (disch := omega) only [gws, ↓reduceIte, reduceEqDiff, reduceToNat, reduceMul, reduceAdd, Nat.reduceBEq, isLd, e0]) (by simp (maxSteps := 300000) (disch := omega) only [gws, ↓reduceIte, reduceEqDiff, reduceToNat, reduceMul, reduceAdd, Nat.reduceBEq, isLd, e3]) (by simp (maxSteps := 300000) (disch := omega) only [gws, ↓reduceIte, reduceEqDiff, reduceToNat, reduceMul, reduceAdd, Nat.reduceBEq, isLd]) (by simp (maxSteps := 300000) (disch := omega) only [gws, ↓reduceIte, reduceEqDiff, reduceToNat, reduceMul, reduceAdd, Nat.reduceBEq, isLd] <;> rfl) (fun T' G2 s2 hbad t2 => ?_) (fun T' G2 s2 hall t0 t3 => ?_)
        · simp (maxSteps := 300000) (disch := omega) only [gws, ↓reduceIte, reduceEqDiff, reduceToNat, reduceMul, reduceAdd, Nat.reduceBEq, isLd, t2]
          refine ⟨G', s2, fin fun x => ?_⟩
          obtain ⟨f, hf, hno⟩ := hbad
          exact hno (x.f k (by omega) f hf)
        · simp (maxSteps := 300000) (disch := omega) only [gws, ↓reduceIte, reduceEqDiff, reduceToNat, reduceMul, reduceAdd, Nat.reduceBEq, isLd, t0, t3]
          refine ⟨m - 1, by omega, G', s2, k + 1, rfl, by omega, by omega, rfl, fun i hi => ?_, fun i hi => ?_, fun i hi => ?_⟩
          · by_cases hik : i = k
            · subst hik; exact hsk
            · exact hi1 i (by omega)
          · by_cases hik : i + 1 = k
            · have := hc
              rwa [show k - 1 = i by omega, ← hik] at this
            · exact hi2 i (by omega)
          · by_cases hik : i = k
            · subst hik; exact hall
            · exact hi3 i (by omega)
      · rw [decide_eq_false hc]
        simp (maxSteps := 300000) (disch := omega) only [gws, ↓reduceIte, reduceEqDiff, reduceToNat, reduceMul, reduceAdd, Nat.reduceBEq, isLd]
        refine ⟨G', Sub.refl _, fin fun x => hc ?_⟩
        exact sasc_get x.a (i := k - 1) (j := k) (by omega) (by omega)
    · simp (maxSteps := 300000) (disch := omega) only [gws, ↓reduceIte, reduceEqDiff, reduceToNat, reduceMul, reduceAdd, Nat.reduceBEq, isLd, e0, e3, hf, hk0]
      refine ok_l0 (s := xss.getD k []) (k := k) h hsm (h.rows.row k (by omega)) hsk.1.2 (by simp (maxSteps := 300000) (disch := omega) only [gws, ↓reduceIte, reduceEqDiff, reduceToNat, reduceMul, reduceAdd, Nat.reduceBEq, isLd, e0]) (by simp (maxSteps := 300000) (disch := omega) only [gws, ↓reduceIte, reduceEqDiff, reduceToNat, reduceMul, reduceAdd, Nat.reduceBEq, isLd, e3]) (by simp (maxSteps := 300000) (disch := omega) only [gws, ↓reduceIte, reduceEqDiff, reduceToNat, reduceMul, reduceAdd, Nat.reduceBEq, isLd]) (by simp (maxSteps := 300000) (disch := omega) only [gws, ↓reduceIte, reduceEqDiff, reduceToNat, reduceMul, reduceAdd, Nat.reduceBEq, isLd] <;> rfl) (fun T' G2 s2 hbad t2 => ?_) (fun T' G2 s2 hall t0 t3 => ?_)
      · simp (maxSteps := 300000) (disch := omega) only [gws, ↓reduceIte, reduceEqDiff, reduceToNat, reduceMul, reduceAdd, Nat.reduceBEq, isLd, t2]
        refine ⟨G', s2, fin fun x => ?_⟩
        obtain ⟨f, hf, hno⟩ := hbad
        exact hno (x.f k (by omega) f hf)
      · simp (maxSteps := 300000) (disch := omega) only [gws, ↓reduceIte, reduceEqDiff, reduceToNat, reduceMul, reduceAdd, Nat.reduceBEq, isLd, t0, t3]
        refine ⟨m - 1, by omega, G', s2, k + 1, rfl, by omega, by omega, rfl, fun i hi => ?_, fun i hi => ?_, fun i hi => ?_⟩
        · by_cases hik : i = k
          · subst hik; exact hsk
          · exact hi1 i (by omega)
        · by_cases hik : i + 1 = k
          · have := (show False by omega).elim (C := cmpS (xss.getD (k - 1) []) (xss.getD k []) < 0)
            rwa [show k - 1 = i by omega, ← hik] at this
          · exact hi2 i (by omega)
        · by_cases hik : i = k
          · subst hik; exact hall
          · exact hi3 i (by omega)
  · simp (maxSteps := 300000) (disch := omega) only [gws, ↓reduceIte, reduceEqDiff, reduceToNat, reduceMul, reduceAdd, Nat.reduceBEq, isLd, e0, e3, hf, hkk]
    refine ⟨G', Sub.refl _, hk true ⟨fun _ => ?_, fun _ => rfl⟩⟩
    obtain rfl : k = xss.length := by omega
    exact ⟨by omega, hi1, sasc_of fun i hi => hi2 i hi, hi3⟩
theorem impl_faceIndices_ok {G : GH} {A : Option Addr} {c k : Nat} {hs : Nat → Option Addr × Nat} {xss : List (List Int)} (h : RowS G A c hs xss) (hx : CxOk xss) (hk0 : k < xss.length) {K : Value → GH → Prop}
    (hk : ∀ G' Y y, New G G' Y y ((fcs xss k).map I64) 1 (fcs xss k).length → K (.slice Y (fcs xss k).length y) G') : GC Tryz.prog 113 [cxV A xss.length c, .int .i64 (k : Int)] G K := by
  refine GC_drop (k99 (by simp) ?_)
  have hx1 := hx.n
  have hxs := hx.s k hk0
  have hs4 := hxs.1.2
  unfold cxV
  simp (maxSteps := 300000) (disch := omega) only [gws, ↓reduceIte, reduceEqDiff, reduceToNat, reduceMul, reduceAdd, Nat.reduceBEq, isLd]
  intro b1 hb1
  have s1 := Sub.put hb1 ⟨[.slice A xss.length c], true⟩
  have f1 : rd (put G b1 ⟨[.slice A xss.length c], true⟩) (some ⟨b1, 0, none⟩) = some (.slice A xss.length c) := rd_box _ _ _ 0 _ rfl
  have h1 := h.sub s1
  revert h1 f1 s1
  generalize put G b1 ⟨[.slice A xss.length c], true⟩ = G1
  intro s1 f1 h1
  have r := h1.r k hk0
  have hsn := h1.sn
  simp (maxSteps := 300000) (disch := omega) only [gws, ↓reduceIte, reduceEqDiff, reduceToNat, reduceMul, reduceAdd, Nat.reduceBEq, isLd, f1, r]
  refine impl_facesOf_ok (h1.row k hk0) (by omega) fun G2 Y y hs2 s2 hR => ?_
  have f2 := rd_sub s2 f1
  have h2 := h1.sub s2
  have rY := hR.r
  have snY := hR.sn
  have hfl := facs_n (xss.getD k [])
  have hlf : (fcs xss k).length = (facs (xss.getD k [])).length := by simp [fcs]
  simp (maxSteps := 300000) (disch := omega) only [gws, ↓reduceIte, reduceEqDiff, reduceToNat, reduceMul, reduceAdd, Nat.reduceBEq, isLd]
  refine gLoop_intro (fun m T G' => ∃ (j : Nat) (Z : Option Addr) (z : Nat), T 2 = .pointer (some ⟨b1, 0, none⟩) ∧ T 5 = .slice Z j z ∧ T 13 = .slice Y (facs (xss.getD k [])).length y ∧ T 14 = .int .i64 (facs (xss.getD k [])).length ∧ T 15 = .int .i64 j ∧ m + j = (facs (xss.getD k [])).length ∧ j ≤ (facs (xss.getD k [])).length ∧ New G2 G' Z z (((fcs xss k).take j).map I64) 1 j) (facs (xss.getD k [])).length
    ⟨0, none, 0, by simp (maxSteps := 300000) (disch := omega) only [gws, ↓reduceIte, reduceEqDiff, reduceToNat, reduceMul, reduceAdd, Nat.reduceBEq, isLd], by simp (maxSteps := 300000) (disch := omega) only [gws, ↓reduceIte, reduceEqDiff, reduceToNat, reduceMul, reduceAdd, Nat.reduceBEq, isLd] <;> rfl, by simp (maxSteps := 300000) (disch := omega) only [gws, ↓reduceIte, reduceEqDiff, reduceToNat, reduceMul, reduceAdd, Nat.reduceBEq, isLd], by simp (maxSteps := 300000) (disch := omega) only [gws, ↓reduceIte, reduceEqDiff, reduceToNat, reduceMul, reduceAdd, Nat.reduceBEq, isLd], by simp (maxSteps := 300000) (disch := omega) only [gws, ↓reduceIte, reduceEqDiff, reduceToNat, reduceMul, reduceAdd, Nat.reduceBEq, isLd] <;> rfl, by omega, by omega, by simpa using New.nil G2 1⟩ ?_
  rintro m T G' ⟨j, Z, z, e2, e5, e13, e14, e15, hm, hjl, hN⟩
  simp (maxSteps := 300000) (disch := omega) only [gws, ↓reduceIte, reduceEqDiff, reduceToNat, reduceMul, reduceAdd, Nat.reduceBEq, isLd, e2, e5, e13, e14, e15]
  by_cases hj : (j : Int) < (facs (xss.getD k [])).length
  · have f3 := rd_sub hN.sub f2
    have hfj : ((facs (xss.getD k [])).getD j []).length ≤ 4 := Nat.le_trans (facs_le (rows_mem (by omega))) hs4
    simp (maxSteps := 300000) (disch := omega) only [gws, ↓reduceIte, reduceEqDiff, reduceToNat, reduceMul, reduceAdd, Nat.reduceBEq, isLd, e2, e5, e13, e14, e15, hj, rd_sub hN.sub (rY j (by omega)), f3]
    refine impl_indexOf_ok (h2.sub hN.sub) ((hR.row j (by omega)).sub hN.sub) hx.a (by omega) (fun i hi => by have := (hx.s i hi).1.2; omega) (by omega) ?_
    simp (maxSteps := 300000) (disch := omega) only [gws, ↓reduceIte, reduceEqDiff, reduceToNat, reduceMul, reduceAdd, Nat.reduceBEq, isLd, gBs]
    refine ⟨fun v hv => (by simp at hv; subst hv; rfl), fun b2 hb2 => ?_⟩
    refine ap_new hN (Sub.put hb2 _) (cells_one [.int .i64 (fIdx xss ((facs (xss.getD k [])).getD j []))] true) (by rfl) (by intro v hv; simp at hv; subst hv; rfl) rfl (by omega) (by omega) (by omega) fun G4 Z' z' hN4 => ?_
    simp (maxSteps := 300000) (disch := omega) only [gws, ↓reduceIte, reduceEqDiff, reduceToNat, reduceMul, reduceAdd, Nat.reduceBEq, isLd, e2, e5, e13, e14, e15]
    have hg := fcs_snoc (xss := xss) (k := k) (j := j) (by omega)
    exact ⟨m - 1, by omega, G4, Sub.refl _, j + 1, Z', z', rfl, rfl, by omega, by omega, hN4.cast (by rw [hg]; simp [I64]) rfl⟩
  · simp (maxSteps := 300000) (disch := omega) only [gws, ↓reduceIte, reduceEqDiff, reduceToNat, reduceMul, reduceAdd, Nat.reduceBEq, isLd, e2, e5, e13, e14, e15, hj]
    obtain rfl : j = (facs (xss.getD k [])).length := by omega
    rw [← hlf] at hN ⊢
    rw [List.take_length] at hN
    obtain ⟨G'', s'', hN''⟩ := hN.low (s1.trans s2)
    exact ⟨G'', s'', hk _ _ _ hN''⟩
theorem spec_l05Faces_ok {G : GH} {q A : Option Addr} {c k : Nat} {hs : Nat → Option Addr × Nat} {xss : List (List Int)} (h : CxP G q A c hs xss) (hx : CxOk xss) (hk0 : k < xss.length) {K : Value → GH → Prop}
    (hk : ∀ G' Y y, New G G' Y y ((fcs xss k).map I64) 1 (fcs xss k).length → K (.slice Y (fcs xss k).length y) G') : GC Tryz.prog 149 [.pointer q, .int .i64 (k : Int)] G K := by
  refine GC_drop (k11a (by simp) ?_)
  have hx1 := hx.n
  have hxs := hx.s k hk0
  have hs4 := hxs.1.2
  have hf := h.f
  have hq := rd_some hf
  have hsn := h.rows.sn
  have r := h.rows.r k hk0
  have hS := h.rows.row k hk0
  have hlf : (fcs xss k).length = (facs (xss.getD k [])).length := by simp [fcs]
  simp (maxSteps := 300000) (disch := omega) only [gws, ↓reduceIte, reduceEqDiff, reduceToNat, reduceMul, reduceAdd, Nat.reduceBEq, isLd, hf, r, gBs]
  refine ⟨fun v hv => (by cases hv), fun b1 hb1 => ?_⟩
  have hN0 := New.mk hb1 [] 1 0 rfl
  refine gLoop_intro (fun m T G' => ∃ (j : Nat) (Z : Option Addr) (z : Nat), T 0 = .pointer q ∧ T 5 = .slice (hs k).1 (xss.getD k []).length (hs k).2 ∧ T 6 = .slice Z j z ∧ T 7 = .int .i64 j ∧ m + j = (xss.getD k []).length ∧ j ≤ (facs (xss.getD k [])).length ∧ New G G' Z z (((fcs xss k).take j).map I64) 1 j) (xss.getD k []).length
    ⟨0, _, _, by simp (maxSteps := 300000) (disch := omega) only [gws, ↓reduceIte, reduceEqDiff, reduceToNat, reduceMul, reduceAdd, Nat.reduceBEq, isLd], by simp (maxSteps := 300000) (disch := omega) only [gws, ↓reduceIte, reduceEqDiff, reduceToNat, reduceMul, reduceAdd, Nat.reduceBEq, isLd], by simp (maxSteps := 300000) (disch := omega) only [gws, ↓reduceIte, reduceEqDiff, reduceToNat, reduceMul, reduceAdd, Nat.reduceBEq, isLd] <;> rfl, by simp (maxSteps := 300000) (disch := omega) only [gws, ↓reduceIte, reduceEqDiff, reduceToNat, reduceMul, reduceAdd, Nat.reduceBEq, isLd] <;> rfl, by omega, by omega, by simpa using hN0⟩ ?_
  clear hN0
  rintro m T G' ⟨j, Z, z, e0, e5, e6, e7, hm, hjl, hN⟩
  simp (maxSteps := 300000) (disch := omega) only [gws, ↓reduceIte, reduceEqDiff, reduceToNat, reduceMul, reduceAdd, Nat.reduceBEq, isLd, e0, e5, e6, e7]
  have done : j = (facs (xss.getD k [])).length → ∃ G'', Sub G'' G' ∧ K (.slice Z j z) G'' := fun hj => by
    rw [hj, ← hlf] at hN ⊢
    rw [List.take_length] at hN
    exact ⟨G', Sub.refl _, hk _ _ _ hN⟩
  by_cases hj : (j : Int) < (xss.getD k []).length
  · by_cases h1 : (1 : Int) < (xss.getD k []).length
    · have hfl := facs_len (s := xss.getD k []) (by omega)
      have hgj := facs_get (s := xss.getD k []) (k := j) (by omega) (by omega)
      simp (maxSteps := 300000) (disch := omega) only [gws, ↓reduceIte, reduceEqDiff, reduceToNat, reduceMul, reduceAdd, Nat.reduceBEq, isLd, e0, e5, e6, e7, hj, h1]
      refine spec_l05Drop_ok (k := j) (hS.sub hN.sub) (by omega) (by omega) fun G2 D e hD => ?_
      simp (maxSteps := 300000) (disch := omega) only [gws, ↓reduceIte, reduceEqDiff, reduceToNat, reduceMul, reduceAdd, Nat.reduceBEq, isLd, e0, e5, e6, e7]
      refine spec_l05Find_ok ((h.sub hN.sub).sub hD.sub) (hD.ints2 rfl) (by omega) (fun i hi => by have := (hx.s i hi).1.2; omega) ?_
      simp (maxSteps := 300000) (disch := omega) only [gws, ↓reduceIte, reduceEqDiff, reduceToNat, reduceMul, reduceAdd, Nat.reduceBEq, isLd, gBs]
      refine ⟨fun v hv => (by simp at hv; subst hv; rfl), fun b2 hb2 => ?_⟩
      refine ap_new hN (hD.sub.trans (Sub.put hb2 _)) (cells_one [.int .i64 (fIdx xss ((xss.getD k []).eraseIdx j))] true) (by rfl) (by intro v hv; simp at hv; subst hv; rfl) rfl (by omega) (by omega) (by omega) fun G4 Z' z' hN4 => ?_
      simp (maxSteps := 300000) (disch := omega) only [gws, ↓reduceIte, reduceEqDiff, reduceToNat, reduceMul, reduceAdd, Nat.reduceBEq, isLd, e0, e5, e6, e7]
      have hg : (fcs xss k).take (j + 1) = (fcs xss k).take j ++ [fIdx xss ((xss.getD k []).eraseIdx j)] := by
        rw [← hgj]; exact fcs_snoc (by omega)
      exact ⟨m - 1, by omega, G4, Sub.refl _, j + 1, Z', z', rfl, rfl, by omega, by omega, hN4.cast (by rw [hg]; simp [I64]) rfl⟩
    · simp (maxSteps := 300000) (disch := omega) only [gws, ↓reduceIte, reduceEqDiff, reduceToNat, reduceMul, reduceAdd, Nat.reduceBEq, isLd, e0, e5, e6, e7, hj, h1]
      exact done (by
        have : (facs (xss.getD k [])).length = 0 := by unfold facs; rw [if_neg (by omega)]; rfl
        omega)
  · simp (maxSteps := 300000) (disch := omega) only [gws, ↓reduceIte, reduceEqDiff, reduceToNat, reduceMul, reduceAdd, Nat.reduceBEq, isLd, e0, e5, e6, e7, hj]
    exact done (by
      have : (facs (xss.getD k [])).length ≤ (xss.getD k []).length := facs_n _
      omega)
/-- the indices of the simplices of a dimension. -/
def ofdN (xss : List (List Int)) (d : Int) (k : Nat) : List Int := ((List.range k).filter fun i : Nat => decide (((xss.getD i []).length : Int) = d + 1)).map fun i : Nat => (i : Int)
def ofd (xss : List (List Int)) (d : Int) : List Int := ofdN xss d xss.length
theorem ofdN_yes {xss : List (List Int)} {d : Int} {k : Nat} (h : ((xss.getD k []).length : Int) = d + 1) : ofdN xss d (k + 1) = ofdN xss d k ++ [(k : Int)] := by
  unfold ofdN; rw [List.range_succ, List.filter_append, List.map_append]
  congr 1
  rw [List.filter_cons_of_pos (by simpa using h)]; rfl
theorem ofdN_no {xss : List (List Int)} {d : Int} {k : Nat} (h : ¬ ((xss.getD k []).length : Int) = d + 1) : ofdN xss d (k + 1) = ofdN xss d k := by
  unfold ofdN; rw [List.range_succ, List.filter_append, List.map_append]
  rw [List.filter_cons_of_neg (by simpa using h)]; simp
theorem ofdN_len (xss : List (List Int)) (d : Int) (k : Nat) : (ofdN xss d k).length ≤ k := by
  unfold ofdN; rw [List.length_map]
  exact Nat.le_trans (List.length_filter_le _ _) (by simp)
theorem ofd_mem {xss : List (List Int)} {d v : Int} : v ∈ ofd xss d ↔ ∃ i : Nat, i < xss.length ∧ v = i ∧ ((xss.getD i []).length : Int) = d + 1 := by
  unfold ofd ofdN
  simp only [List.mem_map, List.mem_filter, List.mem_range, decide_eq_true_eq]
  constructor
  · rintro ⟨i, ⟨h1, h2⟩, rfl⟩; exact ⟨i, h1, rfl, h2⟩
  · rintro ⟨i, h1, rfl, h2⟩; exact ⟨i, ⟨h1, h2⟩, rfl⟩
theorem ofd_len {xss : List (List Int)} (h : xss.length ≤ 48) (d : Int) : (ofd xss d).length ≤ 48 := Nat.le_trans (ofdN_len _ _ _) h
theorem ofd_get {xss : List (List Int)} {d : Int} {j : Nat} (hj : j < (ofd xss d).length) : ∃ i : Nat, i < xss.length ∧ (ofd xss d).getD j 0 = i ∧ ((xss.getD i []).length : Int) = d + 1 := by
  have : (ofd xss d).getD j 0 ∈ ofd xss d := by simp [List.getD, hj]
  exact ofd_mem.1 this
/-- the sum of the first stalks of some simplices. -/
def stN (L st : List Int) : Nat → Int
  | 0 => 0
  | j + 1 => stN L st j + st.getD (L.getD j 0).toNat 0
def ssum (xss : List (List Int)) (st : List Int) (d : Int) : Int := stN (ofd xss d) st (ofd xss d).length
theorem stN_bd {L st : List Int} (hb : InB st 0 3) : ∀ j, 0 ≤ stN L st j ∧ stN L st j ≤ 3 * j
  | 0 => by simp [stN]
  | j + 1 => by
    have := stN_bd (L := L) hb j
    have h2 : 0 ≤ st.getD (L.getD j 0).toNat 0 ∧ st.getD (L.getD j 0).toNat 0 ≤ 3 := by
      by_cases h : (L.getD j 0).toNat < st.length
      · exact hb _ h
      · generalize (L.getD j 0).toNat = q at h
        simp [List.getD, List.getElem?_eq_none (Nat.le_of_not_lt h)]
    simp only [stN]; push_cast; omega
def StOk (xss : List (List Int)) (st : List Int) : Prop := st.length = xss.length ∧ InB st 0 3 ∧ ∀ d : Int, 0 ≤ d → d ≤ 3 → ssum xss st d ≤ 32
def PrOk (p : Int) : Prop := 2 ≤ p ∧ p ≤ 251 ∧ ∀ d : Nat, 2 ≤ d → (d : Int) * d ≤ p → ¬ p.tmod d = 0
theorem impl_ValidPrime_okS (p : Int) {G : GH} {K : Value → GH → Prop} (hk : ∀ z : Bool, (z = true ↔ PrOk p) → K (.bool z) G) : GC Tryz.prog 180 [.int .i64 p] G K := by
  refine k3j (by simp) ?_
  simp (maxSteps := 300000) (disch := omega) only [gws, ↓reduceIte, reduceEqDiff, reduceToNat, reduceMul, reduceAdd, Nat.reduceBEq, isLd]
  refine impl_within_ok _ _ _ ?_
  by_cases h1 : 2 ≤ p ∧ p ≤ 251
  · rw [decide_eq_true h1]
    simp (maxSteps := 300000) (disch := omega) only [gws, ↓reduceIte, reduceEqDiff, reduceToNat, reduceMul, reduceAdd, Nat.reduceBEq, isLd]
    refine gLoop_intro (fun m T G' => ∃ d : Nat, T 0 = .int .i64 p ∧ T 3 = .int .i64 d ∧ m + d = 300 ∧ 2 ≤ d ∧ d ≤ 20 ∧ G' = G ∧ ∀ q : Nat, 2 ≤ q → q < d → ¬ p.tmod q = 0) 298
      ⟨2, by simp (maxSteps := 300000) (disch := omega) only [gws, ↓reduceIte, reduceEqDiff, reduceToNat, reduceMul, reduceAdd, Nat.reduceBEq, isLd], by simp (maxSteps := 300000) (disch := omega) only [gws, ↓reduceIte, reduceEqDiff, reduceToNat, reduceMul, reduceAdd, Nat.reduceBEq, isLd] <;> rfl, by omega, by omega, by omega, rfl, fun q h2 h3 => by omega⟩ ?_
    rintro m T G' ⟨d, e0, e3, hm, hd, hd2, rfl, hno⟩
    have hdd : (d : Int) * d ≤ 400 := by
      have : d * d ≤ 20 * 20 := Nat.mul_le_mul hd2 hd2
      have h2 : ((d * d : Nat) : Int) ≤ 400 := by omega
      rwa [Int.natCast_mul] at h2
    have hdd0 : 0 ≤ (d : Int) * d := Int.mul_nonneg (by omega) (by omega)
    have w : IntKind.i64.wrap ((d : Int) * d) = d * d := w64 _ (by omega) (by omega)
    simp (maxSteps := 300000) (disch := omega) only [gws, ↓reduceIte, reduceEqDiff, reduceToNat, reduceMul, reduceAdd, Nat.reduceBEq, isLd, e0, e3, w]
    by_cases hle : (d : Int) * d ≤ p
    · have hd16 : d < 17 := by
        apply Classical.byContradiction; intro hc
        have : 17 * 17 ≤ d * d := Nat.mul_le_mul (by omega) (by omega)
        have h2 : ((17 * 17 : Nat) : Int) ≤ ((d * d : Nat) : Int) := by omega
        rw [Int.natCast_mul] at h2; omega
      have hrem := bin_rem .i64 p (d : Int) (by omega)
      simp (maxSteps := 300000) (disch := omega) only [gws, ↓reduceIte, reduceEqDiff, reduceToNat, reduceMul, reduceAdd, Nat.reduceBEq, isLd, e0, e3, hle, hrem]
      by_cases hz : p.tmod d = 0
      · simp (maxSteps := 300000) (disch := omega) only [gws, ↓reduceIte, reduceEqDiff, reduceToNat, reduceMul, reduceAdd, Nat.reduceBEq, isLd, eq_true hz]
        exact hk false ⟨fun x => (by cases x), fun x => absurd hz (x.2.2 d hd hle)⟩
      · simp (maxSteps := 300000) (disch := omega) only [gws, ↓reduceIte, reduceEqDiff, reduceToNat, reduceMul, reduceAdd, Nat.reduceBEq, isLd, eq_false hz, e0, e3]
        exact ⟨m - 1, by omega, _, Sub.refl _, d + 1, rfl, by omega, by omega, by omega, rfl, fun q h2 h3 => by
          by_cases hq : q = d
          · subst hq; exact hz
          · exact hno q h2 (by omega)⟩
    · simp (maxSteps := 300000) (disch := omega) only [gws, ↓reduceIte, reduceEqDiff, reduceToNat, reduceMul, reduceAdd, Nat.reduceBEq, isLd, hle]
      refine hk true ⟨fun _ => ⟨h1.1, h1.2, fun q h2 h3 => ?_⟩, fun _ => rfl⟩
      by_cases hq : q < d
      · exact hno q h2 hq
      · exfalso
        have : d * d ≤ q * q := Nat.mul_le_mul (by omega) (by omega)
        have h4 : ((d * d : Nat) : Int) ≤ ((q * q : Nat) : Int) := by omega
        rw [Int.natCast_mul, Int.natCast_mul] at h4; omega
  · rw [decide_eq_false h1]
    simp (maxSteps := 300000) (disch := omega) only [gws, ↓reduceIte, reduceEqDiff, reduceToNat, reduceMul, reduceAdd, Nat.reduceBEq, isLd]
    exact hk false ⟨fun x => (by cases x), fun x => absurd ⟨x.1, x.2.1⟩ h1⟩
theorem spec_ValidPrime_okS (p : Int) {G : GH} {K : Value → GH → Prop} (hk : ∀ z : Bool, (z = true ↔ PrOk p) → K (.bool z) G) : GC Tryz.prog 142 [.int .i64 p] G K := by
  refine kud (by simp) ?_
  simp (maxSteps := 300000) (disch := omega) only [gws, ↓reduceIte, reduceEqDiff, reduceToNat, reduceMul, reduceAdd, Nat.reduceBEq, isLd]
  refine kvo (by simp) ?_
  simp (maxSteps := 300000) (disch := omega) only [gws, ↓reduceIte, reduceEqDiff, reduceToNat, reduceMul, reduceAdd, Nat.reduceBEq, isLd]
  refine spec_l00In_ok _ _ _ ?_
  by_cases h1 : 2 ≤ p ∧ p ≤ 251
  · rw [decide_eq_true h1]
    simp (maxSteps := 300000) (disch := omega) only [gws, ↓reduceIte, reduceEqDiff, reduceToNat, reduceMul, reduceAdd, Nat.reduceBEq, isLd]
    refine gLoop_intro (fun m T G' => ∃ d : Nat, T 0 = .int .i64 p ∧ T 3 = .int .i64 d ∧ m + d = 300 ∧ 2 ≤ d ∧ d ≤ 20 ∧ G' = G ∧ ∀ q : Nat, 2 ≤ q → q < d → ¬ p.tmod q = 0) 298
      ⟨2, by simp (maxSteps := 300000) (disch := omega) only [gws, ↓reduceIte, reduceEqDiff, reduceToNat, reduceMul, reduceAdd, Nat.reduceBEq, isLd], by simp (maxSteps := 300000) (disch := omega) only [gws, ↓reduceIte, reduceEqDiff, reduceToNat, reduceMul, reduceAdd, Nat.reduceBEq, isLd] <;> rfl, by omega, by omega, by omega, rfl, fun q h2 h3 => by omega⟩ ?_
    rintro m T G' ⟨d, e0, e3, hm, hd, hd2, rfl, hno⟩
    have hdd : (d : Int) * d ≤ 400 := by
      have : d * d ≤ 20 * 20 := Nat.mul_le_mul hd2 hd2
      have h2 : ((d * d : Nat) : Int) ≤ 400 := by omega
      rwa [Int.natCast_mul] at h2
    have hdd0 : 0 ≤ (d : Int) * d := Int.mul_nonneg (by omega) (by omega)
    have w : IntKind.i64.wrap ((d : Int) * d) = d * d := w64 _ (by omega) (by omega)
    simp (maxSteps := 300000) (disch := omega) only [gws, ↓reduceIte, reduceEqDiff, reduceToNat, reduceMul, reduceAdd, Nat.reduceBEq, isLd, e0, e3, w]
    by_cases hle : (d : Int) * d ≤ p
    · have hd16 : d < 17 := by
        apply Classical.byContradiction; intro hc
        have : 17 * 17 ≤ d * d := Nat.mul_le_mul (by omega) (by omega)
        have h2 : ((17 * 17 : Nat) : Int) ≤ ((d * d : Nat) : Int) := by omega
        rw [Int.natCast_mul] at h2; omega
      have hrem := bin_rem .i64 p (d : Int) (by omega)
      simp (maxSteps := 300000) (disch := omega) only [gws, ↓reduceIte, reduceEqDiff, reduceToNat, reduceMul, reduceAdd, Nat.reduceBEq, isLd, e0, e3, hle, hrem]
      by_cases hz : p.tmod d = 0
      · simp (maxSteps := 300000) (disch := omega) only [gws, ↓reduceIte, reduceEqDiff, reduceToNat, reduceMul, reduceAdd, Nat.reduceBEq, isLd, eq_true hz]
        exact hk false ⟨fun x => (by cases x), fun x => absurd hz (x.2.2 d hd hle)⟩
      · simp (maxSteps := 300000) (disch := omega) only [gws, ↓reduceIte, reduceEqDiff, reduceToNat, reduceMul, reduceAdd, Nat.reduceBEq, isLd, eq_false hz, e0, e3]
        exact ⟨m - 1, by omega, _, Sub.refl _, d + 1, rfl, by omega, by omega, by omega, rfl, fun q h2 h3 => by
          by_cases hq : q = d
          · subst hq; exact hz
          · exact hno q h2 (by omega)⟩
    · simp (maxSteps := 300000) (disch := omega) only [gws, ↓reduceIte, reduceEqDiff, reduceToNat, reduceMul, reduceAdd, Nat.reduceBEq, isLd, hle]
      refine hk true ⟨fun _ => ⟨h1.1, h1.2, fun q h2 h3 => ?_⟩, fun _ => rfl⟩
      by_cases hq : q < d
      · exact hno q h2 hq
      · exfalso
        have : d * d ≤ q * q := Nat.mul_le_mul (by omega) (by omega)
        have h4 : ((d * d : Nat) : Int) ≤ ((q * q : Nat) : Int) := by omega
        rw [Int.natCast_mul, Int.natCast_mul] at h4; omega
  · rw [decide_eq_false h1]
    simp (maxSteps := 300000) (disch := omega) only [gws, ↓reduceIte, reduceEqDiff, reduceToNat, reduceMul, reduceAdd, Nat.reduceBEq, isLd]
    exact hk false ⟨fun x => (by cases x), fun x => absurd ⟨x.1, x.2.1⟩ h1⟩
theorem impl_simplicesOf_ok {G : GH} {A : Option Addr} {c : Nat} {hs : Nat → Option Addr × Nat} {xss : List (List Int)} {d : Int} (h : RowS G A c hs xss) (hn : xss.length ≤ 48) (hl : ∀ i, i < xss.length → (xss.getD i []).length ≤ 2 ^ 20) (hd : -5 ≤ d ∧ d ≤ 10) {K : Value → GH → Prop}
    (hk : ∀ G' Y y, New G G' Y y ((ofd xss d).map I64) 1 (ofd xss d).length → K (.slice Y (ofd xss d).length y) G') : GC Tryz.prog 66 [cxV A xss.length c, .int .i64 d] G K := by
  refine GC_drop (key_ (by simp) ?_)
  unfold cxV
  simp (maxSteps := 300000) (disch := omega) only [gws, ↓reduceIte, reduceEqDiff, reduceToNat, reduceMul, reduceAdd, Nat.reduceBEq, isLd]
  intro b1 hb1
  have s1 := Sub.put hb1 ⟨[.slice A xss.length c], true⟩
  have f1 : rd (put G b1 ⟨[.slice A xss.length c], true⟩) (some ⟨b1, 0, none⟩) = some (.slice A xss.length c) := rd_box _ _ _ 0 _ rfl
  have h1 := h.sub s1
  revert h1 f1 s1
  generalize put G b1 ⟨[.slice A xss.length c], true⟩ = G1
  intro s1 f1 h1
  have r := h1.r
  have hsn := h1.sn
  simp (maxSteps := 300000) (disch := omega) only [gws, ↓reduceIte, reduceEqDiff, reduceToNat, reduceMul, reduceAdd, Nat.reduceBEq, isLd, f1]
  refine gLoop_intro (fun m T G' => ∃ (k : Nat) (Z : Option Addr) (z : Nat), T 1 = .int .i64 d ∧ T 5 = .slice Z (ofdN xss d k).length z ∧ T 9 = .slice A xss.length c ∧ T 10 = .int .i64 xss.length ∧ T 11 = .int .i64 k ∧ m + k = xss.length ∧ k ≤ xss.length ∧ New G1 G' Z z ((ofdN xss d k).map I64) 1 (ofdN xss d k).length) xss.length
    ⟨0, none, 0, by simp (maxSteps := 300000) (disch := omega) only [gws, ↓reduceIte, reduceEqDiff, reduceToNat, reduceMul, reduceAdd, Nat.reduceBEq, isLd], by simp (maxSteps := 300000) (disch := omega) only [gws, ↓reduceIte, reduceEqDiff, reduceToNat, reduceMul, reduceAdd, Nat.reduceBEq, isLd] <;> rfl, by simp (maxSteps := 300000) (disch := omega) only [gws, ↓reduceIte, reduceEqDiff, reduceToNat, reduceMul, reduceAdd, Nat.reduceBEq, isLd], by simp (maxSteps := 300000) (disch := omega) only [gws, ↓reduceIte, reduceEqDiff, reduceToNat, reduceMul, reduceAdd, Nat.reduceBEq, isLd], by simp (maxSteps := 300000) (disch := omega) only [gws, ↓reduceIte, reduceEqDiff, reduceToNat, reduceMul, reduceAdd, Nat.reduceBEq, isLd] <;> rfl, by omega, by omega, New.nil _ _⟩ ?_
  rintro m T G' ⟨k, Z, z, e1, e5, e9, e10, e11, hm, hkl, hN⟩
  have hlen := ofdN_len xss d k
  simp (maxSteps := 300000) (disch := omega) only [gws, ↓reduceIte, reduceEqDiff, reduceToNat, reduceMul, reduceAdd, Nat.reduceBEq, isLd, e1, e5, e9, e10, e11]
  by_cases hkk : (k : Int) < xss.length
  · have hlk := hl k (by omega)
    simp (maxSteps := 300000) (disch := omega) only [gws, ↓reduceIte, reduceEqDiff, reduceToNat, reduceMul, reduceAdd, Nat.reduceBEq, isLd, e1, e5, e9, e10, e11, hkk, rd_sub hN.sub (r k (by omega))]
    refine kf8 (by simp) ?_
    simp (maxSteps := 300000) (disch := omega) only [gws, ↓reduceIte, reduceEqDiff, reduceToNat, reduceMul, reduceAdd, Nat.reduceBEq, isLd, e1]
    by_cases hd1 : ((xss.getD k []).length : Int) = d + 1
    · simp (maxSteps := 300000) (disch := omega) only [gws, ↓reduceIte, reduceEqDiff, reduceToNat, reduceMul, reduceAdd, Nat.reduceBEq, isLd, eq_true hd1, e1, e5, e9, e10, e11, gBs]
      refine ⟨fun v hv => (by simp at hv; subst hv; rfl), fun b2 hb2 => ?_⟩
      refine ap_new hN (Sub.put hb2 _) (cells_one [.int .i64 (k : Int)] true) (by rfl) (by intro v hv; simp at hv; subst hv; rfl) rfl (by omega) (by omega) (by omega) fun G4 Z' z' hN4 => ?_
      simp (maxSteps := 300000) (disch := omega) only [gws, ↓reduceIte, reduceEqDiff, reduceToNat, reduceMul, reduceAdd, Nat.reduceBEq, isLd, e1, e5, e9, e10, e11]
      have hg := ofdN_yes hd1
      exact ⟨m - 1, by omega, G4, Sub.refl _, k + 1, Z', z', by rw [hg]; simp, rfl, by omega, by omega, hN4.cast (by rw [hg]; simp [I64]) (by rw [hg]; simp)⟩
    · simp (maxSteps := 300000) (disch := omega) only [gws, ↓reduceIte, reduceEqDiff, reduceToNat, reduceMul, reduceAdd, Nat.reduceBEq, isLd, eq_false hd1, e1, e5, e9, e10, e11]
      have hg := ofdN_no hd1
      exact ⟨m - 1, by omega, _, Sub.refl _, k + 1, Z, z, by rw [hg], rfl, by omega, by omega, by rw [hg]; exact hN⟩
  · simp (maxSteps := 300000) (disch := omega) only [gws, ↓reduceIte, reduceEqDiff, reduceToNat, reduceMul, reduceAdd, Nat.reduceBEq, isLd, e1, e5, e9, e10, e11, hkk]
    obtain rfl : k = xss.length := by omega
    obtain ⟨G'', s'', hN''⟩ := hN.low s1
    exact ⟨G'', s'', hk _ _ _ hN''⟩
theorem spec_l05Of_ok {G : GH} {q A : Option Addr} {c : Nat} {hs : Nat → Option Addr × Nat} {xss : List (List Int)} {d : Int} (h : CxP G q A c hs xss) (hn : xss.length ≤ 48) (hl : ∀ i, i < xss.length → (xss.getD i []).length ≤ 2 ^ 20) (hd : -5 ≤ d ∧ d ≤ 10) {K : Value → GH → Prop}
    (hk : ∀ G' Y y, New G G' Y y ((ofd xss d).map I64) 1 (ofd xss d).length → K (.slice Y (ofd xss d).length y) G') : GC Tryz.prog 70 [.pointer q, .int .i64 d] G K := by
  refine k11x (by simp) ?_
  have hf := h.f
  have hq := rd_some hf
  have r := h.rows.r
  have hsn := h.rows.sn
  simp (maxSteps := 300000) (disch := omega) only [gws, ↓reduceIte, reduceEqDiff, reduceToNat, reduceMul, reduceAdd, Nat.reduceBEq, isLd, gBs]
  refine ⟨fun v hv => (by cases hv), fun b1 hb1 => ?_⟩
  have hN0 := New.mk hb1 [] 1 0 rfl
  refine gLoop_intro (fun m T G' => ∃ (k : Nat) (Z : Option Addr) (z : Nat), T 0 = .pointer q ∧ T 1 = .int .i64 d ∧ T 5 = .slice Z (ofdN xss d k).length z ∧ T 6 = .int .i64 k ∧ m + k = xss.length ∧ k ≤ xss.length ∧ New G G' Z z ((ofdN xss d k).map I64) 1 (ofdN xss d k).length) xss.length
    ⟨0, _, _, by simp (maxSteps := 300000) (disch := omega) only [gws, ↓reduceIte, reduceEqDiff, reduceToNat, reduceMul, reduceAdd, Nat.reduceBEq, isLd], by simp (maxSteps := 300000) (disch := omega) only [gws, ↓reduceIte, reduceEqDiff, reduceToNat, reduceMul, reduceAdd, Nat.reduceBEq, isLd], by simp (maxSteps := 300000) (disch := omega) only [gws, ↓reduceIte, reduceEqDiff, reduceToNat, reduceMul, reduceAdd, Nat.reduceBEq, isLd] <;> rfl, by simp (maxSteps := 300000) (disch := omega) only [gws, ↓reduceIte, reduceEqDiff, reduceToNat, reduceMul, reduceAdd, Nat.reduceBEq, isLd] <;> rfl, by omega, by omega, hN0⟩ ?_
  clear hN0
  rintro m T G' ⟨k, Z, z, e0, e1, e5, e6, hm, hkl, hN⟩
  have hlen := ofdN_len xss d k
  have hf' := rd_sub hN.sub hf
  simp (maxSteps := 300000) (disch := omega) only [gws, ↓reduceIte, reduceEqDiff, reduceToNat, reduceMul, reduceAdd, Nat.reduceBEq, isLd, e0, e1, e5, e6, hf']
  by_cases hkk : (k : Int) < xss.length
  · have hlk := hl k (by omega)
    simp (maxSteps := 300000) (disch := omega) only [gws, ↓reduceIte, reduceEqDiff, reduceToNat, reduceMul, reduceAdd, Nat.reduceBEq, isLd, e0, e1, e5, e6, hf', hkk, rd_sub hN.sub (r k (by omega))]
    by_cases hd1 : ((xss.getD k []).length : Int) = d + 1
    · simp (maxSteps := 300000) (disch := omega) only [gws, ↓reduceIte, reduceEqDiff, reduceToNat, reduceMul, reduceAdd, Nat.reduceBEq, isLd, eq_true hd1, e0, e1, e5, e6, gBs]
      refine ⟨fun v hv => (by simp at hv; subst hv; rfl), fun b2 hb2 => ?_⟩
      refine ap_new hN (Sub.put hb2 _) (cells_one [.int .i64 (k : Int)] true) (by rfl) (by intro v hv; simp at hv; subst hv; rfl) rfl (by omega) (by omega) (by omega) fun G4 Z' z' hN4 => ?_
      simp (maxSteps := 300000) (disch := omega) only [gws, ↓reduceIte, reduceEqDiff, reduceToNat, reduceMul, reduceAdd, Nat.reduceBEq, isLd, e0, e1, e5, e6]
      have hg := ofdN_yes hd1
      exact ⟨m - 1, by omega, G4, Sub.refl _, k + 1, Z', z', by rw [hg]; simp, rfl, by omega, by omega, hN4.cast (by rw [hg]; simp [I64]) (by rw [hg]; simp)⟩
    · simp (maxSteps := 300000) (disch := omega) only [gws, ↓reduceIte, reduceEqDiff, reduceToNat, reduceMul, reduceAdd, Nat.reduceBEq, isLd, eq_false hd1, e0, e1, e5, e6]
      have hg := ofdN_no hd1
      exact ⟨m - 1, by omega, _, Sub.refl _, k + 1, Z, z, by rw [hg], rfl, by omega, by omega, by rw [hg]; exact hN⟩
  · simp (maxSteps := 300000) (disch := omega) only [gws, ↓reduceIte, reduceEqDiff, reduceToNat, reduceMul, reduceAdd, Nat.reduceBEq, isLd, e0, e1, e5, e6, hf', hkk]
    obtain rfl : k = xss.length := by omega
    exact hk _ _ _ hN
/-- a list of simplices, not too many. -/
structure CxS (xss : List (List Int)) : Prop where
  n : xss.length ≤ 48
  l : ∀ i, i < xss.length → (xss.getD i []).length ≤ 2 ^ 20
theorem CxOk.cs {xss : List (List Int)} (h : CxOk xss) : CxS xss := ⟨h.n, fun i hi => by have := (h.s i hi).1.2; omega⟩
theorem ofd_st {xss : List (List Int)} {st : List Int} {d : Int} {j : Nat} (hs : st.length = xss.length) (hj : j < (ofd xss d).length) : ∃ i : Nat, i < st.length ∧ (ofd xss d).getD j 0 = i := by
  obtain ⟨i, h1, h2, _⟩ := ofd_get hj
  exact ⟨i, by omega, h2⟩
theorem impl_stalkSum_ok {G : GH} {A S : Option Addr} {c e : Nat} {hs : Nat → Option Addr × Nat} {xss : List (List Int)} {st : List Int} {d : Int} {pv mv : Value} (h : RowS G A c hs xss) (hS : IntS G S e st) (hx : CxS xss) (hst : st.length = xss.length) (hb : InB st 0 3) (hd : -5 ≤ d ∧ d ≤ 10) {K : Value → GH → Prop}
    (hk : K (.int .i64 (ssum xss st d)) G) : GC Tryz.prog 100 [.agg #[.slice A xss.length c, pv, .slice S st.length e, mv], .int .i64 d] G K := by
  refine GC_drop (kg6 (by simp) ?_)
  have hn := hx.n
  simp (maxSteps := 300000) (disch := omega) only [gws, ↓reduceIte, reduceEqDiff, reduceToNat, reduceMul, reduceAdd, Nat.reduceBEq, isLd]
  intro b1 hb1
  have s1 := Sub.put hb1 ⟨[.slice A xss.length c, pv, .slice S st.length e, mv], true⟩
  have f0 : rd (put G b1 ⟨[.slice A xss.length c, pv, .slice S st.length e, mv], true⟩) (some ⟨b1, 0, none⟩) = some (.slice A xss.length c) := rd_box _ _ _ 0 _ rfl
  have f2 : rd (put G b1 ⟨[.slice A xss.length c, pv, .slice S st.length e, mv], true⟩) (some ⟨b1, 2, none⟩) = some (.slice S st.length e) := rd_box _ _ _ 2 _ rfl
  have h1 := h.sub s1
  have hS1 := hS.sub s1
  revert h1 hS1 f0 f2 s1
  generalize put G b1 ⟨[.slice A xss.length c, pv, .slice S st.length e, mv], true⟩ = G1
  intro s1 f0 f2 h1 hS1
  simp (maxSteps := 300000) (disch := omega) only [gws, ↓reduceIte, reduceEqDiff, reduceToNat, reduceMul, reduceAdd, Nat.reduceBEq, isLd, f0]
  refine impl_simplicesOf_ok h1 hn hx.l hd fun G2 Y y hN => ?_
  have hI := hN.ints2 rfl
  have rI := hI.rd
  have snI := hI.sn
  have f2' := rd_sub hN.sub f2
  have hS2 := hS1.sub hN.sub
  have rS := hS2.rd
  have snS := hS2.sn
  have hol := ofd_len hn d
  simp (maxSteps := 300000) (disch := omega) only [gws, ↓reduceIte, reduceEqDiff, reduceToNat, reduceMul, reduceAdd, Nat.reduceBEq, isLd]
  refine gLoop_intro (fun m T G' => ∃ j : Nat, T 2 = .pointer (some ⟨b1, 0, none⟩) ∧ T 5 = .int .i64 (stN (ofd xss d) st j) ∧ T 11 = .slice Y (ofd xss d).length y ∧ T 12 = .int .i64 (ofd xss d).length ∧ T 13 = .int .i64 j ∧ m + j = (ofd xss d).length ∧ j ≤ (ofd xss d).length ∧ G2 = G') (ofd xss d).length
    ⟨0, by simp (maxSteps := 300000) (disch := omega) only [gws, ↓reduceIte, reduceEqDiff, reduceToNat, reduceMul, reduceAdd, Nat.reduceBEq, isLd], by simp (maxSteps := 300000) (disch := omega) only [gws, ↓reduceIte, reduceEqDiff, reduceToNat, reduceMul, reduceAdd, Nat.reduceBEq, isLd] <;> rfl, by simp (maxSteps := 300000) (disch := omega) only [gws, ↓reduceIte, reduceEqDiff, reduceToNat, reduceMul, reduceAdd, Nat.reduceBEq, isLd], by simp (maxSteps := 300000) (disch := omega) only [gws, ↓reduceIte, reduceEqDiff, reduceToNat, reduceMul, reduceAdd, Nat.reduceBEq, isLd], by simp (maxSteps := 300000) (disch := omega) only [gws, ↓reduceIte, reduceEqDiff, reduceToNat, reduceMul, reduceAdd, Nat.reduceBEq, isLd] <;> rfl, by omega, by omega, rfl⟩ ?_
  rintro m T G' ⟨j, e2, e5, e11, e12, e13, hm, hjl, rfl⟩
  simp (maxSteps := 300000) (disch := omega) only [gws, ↓reduceIte, reduceEqDiff, reduceToNat, reduceMul, reduceAdd, Nat.reduceBEq, isLd, e2, e5, e11, e12, e13]
  by_cases hj : (j : Int) < (ofd xss d).length
  · obtain ⟨i, hi, hg⟩ := ofd_st (d := d) hst (show j < (ofd xss d).length by omega)
    have rj := rI j (by omega)
    have ri := rS i hi
    rw [hg] at rj
    have hbd := stN_bd (L := ofd xss d) hb j
    have hbi := hb i hi
    simp (maxSteps := 300000) (disch := omega) only [gws, ↓reduceIte, reduceEqDiff, reduceToNat, reduceMul, reduceAdd, Nat.reduceBEq, isLd, e2, e5, e11, e12, e13, hj, rj, f2', ri]
    refine ⟨m - 1, by omega, _, Sub.refl _, j + 1, by simp only [stN, hg, Int.toNat_natCast], rfl, by omega, by omega, rfl⟩
  · simp (maxSteps := 300000) (disch := omega) only [gws, ↓reduceIte, reduceEqDiff, reduceToNat, reduceMul, reduceAdd, Nat.reduceBEq, isLd, e2, e5, e11, e12, e13, hj]
    obtain rfl : j = (ofd xss d).length := by omega
    exact ⟨G, s1.trans hN.sub, hk⟩
theorem spec_l09Sum_ok {G : GH} {q A S : Option Addr} {c e : Nat} {hs : Nat → Option Addr × Nat} {xss : List (List Int)} {st : List Int} {d : Int} (h : CxP G q A c hs xss) (hS : IntS G S e st) (hx : CxS xss) (hst : st.length = xss.length) (hb : InB st 0 3) (hd : -5 ≤ d ∧ d ≤ 10) {K : Value → GH → Prop}
    (hk : K (.int .i64 (ssum xss st d)) G) : GC Tryz.prog 84 [.pointer q, .slice S st.length e, .int .i64 d] G K := by
  refine GC_drop (k14z (by simp) ?_)
  have hn := hx.n
  simp (maxSteps := 300000) (disch := omega) only [gws, ↓reduceIte, reduceEqDiff, reduceToNat, reduceMul, reduceAdd, Nat.reduceBEq, isLd]
  refine spec_l05Of_ok h hn hx.l hd fun G2 Y y hN => ?_
  have hI := hN.ints2 rfl
  have rI := hI.rd
  have snI := hI.sn
  have hS2 := hS.sub hN.sub
  have rS := hS2.rd
  have snS := hS2.sn
  have hol := ofd_len hn d
  simp (maxSteps := 300000) (disch := omega) only [gws, ↓reduceIte, reduceEqDiff, reduceToNat, reduceMul, reduceAdd, Nat.reduceBEq, isLd]
  refine gLoop_intro (fun m T G' => ∃ j : Nat, T 1 = .slice S st.length e ∧ T 7 = .slice Y (ofd xss d).length y ∧ T 8 = .int .i64 (stN (ofd xss d) st j) ∧ T 9 = .int .i64 j ∧ m + j = (ofd xss d).length ∧ j ≤ (ofd xss d).length ∧ G2 = G') (ofd xss d).length
    ⟨0, by simp (maxSteps := 300000) (disch := omega) only [gws, ↓reduceIte, reduceEqDiff, reduceToNat, reduceMul, reduceAdd, Nat.reduceBEq, isLd], by simp (maxSteps := 300000) (disch := omega) only [gws, ↓reduceIte, reduceEqDiff, reduceToNat, reduceMul, reduceAdd, Nat.reduceBEq, isLd], by simp (maxSteps := 300000) (disch := omega) only [gws, ↓reduceIte, reduceEqDiff, reduceToNat, reduceMul, reduceAdd, Nat.reduceBEq, isLd] <;> rfl, by simp (maxSteps := 300000) (disch := omega) only [gws, ↓reduceIte, reduceEqDiff, reduceToNat, reduceMul, reduceAdd, Nat.reduceBEq, isLd] <;> rfl, by omega, by omega, rfl⟩ ?_
  rintro m T G' ⟨j, e1, e7, e8, e9, hm, hjl, rfl⟩
  simp (maxSteps := 300000) (disch := omega) only [gws, ↓reduceIte, reduceEqDiff, reduceToNat, reduceMul, reduceAdd, Nat.reduceBEq, isLd, e1, e7, e8, e9]
  by_cases hj : (j : Int) < (ofd xss d).length
  · obtain ⟨i, hi, hg⟩ := ofd_st (d := d) hst (show j < (ofd xss d).length by omega)
    have rj := rI j (by omega)
    have ri := rS i hi
    rw [hg] at rj
    have hbd := stN_bd (L := ofd xss d) hb j
    have hbi := hb i hi
    simp (maxSteps := 300000) (disch := omega) only [gws, ↓reduceIte, reduceEqDiff, reduceToNat, reduceMul, reduceAdd, Nat.reduceBEq, isLd, e1, e7, e8, e9, hj, rj, ri]
    refine ⟨m - 1, by omega, _, Sub.refl _, j + 1, by simp only [stN, hg, Int.toNat_natCast], rfl, by omega, by omega, rfl⟩
  · simp (maxSteps := 300000) (disch := omega) only [gws, ↓reduceIte, reduceEqDiff, reduceToNat, reduceMul, reduceAdd, Nat.reduceBEq, isLd, e1, e7, e8, e9, hj]
    obtain rfl : j = (ofd xss d).length := by omega
    exact ⟨G, hN.sub, hk⟩
theorem spec_l03Column_ok {G : GH} {S : Option Addr} {e : Nat} {xs : List Int} {n p : Int} (hS : IntS G S e xs) (hl : xs.length < 2 ^ 40) (hp : -1000 ≤ p ∧ p ≤ 1000) {K : Value → GH → Prop}
    (hk : ∀ z : Bool, (z = true ↔ InB xs 0 (p - 1) ∧ (xs.length : Int) = n) → K (.bool z) G) : GC Tryz.prog 92 [.slice S xs.length e, .int .i64 n, .int .i64 p] G K := by
  refine kwg (by simp) ?_
  have r := hS.rd
  have hsn := hS.sn
  simp (maxSteps := 300000) (disch := omega) only [gws, ↓reduceIte, reduceEqDiff, reduceToNat, reduceMul, reduceAdd, Nat.reduceBEq, isLd]
  refine gLoop_intro (fun m T G' => ∃ j : Nat, T 0 = .slice S xs.length e ∧ T 1 = .int .i64 n ∧ T 2 = .int .i64 p ∧ T 7 = .int .i64 j ∧ m + j = xs.length ∧ j ≤ xs.length ∧ G = G' ∧ ∀ i, i < j → 0 ≤ xs.getD i 0 ∧ xs.getD i 0 ≤ p - 1) xs.length
    ⟨0, by simp (maxSteps := 300000) (disch := omega) only [gws, ↓reduceIte, reduceEqDiff, reduceToNat, reduceMul, reduceAdd, Nat.reduceBEq, isLd], by simp (maxSteps := 300000) (disch := omega) only [gws, ↓reduceIte, reduceEqDiff, reduceToNat, reduceMul, reduceAdd, Nat.reduceBEq, isLd], by simp (maxSteps := 300000) (disch := omega) only [gws, ↓reduceIte, reduceEqDiff, reduceToNat, reduceMul, reduceAdd, Nat.reduceBEq, isLd], by simp (maxSteps := 300000) (disch := omega) only [gws, ↓reduceIte, reduceEqDiff, reduceToNat, reduceMul, reduceAdd, Nat.reduceBEq, isLd] <;> rfl, by omega, by omega, rfl, fun i hi => by omega⟩ ?_
  rintro m T G' ⟨j, e0, e1, e2, e7, hm, hjl, rfl, hin⟩
  simp (maxSteps := 300000) (disch := omega) only [gws, ↓reduceIte, reduceEqDiff, reduceToNat, reduceMul, reduceAdd, Nat.reduceBEq, isLd, e0, e1, e2, e7]
  by_cases hj : (j : Int) < xs.length
  · simp (maxSteps := 300000) (disch := omega) only [gws, ↓reduceIte, reduceEqDiff, reduceToNat, reduceMul, reduceAdd, Nat.reduceBEq, isLd, e0, e1, e2, e7, hj, r]
    refine spec_l00In_ok _ _ _ ?_
    by_cases hb : 0 ≤ xs.getD j 0 ∧ xs.getD j 0 ≤ p - 1
    · rw [decide_eq_true hb]
      simp (maxSteps := 300000) (disch := omega) only [gws, ↓reduceIte, reduceEqDiff, reduceToNat, reduceMul, reduceAdd, Nat.reduceBEq, isLd, e0, e1, e2, e7]
      exact ⟨m - 1, by omega, _, Sub.refl _, j + 1, rfl, by omega, by omega, rfl, fun i hi => by
        by_cases hij : i = j
        · subst hij; exact hb
        · exact hin i (by omega)⟩
    · rw [decide_eq_false hb]
      simp (maxSteps := 300000) (disch := omega) only [gws, ↓reduceIte, reduceEqDiff, reduceToNat, reduceMul, reduceAdd, Nat.reduceBEq, isLd]
      exact hk false ⟨fun x => (by cases x), fun x => absurd (x.1 j (by omega)) hb⟩
  · simp (maxSteps := 300000) (disch := omega) only [gws, ↓reduceIte, reduceEqDiff, reduceToNat, reduceMul, reduceAdd, Nat.reduceBEq, isLd, e0, e1, e2, e7, hj]
    refine hk _ ?_
    rw [decide_eq_true_eq]
    exact ⟨fun x => ⟨fun i hi => hin i (by omega), x⟩, fun x => x.2⟩
theorem impl_isVector_ok {G : GH} {S : Option Addr} {e : Nat} {xs : List Int} {n p : Int} (hS : IntS G S e xs) (hl : xs.length < 2 ^ 40) (hp : -1000 ≤ p ∧ p ≤ 1000) {K : Value → GH → Prop}
    (hk : ∀ z : Bool, (z = true ↔ InB xs 0 (p - 1) ∧ (xs.length : Int) = n) → K (.bool z) G) : GC Tryz.prog 99 [.slice S xs.length e, .int .i64 n, .int .i64 p] G K := by
  refine kc1 (by simp) ?_
  simp (maxSteps := 300000) (disch := omega) only [gws, ↓reduceIte, reduceEqDiff, reduceToNat, reduceMul, reduceAdd, Nat.reduceBEq, isLd]
  refine kf8 (by simp) ?_
  simp (maxSteps := 300000) (disch := omega) only [gws, ↓reduceIte, reduceEqDiff, reduceToNat, reduceMul, reduceAdd, Nat.reduceBEq, isLd]
  by_cases hn : (xs.length : Int) = n
  · simp (maxSteps := 300000) (disch := omega) only [gws, ↓reduceIte, reduceEqDiff, reduceToNat, reduceMul, reduceAdd, Nat.reduceBEq, isLd, eq_true hn]
    refine impl_areElements_ok hS hl fun z hz => ?_
    simp (maxSteps := 300000) (disch := omega) only [gws, ↓reduceIte, reduceEqDiff, reduceToNat, reduceMul, reduceAdd, Nat.reduceBEq, isLd]
    refine hk z ?_
    rw [hz, w64 _ (by omega) (by omega)]
    exact ⟨fun x => ⟨x, hn⟩, fun x => x.1⟩
  · simp (maxSteps := 300000) (disch := omega) only [gws, ↓reduceIte, reduceEqDiff, reduceToNat, reduceMul, reduceAdd, Nat.reduceBEq, isLd, eq_false hn]
    exact hk false ⟨fun x => (by cases x), fun x => absurd x.2 hn⟩
theorem spec_l09Stalks_ok {G : GH} {q A S : Option Addr} {c e : Nat} {hs : Nat → Option Addr × Nat} {xss : List (List Int)} {st : List Int} (h : CxP G q A c hs xss) (hS : IntS G S e st) (hx : CxS xss) (hl : st.length < 2 ^ 40) {K : Value → GH → Prop}
    (hk : ∀ z : Bool, (z = true ↔ StOk xss st) → K (.bool z) G) : GC Tryz.prog 143 [.pointer q, .slice S st.length e] G K := by
  refine k14n (by simp) ?_
  have hf := h.f
  have hq := rd_some hf
  simp (maxSteps := 300000) (disch := omega) only [gws, ↓reduceIte, reduceEqDiff, reduceToNat, reduceMul, reduceAdd, Nat.reduceBEq, isLd, hf]
  refine spec_l03Column_ok hS hl (by omega) fun z hz => ?_
  cases z
  · simp (maxSteps := 300000) (disch := omega) only [gws, ↓reduceIte, reduceEqDiff, reduceToNat, reduceMul, reduceAdd, Nat.reduceBEq, isLd]
    exact hk false ⟨fun x => (by cases x), fun x => by have := hz.2 ⟨x.2.1, by have := x.1; omega⟩; cases this⟩
  · obtain ⟨hb, hn⟩ := hz.1 rfl
    have hn : st.length = xss.length := by omega
    simp (maxSteps := 300000) (disch := omega) only [gws, ↓reduceIte, reduceEqDiff, reduceToNat, reduceMul, reduceAdd, Nat.reduceBEq, isLd]
    refine gLoop_intro (fun m T G' => ∃ j : Nat, T 0 = .pointer q ∧ T 1 = .slice S st.length e ∧ T 5 = .int .i64 j ∧ m + j = 4 ∧ j ≤ 4 ∧ G = G' ∧ ∀ d : Int, 0 ≤ d → d < j → ssum xss st d ≤ 32) 4
      ⟨0, by simp (maxSteps := 300000) (disch := omega) only [gws, ↓reduceIte, reduceEqDiff, reduceToNat, reduceMul, reduceAdd, Nat.reduceBEq, isLd], by simp (maxSteps := 300000) (disch := omega) only [gws, ↓reduceIte, reduceEqDiff, reduceToNat, reduceMul, reduceAdd, Nat.reduceBEq, isLd], by simp (maxSteps := 300000) (disch := omega) only [gws, ↓reduceIte, reduceEqDiff, reduceToNat, reduceMul, reduceAdd, Nat.reduceBEq, isLd] <;> rfl, by omega, by omega, rfl, fun d h1 h2 => by omega⟩ ?_
    rintro m T G' ⟨j, e0, e1, e5, hm, hjl, rfl, hin⟩
    simp (maxSteps := 300000) (disch := omega) only [gws, ↓reduceIte, reduceEqDiff, reduceToNat, reduceMul, reduceAdd, Nat.reduceBEq, isLd, e0, e1, e5]
    by_cases hj : (j : Int) ≤ 3
    · simp (maxSteps := 300000) (disch := omega) only [gws, ↓reduceIte, reduceEqDiff, reduceToNat, reduceMul, reduceAdd, Nat.reduceBEq, isLd, e0, e1, e5, hj]
      refine spec_l09Sum_ok h hS hx hn hb (by omega) ?_
      by_cases hs32 : 32 < ssum xss st j
      · simp (maxSteps := 300000) (disch := omega) only [gws, ↓reduceIte, reduceEqDiff, reduceToNat, reduceMul, reduceAdd, Nat.reduceBEq, isLd, hs32]
        exact hk false ⟨fun x => (by cases x), fun x => by have := x.2.2 j (by omega) hj; omega⟩
      · simp (maxSteps := 300000) (disch := omega) only [gws, ↓reduceIte, reduceEqDiff, reduceToNat, reduceMul, reduceAdd, Nat.reduceBEq, isLd, hs32, e0, e1, e5]
        exact ⟨m - 1, by omega, _, Sub.refl _, j + 1, rfl, by omega, by omega, rfl, fun d h1 h2 => by
          by_cases hd : d = j
          · subst hd; omega
          · exact hin d h1 (by omega)⟩
    · simp (maxSteps := 300000) (disch := omega) only [gws, ↓reduceIte, reduceEqDiff, reduceToNat, reduceMul, reduceAdd, Nat.reduceBEq, isLd, hj]
      exact hk true ⟨fun _ => ⟨hn, hb, fun d h1 h2 => hin d h1 (by omega)⟩, fun _ => rfl⟩
theorem impl_areStalks_ok {G : GH} {A S : Option Addr} {c e : Nat} {hs : Nat → Option Addr × Nat} {xss : List (List Int)} {st : List Int} (h : RowS G A c hs xss) (hS : IntS G S e st) (hx : CxS xss) (hl : st.length < 2 ^ 40) {K : Value → GH → Prop}
    (hk : ∀ z : Bool, (z = true ↔ StOk xss st) → K (.bool z) G) : GC Tryz.prog 181 [cxV A xss.length c, .slice S st.length e] G K := by
  refine GC_drop (k5r (by simp) ?_)
  have hxn := hx.n
  unfold cxV
  simp (maxSteps := 300000) (disch := omega) only [gws, ↓reduceIte, reduceEqDiff, reduceToNat, reduceMul, reduceAdd, Nat.reduceBEq, isLd]
  intro b1 hb1
  have s1 := Sub.put hb1 ⟨[.slice A xss.length c], true⟩
  have f1 : rd (put G b1 ⟨[.slice A xss.length c], true⟩) (some ⟨b1, 0, none⟩) = some (.slice A xss.length c) := rd_box _ _ _ 0 _ rfl
  have h1 := h.sub s1
  have hS1 := hS.sub s1
  revert h1 f1 s1 hS1
  generalize put G b1 ⟨[.slice A xss.length c], true⟩ = G1
  intro s1 f1 h1 hS1
  simp (maxSteps := 300000) (disch := omega) only [gws, ↓reduceIte, reduceEqDiff, reduceToNat, reduceMul, reduceAdd, Nat.reduceBEq, isLd, f1]
  by_cases hn : (st.length : Int) = xss.length
  · simp (maxSteps := 300000) (disch := omega) only [gws, ↓reduceIte, reduceEqDiff, reduceToNat, reduceMul, reduceAdd, Nat.reduceBEq, isLd, eq_true hn]
    refine slices_ContainsFunc_ok (fun n => !decide (0 ≤ n ∧ n ≤ 3)) hS1 hl (fun i hi K' hK' => ?_) ?_
    · simp (maxSteps := 300000) (disch := omega) only [gws, ↓reduceIte, reduceEqDiff, reduceToNat, reduceMul, reduceAdd, Nat.reduceBEq, isLd]
      refine k5w (by simp) ?_
      simp (maxSteps := 300000) (disch := omega) only [gws, ↓reduceIte, reduceEqDiff, reduceToNat, reduceMul, reduceAdd, Nat.reduceBEq, isLd]
      refine impl_within_ok _ _ _ ?_
      simp (maxSteps := 300000) (disch := omega) only [gws, ↓reduceIte, reduceEqDiff, reduceToNat, reduceMul, reduceAdd, Nat.reduceBEq, isLd]
      exact hK'
    · generalize hany : (st.any fun n => !decide (0 ≤ n ∧ n ≤ 3)) = bb
      cases bb
      · have hb : InB st 0 3 := by
          rw [inB_mem]
          rw [List.any_eq_false] at hany
          exact fun x hx => by simpa using hany x hx
        simp (maxSteps := 300000) (disch := omega) only [gws, ↓reduceIte, reduceEqDiff, reduceToNat, reduceMul, reduceAdd, Nat.reduceBEq, isLd]
        refine gLoop_intro (fun m T G' => ∃ j : Nat, T 1 = .slice S st.length e ∧ T 2 = .pointer (some ⟨b1, 0, none⟩) ∧ T 16 = .int .i64 j ∧ m + j = 4 ∧ j ≤ 4 ∧ G1 = G' ∧ ∀ d : Int, 0 ≤ d → d < j → ssum xss st d ≤ 32) 4
          ⟨0, by simp (maxSteps := 300000) (disch := omega) only [gws, ↓reduceIte, reduceEqDiff, reduceToNat, reduceMul, reduceAdd, Nat.reduceBEq, isLd], by simp (maxSteps := 300000) (disch := omega) only [gws, ↓reduceIte, reduceEqDiff, reduceToNat, reduceMul, reduceAdd, Nat.reduceBEq, isLd], by simp (maxSteps := 300000) (disch := omega) only [gws, ↓reduceIte, reduceEqDiff, reduceToNat, reduceMul, reduceAdd, Nat.reduceBEq, isLd] <;> rfl, by omega, by omega, rfl, fun d h1 h2 => by omega⟩ ?_
        rintro m T G' ⟨j, e1, e2, e16, hm, hjl, rfl, hin⟩
        simp (maxSteps := 300000) (disch := omega) only [gws, ↓reduceIte, reduceEqDiff, reduceToNat, reduceMul, reduceAdd, Nat.reduceBEq, isLd, e1, e2, e16]
        by_cases hj : (j : Int) < 4
        · have hbl : bldV [.slice none 0 0, .int .i64 0, .slice none 0 0, .slice none 0 0] [(0, 1, .agg #[.slice A xss.length c]), (2, 1, .slice S st.length e)] = some [.slice A xss.length c, .int .i64 0, .slice S st.length e, .slice none 0 0] := rfl
          simp (maxSteps := 300000) (disch := omega) only [gws, ↓reduceIte, reduceEqDiff, reduceToNat, reduceMul, reduceAdd, Nat.reduceBEq, isLd, e1, e2, e16, hj, f1, hbl]
          refine impl_stalkSum_ok h1 hS1 hx (by omega) hb (by omega) ?_
          by_cases hs32 : 32 < ssum xss st j
          · simp (maxSteps := 300000) (disch := omega) only [gws, ↓reduceIte, reduceEqDiff, reduceToNat, reduceMul, reduceAdd, Nat.reduceBEq, isLd, hs32]
            exact ⟨G, s1, hk false ⟨fun x => (by cases x), fun x => by have := x.2.2 j (by omega) (by omega); omega⟩⟩
          · simp (maxSteps := 300000) (disch := omega) only [gws, ↓reduceIte, reduceEqDiff, reduceToNat, reduceMul, reduceAdd, Nat.reduceBEq, isLd, hs32, e1, e2, e16]
            exact ⟨m - 1, by omega, _, Sub.refl _, j + 1, rfl, by omega, by omega, rfl, fun d h1 h2 => by
              by_cases hd : d = j
              · subst hd; omega
              · exact hin d h1 (by omega)⟩
        · simp (maxSteps := 300000) (disch := omega) only [gws, ↓reduceIte, reduceEqDiff, reduceToNat, reduceMul, reduceAdd, Nat.reduceBEq, isLd, hj]
          exact ⟨G, s1, hk true ⟨fun _ => ⟨by omega, hb, fun d h1 h2 => hin d h1 (by omega)⟩, fun _ => rfl⟩⟩
      · simp (maxSteps := 300000) (disch := omega) only [gws, ↓reduceIte, reduceEqDiff, reduceToNat, reduceMul, reduceAdd, Nat.reduceBEq, isLd]
        rw [List.any_eq_true] at hany
        obtain ⟨x, hx', hy⟩ := hany
        exact ⟨G, s1, hk false ⟨fun x => (by cases x), fun ho => by
          have := inB_mem.1 ho.2.1 x hx'
          simp at hy; omega⟩⟩
  · simp (maxSteps := 300000) (disch := omega) only [gws, ↓reduceIte, reduceEqDiff, reduceToNat, reduceMul, reduceAdd, Nat.reduceBEq, isLd, eq_false hn]
    exact ⟨G, s1, hk false ⟨fun x => (by cases x), fun x => absurd (by have := x.1; omega) hn⟩⟩
structure Mt where
  p : Int
  r : Int
  c : Int
  m : List Int
def mtC (M : Mt) (A : Option Addr) (k : Nat) : List Value := [.int .i64 M.p, .int .i64 M.r, .int .i64 M.c, .slice A M.m.length k]
def mtV (M : Mt) (A : Option Addr) (k : Nat) : Value := .agg (mtC M A k).toArray
structure MtOk (M : Mt) : Prop where
  p : PrOk M.p
  r : 0 ≤ M.r ∧ M.r ≤ 32
  c : 0 ≤ M.c ∧ M.c ≤ 32
  n : (M.m.length : Int) = M.r * M.c
  b : InB M.m 0 (M.p - 1)
structure MtP (G : GH) (q : Option Addr) (M : Mt) (A : Option Addr) (k : Nat) : Prop where
  f0 : rd G q = some (.int .i64 M.p)
  f1 : rd G (pa q 1) = some (.int .i64 M.r)
  f2 : rd G (pa q 2) = some (.int .i64 M.c)
  f3 : rd G (pa q 3) = some (.slice A M.m.length k)
  m : IntS G A k M.m
theorem MtP.sub {G G' : GH} {q A : Option Addr} {M : Mt} {k : Nat} (h : MtP G q M A k) (s : Sub G G') : MtP G' q M A k := ⟨rd_sub s h.f0, rd_sub s h.f1, rd_sub s h.f2, rd_sub s h.f3, h.m.sub s⟩
theorem rc_wrap {r c : Int} (hr : 0 ≤ r ∧ r ≤ 32) (hc : 0 ≤ c ∧ c ≤ 32) : IntKind.i64.wrap (r * c) = r * c ∧ 0 ≤ r * c ∧ r * c ≤ 1024 := by
  have h0 : 0 ≤ r * c := Int.mul_nonneg hr.1 hc.1
  have h1 : r * c ≤ 32 * 32 := Int.mul_le_mul hr.2 hc.2 hc.1 (by omega)
  exact ⟨w64 _ (by omega) (by omega), h0, by omega⟩
theorem impl_ValidMatrix_ok {G : GH} {M : Mt} {A : Option Addr} {k : Nat} (h : IntS G A k M.m) (hl : M.m.length < 2 ^ 40) {K : Value → GH → Prop}
    (hk : ∀ z : Bool, (z = true ↔ MtOk M) → K (.bool z) G) : GC Tryz.prog 206 [mtV M A k] G K := by
  refine GC_drop (k36 (by simp) ?_)
  unfold mtV mtC
  simp (maxSteps := 300000) (disch := omega) only [gws, ↓reduceIte, reduceEqDiff, reduceToNat, reduceMul, reduceAdd, Nat.reduceBEq, isLd]
  intro b1 hb1
  have s1 := Sub.put hb1 ⟨[.int .i64 M.p, .int .i64 M.r, .int .i64 M.c, .slice A M.m.length k], true⟩
  have f0 : rd (put G b1 ⟨[.int .i64 M.p, .int .i64 M.r, .int .i64 M.c, .slice A M.m.length k], true⟩) (some ⟨b1, 0, none⟩) = some (.int .i64 M.p) := rd_box _ _ _ 0 _ rfl
  have f1 : rd (put G b1 ⟨[.int .i64 M.p, .int .i64 M.r, .int .i64 M.c, .slice A M.m.length k], true⟩) (some ⟨b1, 1, none⟩) = some (.int .i64 M.r) := rd_box _ _ _ 1 _ rfl
  have f2 : rd (put G b1 ⟨[.int .i64 M.p, .int .i64 M.r, .int .i64 M.c, .slice A M.m.length k], true⟩) (some ⟨b1, 2, none⟩) = some (.int .i64 M.c) := rd_box _ _ _ 2 _ rfl
  have f3 : rd (put G b1 ⟨[.int .i64 M.p, .int .i64 M.r, .int .i64 M.c, .slice A M.m.length k], true⟩) (some ⟨b1, 3, none⟩) = some (.slice A M.m.length k) := rd_box _ _ _ 3 _ rfl
  have h1 := h.sub s1
  revert h1 f0 f1 f2 f3 s1
  generalize put G b1 ⟨[.int .i64 M.p, .int .i64 M.r, .int .i64 M.c, .slice A M.m.length k], true⟩ = G1
  intro s1 f0 f1 f2 f3 h1
  have fin : (¬ MtOk M) → ∃ G'', Sub G'' G1 ∧ K (.bool false) G'' := fun hno => ⟨G, s1, hk false ⟨fun x => (by cases x), fun x => absurd x hno⟩⟩
  simp (maxSteps := 300000) (disch := omega) only [gws, ↓reduceIte, reduceEqDiff, reduceToNat, reduceMul, reduceAdd, Nat.reduceBEq, isLd, f0, f1, f2, f3]
  refine impl_ValidPrime_okS _ fun z hz => ?_
  cases z
  · simp (maxSteps := 300000) (disch := omega) only [gws, ↓reduceIte, reduceEqDiff, reduceToNat, reduceMul, reduceAdd, Nat.reduceBEq, isLd, f0, f1, f2, f3]
    exact fin fun x => by have := hz.2 x.p; cases this
  · have hp := hz.1 rfl
    simp (maxSteps := 300000) (disch := omega) only [gws, ↓reduceIte, reduceEqDiff, reduceToNat, reduceMul, reduceAdd, Nat.reduceBEq, isLd, f0, f1, f2, f3]
    refine kbw (by simp) ?_
    simp (maxSteps := 300000) (disch := omega) only [gws, ↓reduceIte, reduceEqDiff, reduceToNat, reduceMul, reduceAdd, Nat.reduceBEq, isLd]
    refine impl_within_ok _ _ _ ?_
    by_cases hr : 0 ≤ M.r ∧ M.r ≤ 32
    · rw [decide_eq_true hr]
      simp (maxSteps := 300000) (disch := omega) only [gws, ↓reduceIte, reduceEqDiff, reduceToNat, reduceMul, reduceAdd, Nat.reduceBEq, isLd, f0, f1, f2, f3]
      refine kbw (by simp) ?_
      simp (maxSteps := 300000) (disch := omega) only [gws, ↓reduceIte, reduceEqDiff, reduceToNat, reduceMul, reduceAdd, Nat.reduceBEq, isLd]
      refine impl_within_ok _ _ _ ?_
      by_cases hc : 0 ≤ M.c ∧ M.c ≤ 32
      · obtain ⟨w, w0, w1⟩ := rc_wrap hr hc
        rw [decide_eq_true hc]
        simp (maxSteps := 300000) (disch := omega) only [gws, ↓reduceIte, reduceEqDiff, reduceToNat, reduceMul, reduceAdd, Nat.reduceBEq, isLd, f0, f1, f2, f3, w]
        refine kf8 (by simp) ?_
        simp (maxSteps := 300000) (disch := omega) only [gws, ↓reduceIte, reduceEqDiff, reduceToNat, reduceMul, reduceAdd, Nat.reduceBEq, isLd, f0, f1, f2, f3, w]
        by_cases hn : (M.m.length : Int) = M.r * M.c
        · simp (maxSteps := 300000) (disch := omega) only [gws, ↓reduceIte, reduceEqDiff, reduceToNat, reduceMul, reduceAdd, Nat.reduceBEq, isLd, eq_true hn, f0, f1, f2, f3]
          refine impl_areElements_ok h1 hl fun z hz2 => ?_
          rw [w64 _ (by have := hp.1; omega) (by have := hp.2.1; omega)] at hz2
          simp (maxSteps := 300000) (disch := omega) only [gws, ↓reduceIte, reduceEqDiff, reduceToNat, reduceMul, reduceAdd, Nat.reduceBEq, isLd, f0, f1, f2, f3]
          exact ⟨G, s1, hk z (hz2.trans ⟨fun x => ⟨hp, hr, hc, hn, x⟩, fun x => x.b⟩)⟩
        · simp (maxSteps := 300000) (disch := omega) only [gws, ↓reduceIte, reduceEqDiff, reduceToNat, reduceMul, reduceAdd, Nat.reduceBEq, isLd, eq_false hn, f0, f1, f2, f3]
          exact fin fun x => hn x.n
      · rw [decide_eq_false hc]
        simp (maxSteps := 300000) (disch := omega) only [gws, ↓reduceIte, reduceEqDiff, reduceToNat, reduceMul, reduceAdd, Nat.reduceBEq, isLd, f0, f1, f2, f3]
        exact fin fun x => hc x.c
    · rw [decide_eq_false hr]
      simp (maxSteps := 300000) (disch := omega) only [gws, ↓reduceIte, reduceEqDiff, reduceToNat, reduceMul, reduceAdd, Nat.reduceBEq, isLd, f0, f1, f2, f3]
      exact fin fun x => hr x.r
theorem spec_l03Ok_ok {G : GH} {q A : Option Addr} {M : Mt} {k : Nat} (h : MtP G q M A k) (hl : M.m.length < 2 ^ 40) {K : Value → GH → Prop}
    (hk : ∀ z : Bool, (z = true ↔ MtOk M) → K (.bool z) G) : GC Tryz.prog 177 [.pointer q] G K := by
  refine kxd (by simp) ?_
  have f0 := h.f0
  have f1 := h.f1
  have f2 := h.f2
  have f3 := h.f3
  have hq := rd_some f0
  have fin : (¬ MtOk M) → K (.bool false) G := fun hno => hk false ⟨fun x => (by cases x), fun x => absurd x hno⟩
  simp (maxSteps := 300000) (disch := omega) only [gws, ↓reduceIte, reduceEqDiff, reduceToNat, reduceMul, reduceAdd, Nat.reduceBEq, isLd, f0, f1, f2, f3]
  refine spec_ValidPrime_okS _ fun z hz => ?_
  cases z
  · simp (maxSteps := 300000) (disch := omega) only [gws, ↓reduceIte, reduceEqDiff, reduceToNat, reduceMul, reduceAdd, Nat.reduceBEq, isLd, f0, f1, f2, f3]
    exact fin fun x => by have := hz.2 x.p; cases this
  · have hp := hz.1 rfl
    simp (maxSteps := 300000) (disch := omega) only [gws, ↓reduceIte, reduceEqDiff, reduceToNat, reduceMul, reduceAdd, Nat.reduceBEq, isLd, f0, f1, f2, f3]
    refine spec_l00In_ok _ _ _ ?_
    by_cases hr : 0 ≤ M.r ∧ M.r ≤ 32
    · rw [decide_eq_true hr]
      simp (maxSteps := 300000) (disch := omega) only [gws, ↓reduceIte, reduceEqDiff, reduceToNat, reduceMul, reduceAdd, Nat.reduceBEq, isLd, f0, f1, f2, f3]
      refine spec_l00In_ok _ _ _ ?_
      by_cases hc : 0 ≤ M.c ∧ M.c ≤ 32
      · obtain ⟨w, w0, w1⟩ := rc_wrap hr hc
        rw [decide_eq_true hc]
        simp (maxSteps := 300000) (disch := omega) only [gws, ↓reduceIte, reduceEqDiff, reduceToNat, reduceMul, reduceAdd, Nat.reduceBEq, isLd, f0, f1, f2, f3, w]
        refine spec_l03Column_ok h.m hl (by have := hp.1; have := hp.2.1; omega) fun z hz2 => ?_
        simp (maxSteps := 300000) (disch := omega) only [gws, ↓reduceIte, reduceEqDiff, reduceToNat, reduceMul, reduceAdd, Nat.reduceBEq, isLd, f0, f1, f2, f3, w]
        exact hk z (hz2.trans ⟨fun x => ⟨hp, hr, hc, x.2, x.1⟩, fun x => ⟨x.b, x.n⟩⟩)
      · rw [decide_eq_false hc]
        simp (maxSteps := 300000) (disch := omega) only [gws, ↓reduceIte, reduceEqDiff, reduceToNat, reduceMul, reduceAdd, Nat.reduceBEq, isLd, f0, f1, f2, f3]
        exact fin fun x => hc x.c
    · rw [decide_eq_false hr]
      simp (maxSteps := 300000) (disch := omega) only [gws, ↓reduceIte, reduceEqDiff, reduceToNat, reduceMul, reduceAdd, Nat.reduceBEq, isLd, f0, f1, f2, f3]
      exact fin fun x => hr x.r
theorem impl_SameMatrix_ok {G : GH} {M N : Mt} {A B : Option Addr} {k l : Nat} (h : IntS G A k M.m) (h' : IntS G B l N.m) (hl : M.m.length < 2 ^ 40) {K : Value → GH → Prop}
    (hk : ∀ z : Bool, (z = true ↔ M = N) → K (.bool z) G) : GC Tryz.prog 185 [mtV M A k, mtV N B l] G K := by
  refine GC_drop (k2i (by simp) ?_)
  unfold mtV mtC
  simp (maxSteps := 300000) (disch := omega) only [gws, ↓reduceIte, reduceEqDiff, reduceToNat, reduceMul, reduceAdd, Nat.reduceBEq, isLd]
  intro b1 hb1
  simp (maxSteps := 300000) (disch := omega) only [gws, ↓reduceIte, reduceEqDiff, reduceToNat, reduceMul, reduceAdd, Nat.reduceBEq, isLd]
  intro b2 hb2
  have s1 := Sub.put hb1 ⟨[.int .i64 M.p, .int .i64 M.r, .int .i64 M.c, .slice A M.m.length k], true⟩
  have s2 := Sub.put (show put G b1 ⟨[.int .i64 M.p, .int .i64 M.r, .int .i64 M.c, .slice A M.m.length k], true⟩ b2 = none from hb2) ⟨[.int .i64 N.p, .int .i64 N.r, .int .i64 N.c, .slice B N.m.length l], true⟩
  have f0 := rd_sub s2 (show rd (put G b1 ⟨[.int .i64 M.p, .int .i64 M.r, .int .i64 M.c, .slice A M.m.length k], true⟩) (some ⟨b1, 0, none⟩) = some (.int .i64 M.p) from rd_box _ _ _ 0 _ rfl)
  have f1 := rd_sub s2 (show rd (put G b1 ⟨[.int .i64 M.p, .int .i64 M.r, .int .i64 M.c, .slice A M.m.length k], true⟩) (some ⟨b1, 1, none⟩) = some (.int .i64 M.r) from rd_box _ _ _ 1 _ rfl)
  have f2 := rd_sub s2 (show rd (put G b1 ⟨[.int .i64 M.p, .int .i64 M.r, .int .i64 M.c, .slice A M.m.length k], true⟩) (some ⟨b1, 2, none⟩) = some (.int .i64 M.c) from rd_box _ _ _ 2 _ rfl)
  have f3 := rd_sub s2 (show rd (put G b1 ⟨[.int .i64 M.p, .int .i64 M.r, .int .i64 M.c, .slice A M.m.length k], true⟩) (some ⟨b1, 3, none⟩) = some (.slice A M.m.length k) from rd_box _ _ _ 3 _ rfl)
  have g0 : rd (put (put G b1 ⟨[.int .i64 M.p, .int .i64 M.r, .int .i64 M.c, .slice A M.m.length k], true⟩) b2 ⟨[.int .i64 N.p, .int .i64 N.r, .int .i64 N.c, .slice B N.m.length l], true⟩) (some ⟨b2, 0, none⟩) = some (.int .i64 N.p) := rd_box _ _ _ 0 _ rfl
  have g1 : rd (put (put G b1 ⟨[.int .i64 M.p, .int .i64 M.r, .int .i64 M.c, .slice A M.m.length k], true⟩) b2 ⟨[.int .i64 N.p, .int .i64 N.r, .int .i64 N.c, .slice B N.m.length l], true⟩) (some ⟨b2, 1, none⟩) = some (.int .i64 N.r) := rd_box _ _ _ 1 _ rfl
  have g2 : rd (put (put G b1 ⟨[.int .i64 M.p, .int .i64 M.r, .int .i64 M.c, .slice A M.m.length k], true⟩) b2 ⟨[.int .i64 N.p, .int .i64 N.r, .int .i64 N.c, .slice B N.m.length l], true⟩) (some ⟨b2, 2, none⟩) = some (.int .i64 N.c) := rd_box _ _ _ 2 _ rfl
  have g3 : rd (put (put G b1 ⟨[.int .i64 M.p, .int .i64 M.r, .int .i64 M.c, .slice A M.m.length k], true⟩) b2 ⟨[.int .i64 N.p, .int .i64 N.r, .int .i64 N.c, .slice B N.m.length l], true⟩) (some ⟨b2, 3, none⟩) = some (.slice B N.m.length l) := rd_box _ _ _ 3 _ rfl
  have s := s1.trans s2
  have h1 := h.sub s
  have h2 := h'.sub s
  clear s1 s2
  revert h1 h2 f0 f1 f2 f3 g0 g1 g2 g3 s
  generalize put (put G b1 ⟨[.int .i64 M.p, .int .i64 M.r, .int .i64 M.c, .slice A M.m.length k], true⟩) b2 ⟨[.int .i64 N.p, .int .i64 N.r, .int .i64 N.c, .slice B N.m.length l], true⟩ = G1
  intro f0 f1 f2 f3 g0 g1 g2 g3 s h1 h2
  have fin : (¬ M = N) → ∃ G'', Sub G'' G1 ∧ K (.bool false) G'' := fun hno => ⟨G, s, hk false ⟨fun x => (by cases x), fun x => absurd x hno⟩⟩
  simp (maxSteps := 300000) (disch := omega) only [gws, ↓reduceIte, reduceEqDiff, reduceToNat, reduceMul, reduceAdd, Nat.reduceBEq, isLd, f0, f1, f2, f3, g0, g1, g2, g3]
  by_cases e0 : M.p = N.p
  · by_cases e1 : M.r = N.r
    · by_cases e2 : M.c = N.c
      · simp (maxSteps := 300000) (disch := omega) only [gws, ↓reduceIte, reduceEqDiff, reduceToNat, reduceMul, reduceAdd, Nat.reduceBEq, isLd, eq_true e0, eq_true e1, eq_true e2, f0, f1, f2, f3, g0, g1, g2, g3]
        refine slices_Equal_int64_ok h1 h2 hl ?_
        simp (maxSteps := 300000) (disch := omega) only [gws, ↓reduceIte, reduceEqDiff, reduceToNat, reduceMul, reduceAdd, Nat.reduceBEq, isLd]
        refine ⟨G, s, hk _ ?_⟩
        rw [decide_eq_true_eq]
        obtain ⟨p, r, c, m⟩ := M
        obtain ⟨p', r', c', m'⟩ := N
        dsimp only at e0 e1 e2 ⊢
        subst e0 e1 e2
        exact ⟨fun x => by rw [x], fun x => by cases x; rfl⟩
      · simp (maxSteps := 300000) (disch := omega) only [gws, ↓reduceIte, reduceEqDiff, reduceToNat, reduceMul, reduceAdd, Nat.reduceBEq, isLd, eq_true e0, eq_true e1, eq_false e2, f0, f1, f2, f3, g0, g1, g2, g3]
        exact fin fun x => e2 (by rw [x])
    · simp (maxSteps := 300000) (disch := omega) only [gws, ↓reduceIte, reduceEqDiff, reduceToNat, reduceMul, reduceAdd, Nat.reduceBEq, isLd, eq_true e0, eq_false e1, f0, f1, f2, f3, g0, g1, g2, g3]
      exact fin fun x => e1 (by rw [x])
  · simp (maxSteps := 300000) (disch := omega) only [gws, ↓reduceIte, reduceEqDiff, reduceToNat, reduceMul, reduceAdd, Nat.reduceBEq, isLd, eq_false e0, f0, f1, f2, f3, g0, g1, g2, g3]
    exact fin fun x => e0 (by rw [x])
theorem spec_l03Same_ok {G : GH} {q q' A B : Option Addr} {M N : Mt} {k l : Nat} (h : MtP G q M A k) (h' : MtP G q' N B l) (hl : M.m.length < 2 ^ 40) {K : Value → GH → Prop}
    (hk : ∀ z : Bool, (z = true ↔ M = N) → K (.bool z) G) : GC Tryz.prog 200 [.pointer q, .pointer q'] G K := by
  refine kz4 (by simp) ?_
  have f0 := h.f0
  have f1 := h.f1
  have f2 := h.f2
  have f3 := h.f3
  have g0 := h'.f0
  have g1 := h'.f1
  have g2 := h'.f2
  have g3 := h'.f3
  have hq := rd_some f0
  have hq' := rd_some g0
  have r := h.m.rd
  have r' := h'.m.rd
  have hsn := h.m.sn
  have hsn' := h'.m.sn
  have fin : (¬ M = N) → K (.bool false) G := fun hno => hk false ⟨fun x => (by cases x), fun x => absurd x hno⟩
  simp (maxSteps := 300000) (disch := omega) only [gws, ↓reduceIte, reduceEqDiff, reduceToNat, reduceMul, reduceAdd, Nat.reduceBEq, isLd, f0, f1, f2, f3, g0, g1, g2, g3]
  by_cases e0 : M.p = N.p
  · by_cases e1 : M.r = N.r
    · by_cases e2 : M.c = N.c
      · by_cases e3 : (M.m.length : Int) = N.m.length
        · simp (maxSteps := 300000) (disch := omega) only [gws, ↓reduceIte, reduceEqDiff, reduceToNat, reduceMul, reduceAdd, Nat.reduceBEq, isLd, eq_true e0, eq_true e1, eq_true e2, eq_true e3, f0, f1, f2, f3, g0, g1, g2, g3]
          refine gLoop_intro (fun m T G' => ∃ j : Nat, T 0 = .pointer q ∧ T 1 = .pointer q' ∧ T 5 = .int .i64 j ∧ m + j = M.m.length ∧ j ≤ M.m.length ∧ G = G' ∧ ∀ i, i < j → M.m.getD i 0 = N.m.getD i 0) M.m.length
            ⟨0, by simp (maxSteps := 300000) (disch := omega) only [gws, ↓reduceIte, reduceEqDiff, reduceToNat, reduceMul, reduceAdd, Nat.reduceBEq, isLd], by simp (maxSteps := 300000) (disch := omega) only [gws, ↓reduceIte, reduceEqDiff, reduceToNat, reduceMul, reduceAdd, Nat.reduceBEq, isLd], by simp (maxSteps := 300000) (disch := omega) only [gws, ↓reduceIte, reduceEqDiff, reduceToNat, reduceMul, reduceAdd, Nat.reduceBEq, isLd] <;> rfl, by omega, by omega, rfl, fun i hi => by omega⟩ ?_
          rintro m T G' ⟨j, t0, t1, t5, hm, hjl, rfl, hin⟩
          simp (maxSteps := 300000) (disch := omega) only [gws, ↓reduceIte, reduceEqDiff, reduceToNat, reduceMul, reduceAdd, Nat.reduceBEq, isLd, t0, t1, t5, f3]
          by_cases hj : (j : Int) < M.m.length
          · simp (maxSteps := 300000) (disch := omega) only [gws, ↓reduceIte, reduceEqDiff, reduceToNat, reduceMul, reduceAdd, Nat.reduceBEq, isLd, t0, t1, t5, f3, g3, hj, r, r']
            by_cases hv : M.m.getD j 0 = N.m.getD j 0
            · simp (maxSteps := 300000) (disch := omega) only [gws, ↓reduceIte, reduceEqDiff, reduceToNat, reduceMul, reduceAdd, Nat.reduceBEq, isLd, eq_true hv, t0, t1, t5]
              exact ⟨m - 1, by omega, _, Sub.refl _, j + 1, rfl, by omega, by omega, rfl, fun i hi => by
                by_cases hij : i = j
                · subst hij; exact hv
                · exact hin i (by omega)⟩
            · simp (maxSteps := 300000) (disch := omega) only [gws, ↓reduceIte, reduceEqDiff, reduceToNat, reduceMul, reduceAdd, Nat.reduceBEq, isLd, eq_false hv]
              exact fin fun x => hv (by rw [x])
          · simp (maxSteps := 300000) (disch := omega) only [gws, ↓reduceIte, reduceEqDiff, reduceToNat, reduceMul, reduceAdd, Nat.reduceBEq, isLd, t0, t1, t5, f3, hj]
            refine hk true ⟨fun _ => ?_, fun _ => rfl⟩
            have em : M.m = N.m := List.ext_getElem (by omega) fun i h1 h2 => by
              have := hin i (by omega)
              simpa [List.getD, h1, h2] using this
            obtain ⟨p, r, c, m⟩ := M
            obtain ⟨p', r', c', m'⟩ := N
            dsimp only at e0 e1 e2 em ⊢
            subst e0 e1 e2 em
            rfl
        · simp (maxSteps := 300000) (disch := omega) only [gws, ↓reduceIte, reduceEqDiff, reduceToNat, reduceMul, reduceAdd, Nat.reduceBEq, isLd, eq_true e0, eq_true e1, eq_true e2, eq_false e3, f0, f1, f2, f3, g0, g1, g2, g3]
          exact fin fun x => e3 (by rw [x])
      · simp (maxSteps := 300000) (disch := omega) only [gws, ↓reduceIte, reduceEqDiff, reduceToNat, reduceMul, reduceAdd, Nat.reduceBEq, isLd, eq_true e0, eq_true e1, eq_false e2, f0, f1, f2, f3, g0, g1, g2, g3]
        exact fin fun x => e2 (by rw [x])
    · simp (maxSteps := 300000) (disch := omega) only [gws, ↓reduceIte, reduceEqDiff, reduceToNat, reduceMul, reduceAdd, Nat.reduceBEq, isLd, eq_true e0, eq_false e1, f0, f1, f2, f3, g0, g1, g2, g3]
      exact fin fun x => e1 (by rw [x])
  · simp (maxSteps := 300000) (disch := omega) only [gws, ↓reduceIte, reduceEqDiff, reduceToNat, reduceMul, reduceAdd, Nat.reduceBEq, isLd, eq_false e0, f0, f1, f2, f3, g0, g1, g2, g3]
    exact fin fun x => e0 (by rw [x])
def updAt (f : Int → Int) (v x : Int) : Int → Int := fun w => if w = v then x else f w
def upd2 (f : Int → Int → Int) (i j x : Int) : Int → Int → Int := fun a b => if a = i ∧ b = j then x else f a b
theorem New.boxed {G G' : GH} {A : Option Addr} {c sz n b : Nat} {cs : List Value} (h : New G G' A c cs sz n) (hb : G' b = none) (e : Ent) : New (put G b e) (put G' b e) A c cs sz n := by
  rcases h with ⟨h1, h2, h3, h4, rfl⟩ | ⟨b', r, h1, h2, rfl, h3⟩
  · exact .inl ⟨h1, h2, h3, h4, rfl⟩
  · have q := put_none.1 hb
    exact .inr ⟨b', r, h1, by rw [put_ne _ _ q.1.symm]; exact h2, by rw [put_comm _ _ _ q.1.symm], h3⟩
/-- what can still be sent. -/
def left (es : List T3) (t : Int) (fl : List Int) : Nat := (24000000 - exc es fl t es.length).toNat
theorem mulB {a b : Int} {A B : Nat} (ha : -(A : Int) ≤ a ∧ a ≤ A) (hb : -(B : Int) ≤ b ∧ b ≤ B) : -((A * B : Nat) : Int) ≤ a * b ∧ a * b ≤ ((A * B : Nat) : Int) := by
  have h1 : a.natAbs ≤ A := by omega
  have h2 : b.natAbs ≤ B := by omega
  have h3 : (a * b).natAbs ≤ A * B := by rw [Int.natAbs_mul]; exact Nat.mul_le_mul h1 h2
  omega
/-- one cell of one's own block is written: all else stays. -/
def Keep (b : Nat) (G G' : GH) : Prop := ∀ x, x ≠ b → G' x = G x
theorem rd_fcells {G : GH} {b n : Nat} {f : Int → Int} (h : G b = some ⟨fcells n f, true⟩) {v : Int} (h0 : 0 ≤ v) (h1 : v < n) : rd G (some ⟨b, v.toNat, none⟩) = some (.int .i64 (f v)) := by
  simp only [rd, h, Option.bind_some]
  have := fcells_get (b := f) (rest := []) h0 h1
  rw [List.append_nil] at this; exact this
theorem st_fcells {G : GH} {b n : Nat} {f : Int → Int} (h : G b = some ⟨fcells n f, true⟩) {v x : Int} (h0 : 0 ≤ v) (h1 : v < n) {K : Value → GH → Prop} (hk : ∀ G', G' b = some ⟨fcells n (updAt f v x), true⟩ → Keep b G G' → K undef G') : gSt 1 (.pointer (some ⟨b, v.toNat, none⟩)) (.int .i64 x) G K := by
  refine st_one h (by rw [fcells_len]; omega) rfl (hk _ ?_ fun y hy => put_ne _ _ hy)
  rw [put_same]
  have := fcells_set (b := f) (rest := []) (x := x) h0 h1
  rw [List.append_nil, List.append_nil] at this
  rw [this]; rfl
theorem rd_keep {b : Nat} {G G' : GH} (h : Keep b G G') {y o : Nat} {v : Value} (hy : y ≠ b) (hr : rd G (some ⟨y, o, none⟩) = some v) : rd G' (some ⟨y, o, none⟩) = some v := by
  simp only [rd] at hr ⊢; rw [h y hy]; exact hr
theorem sub_keep {b : Nat} {G G' H : GH} (h : Keep b G G') (hb : H b = none) (s : Sub H G) : Sub H G' := fun x e hx => by
  have : x ≠ b := fun e' => by rw [e', hb] at hx; cases hx
  rw [h x this]; exact s x e hx
/-- the first row from t on that has something in a column. -/
def fstRow (f : Int → Int → Int) (c : Int) (t R : Nat) : Option Nat := (List.range' t (R - t)).find? fun i => f i c != 0
theorem fstRow_some {f : Int → Int → Int} {c : Int} {t R i : Nat} (h0 : t ≤ i) (h1 : i < R) (h2 : f i c ≠ 0) (h3 : ∀ j, t ≤ j → j < i → f j c = 0) : fstRow f c t R = some i := by
  unfold fstRow
  rw [show R - t = (i - t) + ((R - i - 1) + 1) by omega, ← List.range'_append_1, List.find?_append, List.find?_eq_none.2]
  · rw [Option.none_or, show t + (i - t) = i by omega, List.range'_succ, List.find?_cons_of_pos (by simpa using h2)]
  · intro j hj
    rw [List.mem_range'_1] at hj
    simp [h3 j hj.1 (by omega)]
theorem fstRow_none {f : Int → Int → Int} {c : Int} {t R : Nat} (h : ∀ j : Nat, t ≤ j → j < R → f j c = 0) : fstRow f c t R = none := by
  unfold fstRow
  rw [List.find?_eq_none]
  intro j hj
  rw [List.mem_range'_1] at hj
  simp [h j hj.1 (by omega)]
theorem fstRow_spec {f : Int → Int → Int} {c : Int} {t R i : Nat} (h : fstRow f c t R = some i) : t ≤ i ∧ i < R ∧ f i c ≠ 0 := by
  unfold fstRow at h
  have h1 := List.mem_of_find?_eq_some h
  have h2 := List.find?_some h
  rw [List.mem_range'_1] at h1
  exact ⟨h1.1, by omega, by simpa using h2⟩
def swp (f : Int → Int → Int) (a b : Int) : Int → Int → Int := fun i => if i = a then f b else if i = b then f a else f i
def scl (f : Int → Int → Int) (t k p : Int) : Int → Int → Int := fun i j => if i = t then (f t j * k) % p else f i j
def clr (f : Int → Int → Int) (t c p : Int) : Int → Int → Int := fun i j => if i = t then f i j else (f i j + (p - f i c) * f t j) % p
/-- a power modulo p. -/
def pw (a : Int) (p : Int) : Nat → Int
  | 0 => 1
  | n + 1 => pw a p n * a % p
def invF (a p : Int) : Int := pw a p (p - 2).toNat
structure ElS where
  f : Int → Int → Int
  piv : List Int
  det : Int
noncomputable def elS (p : Int) (R : Nat) (s : ElS) (c : Nat) : ElS :=
  match fstRow s.f c s.piv.length R with
  | none => ⟨s.f, s.piv, 0⟩
  | some i =>
    let g := swp s.f s.piv.length i
    let h := scl g s.piv.length (invF (g s.piv.length c) p) p
    ⟨clr h s.piv.length c p, s.piv ++ [(c : Int)], (if i = s.piv.length then s.det else (-s.det) % p) * g s.piv.length c % p⟩
noncomputable def elF (p : Int) (R : Nat) (f : Int → Int → Int) : Nat → ElS
  | 0 => ⟨f, [], 1⟩
  | c + 1 => elS p R (elF p R f c) c
/-- all cells are numbers modulo p. -/
def Rng (f : Int → Int → Int) (p : Int) : Prop := ∀ i j, 0 ≤ f i j ∧ f i j < p
theorem Rng.swp {f : Int → Int → Int} {p : Int} (h : Rng f p) (a b : Int) : Rng (Gh.swp f a b) p := fun i j => by
  unfold Gh.swp; split
  · exact h b j
  · split
    · exact h a j
    · exact h i j
theorem Rng.scl {f : Int → Int → Int} {p : Int} (h : Rng f p) (hp : 0 < p) (t k : Int) : Rng (Gh.scl f t k p) p := fun i j => by
  unfold Gh.scl; split
  · exact ⟨Int.emod_nonneg _ (by omega), Int.emod_lt_of_pos _ hp⟩
  · exact h i j
theorem Rng.clr {f : Int → Int → Int} {p : Int} (h : Rng f p) (hp : 0 < p) (t c : Int) : Rng (Gh.clr f t c p) p := fun i j => by
  unfold Gh.clr; split
  · exact h i j
  · exact ⟨Int.emod_nonneg _ (by omega), Int.emod_lt_of_pos _ hp⟩
theorem elS_rng {p : Int} {R : Nat} (hp : 0 < p) {s : ElS} (h : Rng s.f p) (c : Nat) : Rng (elS p R s c).f p := by
  unfold elS; split
  · exact h
  · exact ((h.swp _ _).scl hp _ _).clr hp _ _
theorem elF_rng {p : Int} {R : Nat} (hp : 0 < p) {f : Int → Int → Int} (h : Rng f p) : ∀ c, Rng (elF p R f c).f p
  | 0 => h
  | c + 1 => elS_rng hp (elF_rng hp h c) c
theorem elS_len {p : Int} {R : Nat} {s : ElS} (h : s.piv.length ≤ R) (c : Nat) : (elS p R s c).piv.length ≤ R ∧ s.piv.length ≤ (elS p R s c).piv.length ∧ (elS p R s c).piv.length ≤ s.piv.length + 1 := by
  unfold elS; split
  · exact ⟨h, Nat.le_refl _, Nat.le_succ _⟩
  · rename_i i hi
    have := fstRow_spec hi
    simp; omega
theorem elF_len (p : Int) (R : Nat) (f : Int → Int → Int) : ∀ c, (elF p R f c).piv.length ≤ R ∧ (elF p R f c).piv.length ≤ c
  | 0 => ⟨by simp [elF], by simp [elF]⟩
  | c + 1 => by
    have ih := elF_len p R f c
    have := elS_len (p := p) ih.1 c
    exact ⟨this.1, by have := this.2.2; show (elS p R (elF p R f c) c).piv.length ≤ _; omega⟩
theorem elF_det {p : Int} (hp : 1 < p) (R : Nat) (f : Int → Int → Int) : ∀ c, 0 ≤ (elF p R f c).det ∧ (elF p R f c).det < p
  | 0 => by simp [elF]; omega
  | c + 1 => by
    show 0 ≤ (elS p R (elF p R f c) c).det ∧ (elS p R (elF p R f c) c).det < p
    unfold elS; split
    · exact ⟨Int.le_refl _, show (0 : Int) < p by omega⟩
    · exact ⟨Int.emod_nonneg _ (by omega), Int.emod_lt_of_pos _ (by omega)⟩
theorem pw_rng {a p : Int} (hp : 1 < p) : ∀ n, 0 ≤ pw a p n ∧ pw a p n < p
  | 0 => by show (0 : Int) ≤ 1 ∧ (1 : Int) < p; omega
  | n + 1 => ⟨Int.emod_nonneg (pw a p n * a) (by omega), Int.emod_lt_of_pos (pw a p n * a) (by omega)⟩
theorem pw_sq {a p : Int} : ∀ n, pw (a * a % p) p n % p = pw a p (2 * n) % p
  | 0 => rfl
  | n + 1 => by
    show pw (a * a % p) p n * (a * a % p) % p % p = pw a p (2 * n + 1) * a % p % p
    have e : pw a p (2 * n + 1) = pw a p (2 * n) * a % p := rfl
    rw [e, Int.emod_emod_of_dvd _ (Int.dvd_refl p), Int.emod_emod_of_dvd _ (Int.dvd_refl p), Int.mul_emod (pw (a * a % p) p n), pw_sq n, Int.mul_emod (pw a p (2 * n) * a % p), Int.emod_emod_of_dvd _ (Int.dvd_refl p), Int.emod_emod_of_dvd _ (Int.dvd_refl p), ← Int.mul_emod, ← Int.mul_emod, Int.mul_assoc]
theorem mul_mod_r (a b p : Int) : a * (b % p) % p = a * b % p := by rw [Int.mul_emod, Int.emod_emod_of_dvd _ (Int.dvd_refl p), ← Int.mul_emod]
theorem mul_mod_l (a b p : Int) : a % p * b % p = a * b % p := by rw [Int.mul_emod, Int.emod_emod_of_dvd _ (Int.dvd_refl p), ← Int.mul_emod]
theorem pw_half (acc a p : Int) (n : Nat) : (if n % 2 = 1 then acc * a % p else acc) * pw (a * a % p) p (n / 2) % p = acc * pw a p n % p := by
  by_cases h : n % 2 = 1
  · rw [if_pos h]
    have e : n = 2 * (n / 2) + 1 := by omega
    generalize n / 2 = m at *
    subst e
    rw [mul_mod_l, ← mul_mod_r, pw_sq, mul_mod_r]
    show _ = acc * (pw a p (2 * m) * a % p) % p
    rw [mul_mod_r, Int.mul_assoc, Int.mul_comm a]
  · rw [if_neg h]
    have e : n = 2 * (n / 2) := by omega
    generalize n / 2 = m at *
    subst e
    rw [← mul_mod_r, pw_sq, mul_mod_r]
def sg (i : Nat) : Int := if i % 2 = 0 then 1 else -1
def sm (g : Nat → Int) : Nat → Int
  | 0 => 0
  | n + 1 => sm g n + g n
def sx (a b i : Int) : Int := if i = a then b else if i = b then a else i
def setr (f : Int → Int → Int) (r : Int) (v : Int → Int) : Int → Int → Int := fun i => if i = r then v else f i
def del (G : GH) (b : Nat) : GH := fun x => if x = b then none else G x
theorem del_none (G : GH) (b : Nat) : del G b b = none := if_pos rfl
theorem Sub.del (G : GH) (b : Nat) : Sub (Gh.del G b) G := fun x e h => by
  unfold Gh.del at h; split at h
  · cases h
  · exact h
theorem Sub.in_del {K G : GH} {b : Nat} (s : Sub K G) (h : K b = Option.none) : Sub K (Gh.del G b) := fun x e hx => by
  have hxb : x ≠ b := fun e' => by rw [e', h] at hx; cases hx
  unfold Gh.del; rw [if_neg hxb]; exact s x e hx
theorem del_ne (G : GH) {b x : Nat} (h : x ≠ b) : del G b x = G x := if_neg h
/-- bytes in memory. -/
structure BytS (G : GH) (A : Option Addr) (L c : Nat) : Prop where
  cap : L ≤ c
  rd : ∀ i, i < L → ∃ z : Int, 0 ≤ z ∧ z ≤ 255 ∧ rd G (pa A i) = some (.int .u8 z)
theorem BytS.sub {G G' : GH} {A : Option Addr} {L c : Nat} (h : BytS G A L c) (s : Sub G G') : BytS G' A L c := ⟨h.cap, fun i hi => by
  obtain ⟨z, h0, h1, h2⟩ := h.rd i hi
  exact ⟨z, h0, h1, rd_sub s h2⟩⟩
theorem st_src {G : GH} {b o : Nat} {cs : List Value} {v : Value} {K : Value → GH → Prop} (h : G b = some ⟨cs, true⟩) (h1 : oneB v = true) (ho : o < cs.length) (hk : ∀ G', Keep b G G' → G' b = some ⟨cs.set o v, true⟩ → K undef G') : gSt 1 (.pointer (some ⟨b, o, none⟩)) v G K :=
  st_one h ho h1 (hk _ (fun y hy => put_ne _ _ hy) (put_same _ _ _))
theorem T3S.cells {G : GH} {A : Option Addr} {c : Nat} {es : List T3} (h : T3S G A c es) : Cells G A (flat3 es) := fun i v hv => by
  have hl : i < (flat3 es).length := by
    rcases Nat.lt_or_ge i (flat3 es).length with h | h
    · exact h
    · rw [List.getElem?_eq_none h] at hv; cases hv
  rw [flat3_len] at hl
  have hi : i / 3 < es.length := by omega
  obtain ⟨g0, g1, g2⟩ := flat3_get es (i / 3) hi
  have h3 : i % 3 = 0 ∨ i % 3 = 1 ∨ i % 3 = 2 := by omega
  rcases h3 with h3 | h3 | h3
  · rw [show i = i / 3 * 3 by omega] at hv ⊢
    rw [g0] at hv; cases hv
    exact h.r0 _ hi
  · have e : i = i / 3 * 3 + 1 := by omega
    rw [e] at hv ⊢
    rw [g1] at hv; cases hv
    exact h.r1 _ hi
  · have e : i = i / 3 * 3 + 2 := by omega
    rw [e] at hv ⊢
    rw [g2] at hv; cases hv
    exact h.r2 _ hi
theorem Own.del {G : GH} {A : Option Addr} {c sz n b : Nat} {cs : List Value} (h : Own G A c cs sz n) (hb : ∀ a, A = some a → a.block ≠ b) : Own (Gh.del G b) A c cs sz n := by
  rcases h with h | ⟨x, r, rfl, h2, h3⟩
  · exact .inl h
  · exact .inr ⟨x, r, rfl, by rw [del_ne _ (hb _ rfl)]; exact h2, h3⟩
/-- the heap without the block of a list. -/
def wo (G : GH) (A : Option Addr) : GH := fun x => if A.map (·.block) = some x then none else G x
theorem Sub.wo (G : GH) (A : Option Addr) : Sub (Gh.wo G A) G := fun x e h => by
  unfold Gh.wo at h; split at h
  · cases h
  · exact h
theorem Off.wo (G : GH) (A : Option Addr) : Off (Gh.wo G A) A := fun a ha => by unfold Gh.wo; rw [if_pos (by rw [ha]; rfl)]
theorem wo_ne {G : GH} {A : Option Addr} {x : Nat} (h : ∀ a, A = some a → a.block ≠ x) : wo G A x = G x := by
  unfold wo; rw [if_neg]
  cases A with
  | none => simp
  | some a => simp; exact h a rfl
def z2 : List Value := [.int .i64 0, .slice none 0 0]
def rowL (C : Nat) (g : Int → Int) : List Int := (List.range C).map fun j : Nat => g j
theorem rowL_len (C : Nat) (g : Int → Int) : (rowL C g).length = C := by simp [rowL]
theorem rowL_get {C : Nat} (g : Int → Int) {j : Nat} (h : j < C) : (rowL C g).getD j 0 = g j := by simp [rowL, List.getD, h]
theorem rowL_succ (C : Nat) (g : Int → Int) : rowL (C + 1) g = rowL C g ++ [g C] := by simp [rowL, List.range_succ]
theorem rowL_congr {C : Nat} {f g : Int → Int} (h : ∀ j : Nat, j < C → f j = g j) : rowL C f = rowL C g := by
  unfold rowL
  exact List.map_congr_left fun j hj => h j (List.mem_range.1 hj)
def rowsC (A : Nat → Option Addr) (c : Nat → Nat) (R C : Nat) : List Value := (List.range R).map fun i => .slice (A i) C (c i)
theorem rowsC_len (A : Nat → Option Addr) (c : Nat → Nat) (R C : Nat) : (rowsC A c R C).length = R := by simp [rowsC]
theorem rowsC_get {A : Nat → Option Addr} {c : Nat → Nat} {R C i : Nat} (h : i < R) : (rowsC A c R C)[i]? = some (.slice (A i) C (c i)) := by simp [rowsC, h]
theorem rowsC_set {A : Nat → Option Addr} {c : Nat → Nat} {R C i : Nat} (A' : Option Addr) (c' : Nat) : (rowsC A c R C).set i (.slice A' C c') = rowsC (fun k => if k = i then A' else A k) (fun k => if k = i then c' else c k) R C := by
  unfold rowsC
  apply List.ext_getElem
  · simp
  · intro k h1 h2
    simp only [List.length_set, List.length_map, List.length_range] at h1
    by_cases e : i = k
    · subst e; simp
    · have e' : k ≠ i := fun x => e x.symm
      simp [List.getElem_set, e, e']
theorem Sub.del2 {G G' : GH} (s : Sub G G') (b : Nat) : Sub (Gh.del G b) (Gh.del G' b) := fun x e h => by
  unfold Gh.del at h ⊢
  split at h
  · cases h
  · rename_i hne; rw [if_neg hne]; exact s x e h
theorem wo_mono {G G' : GH} (s : Sub G G') (Z : Option Addr) : Sub (wo G Z) (wo G' Z) := fun x e h => by
  unfold wo at h ⊢
  split at h
  · cases h
  · rename_i hne; rw [if_neg hne]; exact s x e h
/-- what is known of rows: the outer block b is one's own; the rows lie elsewhere than at Z. -/
structure Rw (H G : GH) (b : Nat) (A : Nat → Option Addr) (c : Nat → Nat) (R C : Nat) (f : Int → Int → Int) (rest : List Value) (Z : Option Addr) : Prop where
  sub : Sub H G
  nb : H b = none
  blk : G b = some ⟨rowsC A c R C ++ rest, true⟩
  row : ∀ i : Nat, i < R → IntS (del (wo G Z) b) (A i) (c i) (rowL C (f i))
theorem Rw.get {H G : GH} {b : Nat} {A : Nat → Option Addr} {c : Nat → Nat} {R C : Nat} {f : Int → Int → Int} {rest : List Value} {Z : Option Addr} (h : Rw H G b A c R C f rest Z) {i : Nat} (hi : i < R) : rd G (some ⟨b, i, none⟩) = some (.slice (A i) C (c i)) := by
  simp only [rd, h.blk, Option.bind_some]
  rw [List.getElem?_append_left (by rw [rowsC_len]; exact hi), rowsC_get hi]
theorem Rw.ints {H G : GH} {b : Nat} {A : Nat → Option Addr} {c : Nat → Nat} {R C : Nat} {f : Int → Int → Int} {rest : List Value} {Z : Option Addr} (h : Rw H G b A c R C f rest Z) {i : Nat} (hi : i < R) : IntS G (A i) (c i) (rowL C (f i)) := (h.row i hi).sub ((Gh.Sub.del _ _).trans (Gh.Sub.wo _ _))
theorem Rw.cell {H G : GH} {b : Nat} {A : Nat → Option Addr} {c : Nat → Nat} {R C : Nat} {f : Int → Int → Int} {rest : List Value} {Z : Option Addr} (h : Rw H G b A c R C f rest Z) {i j : Nat} (hi : i < R) (hj : j < C) : rd G (pa (A i) j) = some (.int .i64 (f i j)) := by
  have := (h.ints hi).rd j (by rw [rowL_len]; exact hj)
  rwa [rowL_get _ hj] at this
theorem Rw.sn {H G : GH} {b : Nat} {A : Nat → Option Addr} {c : Nat → Nat} {R C : Nat} {f : Int → Int → Int} {rest : List Value} {Z : Option Addr} (h : Rw H G b A c R C f rest Z) {i : Nat} (hi : i < R) (hC : 0 < C) : 0 < sn (A i) := (h.ints hi).sn (by rw [rowL_len]; exact hC)
theorem Rw.up {H G : GH} {b : Nat} {A : Nat → Option Addr} {c : Nat → Nat} {R C : Nat} {f : Int → Int → Int} {rest : List Value} {Z : Option Addr} {G' : GH} (h : Rw H G b A c R C f rest Z) (s : Sub G G') : Rw H G' b A c R C f rest Z :=
  ⟨h.sub.trans s, h.nb, s _ _ h.blk, fun i hi => (h.row i hi).sub ((wo_mono s Z).del2 b)⟩
theorem Rw.low {H G : GH} {b : Nat} {A : Nat → Option Addr} {c : Nat → Nat} {R C : Nat} {f : Int → Int → Int} {rest : List Value} {Z : Option Addr} {H' : GH} (h : Rw H G b A c R C f rest Z) (s : Sub H' H) : Rw H' G b A c R C f rest Z := ⟨s.trans h.sub, s.none h.nb, h.blk, h.row⟩
theorem Rw.cong {H G : GH} {b : Nat} {A : Nat → Option Addr} {c : Nat → Nat} {R C : Nat} {f : Int → Int → Int} {rest : List Value} {Z : Option Addr} {g : Int → Int → Int} (h : Rw H G b A c R C f rest Z) (e : ∀ i j : Nat, i < R → j < C → f i j = g i j) : Rw H G b A c R C g rest Z :=
  ⟨h.sub, h.nb, h.blk, fun i hi => by rw [← rowL_congr fun j hj => e i j hi hj]; exact h.row i hi⟩
theorem Rw.all {H G : GH} {b : Nat} {A : Nat → Option Addr} {c : Nat → Nat} {R C : Nat} {f : Int → Int → Int} {rest : List Value} {Z : Option Addr} (h : Rw H G b A c R C f rest Z) : Rw (Gh.del G b) G b A c R C f rest Z := ⟨Gh.Sub.del _ _, del_none _ _, h.blk, h.row⟩
/-- a new list is apart from the outer block and from another one. -/
theorem New.del {G G' : GH} {A Z : Option Addr} {c b : Nat} {xs : List Int} {e : Ent} (h : New G G' A c (xs.map I64) 1 xs.length) (hb : G b = some e) (hZ : ∀ a, Z = some a → ∃ e, G a.block = some e) : IntS (Gh.del (wo G' Z) b) A c xs := by
  have hi := h.ints
  rcases h with ⟨_, _, h0, _, _⟩ | ⟨x, r, rfl, hx, rfl, _⟩
  · exact ⟨hi.cap, fun i hlt => by omega⟩
  · have hne : x ≠ b := fun e' => by rw [e', hb] at hx; cases hx
    have hnz : ∀ a, Z = some a → a.block ≠ x := fun a ha e' => by
      obtain ⟨e2, h2⟩ := hZ a ha
      rw [e', hx] at h2; cases h2
    refine ⟨hi.cap, fun i hlt => ?_⟩
    have := hi.rd i hlt
    simp only [pa_mk, rd] at this ⊢
    unfold Gh.del
    rw [if_neg hne, wo_ne hnz]; exact this
/-- a row is written. -/
theorem Rw.st {H G : GH} {b : Nat} {A : Nat → Option Addr} {c : Nat → Nat} {R C : Nat} {f : Int → Int → Int} {rest : List Value} {Z : Option Addr} (h : Rw H G b A c R C f rest Z) {i : Nat} (hi : i < R) (hbz : ∀ a, Z = some a → a.block ≠ b) {A' : Option Addr} {c' : Nat} {g : Int → Int} (hg : IntS (Gh.del (wo G Z) b) A' c' (rowL C g)) {K : Value → GH → Prop}
    (hk : ∀ G', Rw H G' b (fun k => if k = i then A' else A k) (fun k => if k = i then c' else c k) R C (setr f i g) rest Z → Gh.del G' b = Gh.del G b → Gh.del (wo G' Z) b = Gh.del (wo G Z) b → K undef G') : gSt 1 (.pointer (some ⟨b, i, none⟩)) (.slice A' C c') G K := by
  refine st_src h.blk rfl (by rw [List.length_append, rowsC_len]; omega) fun G' hK hb => ?_
  have hd : Gh.del G' b = Gh.del G b := by
    funext x
    unfold Gh.del
    by_cases e : x = b
    · rw [if_pos e, if_pos e]
    · rw [if_neg e, if_neg e, hK x e]
  have hd2 : Gh.del (wo G' Z) b = Gh.del (wo G Z) b := by
    funext x
    unfold Gh.del wo
    by_cases e : x = b
    · rw [if_pos e, if_pos e]
    · rw [if_neg e, if_neg e, hK x e]
  refine hk G' ⟨sub_keep hK h.nb h.sub, h.nb, ?_, fun k hk' => ?_⟩ hd hd2
  · rw [hb, List.set_append_left _ _ (by rw [rowsC_len]; exact hi), rowsC_set]
  · rw [hd2]
    by_cases e : k = i
    · subst e
      simp only [if_true]
      have : setr f k g k = g := by unfold setr; rw [if_pos rfl]
      rw [this]; exact hg
    · simp only [if_neg e]
      have : setr f i g k = f k := by unfold setr; rw [if_neg (by omega)]
      rw [this]; exact h.row k hk'

end Go.Proofs.YtdnipjkpfpahmaaGreat.Gh
