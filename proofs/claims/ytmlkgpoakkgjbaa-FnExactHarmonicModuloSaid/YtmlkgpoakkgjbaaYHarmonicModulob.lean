/- What the functions that the law HarmonicModulo reaches return, and the law; it stands under no condition. -/
import Derived.Test.YtmlkgpoakkgjbaaYHarmonicModuloa
namespace Go.Proofs.Ytmlkgpoakkgjbaa.Gh
open Go Go.RowKit Go.Proofs
set_option linter.unusedVariables false
set_option linter.unusedSimpArgs false
set_option maxHeartbeats 4000000

theorem st_one {G : GH} {b o : Nat} {cs : List Value} {v : Value} {K : Value → GH → Prop} (hb : G b = some ⟨cs, true⟩) (ho : o < cs.length) (h1 : oneB v = true) (hk : K undef (put G b ⟨cs.set o v, true⟩)) : gSt 1 (.pointer (some ⟨b, o, none⟩)) v G K := by
  have hc : v.cells = #[v] := by cases v <;> first | rfl | simp [oneB] at h1
  refine ⟨b, o, cs, rfl, hb, by rw [hc]; rfl, by omega, ?_, ?_⟩
  · rw [hc]; intro u hu; simp at hu; subst hu; exact h1
  · rw [hc]; exact hk
theorem fill_set {α : Type} (f : α → Value) (z : Value) (d : α) (xs : List α) (k : Nat) (hk : k < xs.length) :
    ((xs.take k).map f ++ List.replicate (xs.length - k) z).set k (f (xs.getD k d)) = (xs.take (k + 1)).map f ++ List.replicate (xs.length - (k + 1)) z := by
  apply List.ext_getElem?
  intro i
  have hl : ((xs.take k).map f).length = k := by simp; omega
  rw [List.getElem?_set]
  by_cases hik : k = i
  · subst hik
    simp only [if_true, List.length_append, hl, List.length_replicate]
    rw [if_pos (by omega), List.getElem?_append_left (by simp; omega)]
    simp [List.getD, hk]
  · rw [if_neg hik]
    by_cases hlt : i < k
    · rw [List.getElem?_append_left (by omega), List.getElem?_append_left (by simp; omega)]
      simp [List.getElem?_take, hlt, show i < k + 1 by omega]
    · rw [List.getElem?_append_right (by omega), List.getElem?_append_right (by simp; omega)]
      simp only [hl, List.length_map, List.length_take, List.getElem?_replicate, show min (k + 1) xs.length = k + 1 by omega]
      by_cases h2 : i < xs.length
      · rw [if_pos (by omega), if_pos (by omega)]
      · rw [if_neg (by omega), if_neg (by omega)]
theorem zc_one (z : Value) (n : Nat) : zc [z] n = List.replicate n z := by
  apply List.ext_getElem
  · simp [zc]
  · intro i h1 h2; simp [zc, Nat.mod_one, List.getD]
theorem laws_toInt64S_ok {G : GH} {A : Option Addr} {c : Nat} {xs : List Int} (h : IntS G A c xs) (hl : xs.length ≤ 2 ^ 20) {K : Value → GH → Prop}
    (hk : ∀ b, G b = none → K (.slice (some ⟨b, 0, none⟩) xs.length xs.length) (put G b ⟨xs.map I64, true⟩)) : GC Try.prog 29 [.slice A xs.length c] G K := by
  refine c_laws_toInt64S_i (by simp) ?_
  have hsn := h.sn
  have hrd := h.rd
  simp (maxSteps := 300000) (disch := omega) only [gs, gs2, gs3, gs4, ↓reduceIte, Nat.reduceEqDiff, Int.reduceToNat, Nat.reduceMul, Nat.reduceAdd, Nat.reduceBEq, isLd]
  refine ⟨xs.length, xs.length, rfl, rfl, Nat.le_refl _, by omega, by omega, fun b hb => ?_⟩
  have hrd' := fun i hi => rd_sub (Sub.put hb ⟨zc [.int .i64 0] xs.length, true⟩) (hrd i hi)
  simp (maxSteps := 300000) (disch := omega) only [gs, gs2, gs3, gs4, ↓reduceIte, Nat.reduceEqDiff, Int.reduceToNat, Nat.reduceMul, Nat.reduceAdd, Nat.reduceBEq, isLd]
  refine gLoop_intro (fun m T G' => ∃ k : Nat, T 0 = .slice A xs.length c ∧ T 3 = .slice (some ⟨b, 0, none⟩) xs.length xs.length ∧ T 4 = .int .i64 k ∧ m + k = xs.length ∧ k ≤ xs.length ∧
    G' = put G b ⟨(xs.take k).map I64 ++ List.replicate (xs.length - k) (I64 0), true⟩) xs.length ⟨0, by simp (maxSteps := 300000) (disch := omega) only [gs, gs2, gs3, gs4, ↓reduceIte, Nat.reduceEqDiff, Int.reduceToNat, Nat.reduceMul, Nat.reduceAdd, Nat.reduceBEq, isLd], by simp (maxSteps := 300000) (disch := omega) only [gs, gs2, gs3, gs4, ↓reduceIte, Nat.reduceEqDiff, Int.reduceToNat, Nat.reduceMul, Nat.reduceAdd, Nat.reduceBEq, isLd], by simp (maxSteps := 300000) (disch := omega) only [gs, gs2, gs3, gs4, ↓reduceIte, Nat.reduceEqDiff, Int.reduceToNat, Nat.reduceMul, Nat.reduceAdd, Nat.reduceBEq, isLd] <;> rfl, by omega, by omega, by simp [zc_one, I64]⟩ ?_
  rintro m T G' ⟨k, h0, h3, h4, hm, hkl, rfl⟩
  have hrd' := fun i hi => rd_sub (Sub.put hb ⟨(xs.take k).map I64 ++ List.replicate (xs.length - k) (I64 0), true⟩) (hrd i hi)
  simp (maxSteps := 300000) (disch := omega) only [gs, gs2, gs3, gs4, ↓reduceIte, Nat.reduceEqDiff, Int.reduceToNat, Nat.reduceMul, Nat.reduceAdd, Nat.reduceBEq, isLd, h0, h3, h4]
  by_cases hlt : (k : Int) < xs.length
  · simp (maxSteps := 300000) (disch := omega) only [gs, gs2, gs3, gs4, ↓reduceIte, Nat.reduceEqDiff, Int.reduceToNat, Nat.reduceMul, Nat.reduceAdd, Nat.reduceBEq, isLd, h0, h3, h4, hlt, hrd']

    refine st_one (put_same _ _ _) (by simp; omega) rfl ?_
    simp (maxSteps := 300000) (disch := omega) only [gs, gs2, gs3, gs4, ↓reduceIte, Nat.reduceEqDiff, Int.reduceToNat, Nat.reduceMul, Nat.reduceAdd, Nat.reduceBEq, isLd, h0, h3, h4, put_put]
    refine ⟨m - 1, by omega, _, Sub.refl _, k + 1, rfl, by omega, by omega, ?_⟩
    rw [show Value.int IntKind.i64 (xs.getD k 0) = I64 (xs.getD k 0) from rfl, fill_set I64 (I64 0) 0 xs k (by omega)]
  · simp (maxSteps := 300000) (disch := omega) only [gs, gs2, gs3, gs4, ↓reduceIte, Nat.reduceEqDiff, Int.reduceToNat, Nat.reduceMul, Nat.reduceAdd, Nat.reduceBEq, isLd, h0, h3, h4, hlt]
    have := hk b hb
    rw [show k = xs.length by omega]
    simpa using this
theorem list_eq_iff {xs ys : List Int} (h : xs.length = ys.length) : xs = ys ↔ ∀ i, i < xs.length → xs.getD i 0 = ys.getD i 0 := by
  constructor
  · rintro rfl i _; rfl
  · intro k
    apply List.ext_getElem h
    intro i h1 h2
    have := k i h1
    simpa [List.getD, h1, h2] using this
theorem laws_eqInt64S_ok {G : GH} {A B : Option Addr} {c d : Nat} {xs ys : List Int} (h : IntS G A c xs) (h' : IntS G B d ys) (hl : xs.length < 2 ^ 40) {K : Value → GH → Prop}
    (hk : K (.bool (decide (xs = ys))) G) : GC Try.prog 31 [.slice A xs.length c, .slice B ys.length d] G K := by
  refine c_laws_eqInt64S_i (by simp) ?_
  have hsn := h.sn
  have hrd := h.rd
  have hsn' := h'.sn
  have hrd' := h'.rd
  simp (maxSteps := 300000) (disch := omega) only [gs, gs2, gs3, gs4, ↓reduceIte, Nat.reduceEqDiff, Int.reduceToNat, Nat.reduceMul, Nat.reduceAdd, Nat.reduceBEq, isLd]
  by_cases hne : xs.length = ys.length
  · simp (maxSteps := 300000) (disch := omega) only [gs, gs2, gs3, gs4, ↓reduceIte, Nat.reduceEqDiff, Int.reduceToNat, Nat.reduceMul, Nat.reduceAdd, Nat.reduceBEq, isLd, show ((xs.length : Int) = ys.length) = True by simp [hne], not_true]
    refine gLoop_intro (fun m T G' => ∃ k : Nat, T 0 = .slice A xs.length c ∧ T 1 = .slice B ys.length d ∧ T 5 = .int .i64 k ∧ m + k = xs.length ∧ k ≤ xs.length ∧ G' = G ∧ ∀ i, i < k → xs.getD i 0 = ys.getD i 0) xs.length
      ⟨0, by simp (maxSteps := 300000) (disch := omega) only [gs, gs2, gs3, gs4, ↓reduceIte, Nat.reduceEqDiff, Int.reduceToNat, Nat.reduceMul, Nat.reduceAdd, Nat.reduceBEq, isLd], by simp (maxSteps := 300000) (disch := omega) only [gs, gs2, gs3, gs4, ↓reduceIte, Nat.reduceEqDiff, Int.reduceToNat, Nat.reduceMul, Nat.reduceAdd, Nat.reduceBEq, isLd], by simp (maxSteps := 300000) (disch := omega) only [gs, gs2, gs3, gs4, ↓reduceIte, Nat.reduceEqDiff, Int.reduceToNat, Nat.reduceMul, Nat.reduceAdd, Nat.reduceBEq, isLd] <;> rfl, by omega, by omega, rfl, fun i hi => by omega⟩ ?_
    rintro m T G' ⟨k, h0, h1, h5, hm, hkl, rfl, hinv⟩
    simp (maxSteps := 300000) (disch := omega) only [gs, gs2, gs3, gs4, ↓reduceIte, Nat.reduceEqDiff, Int.reduceToNat, Nat.reduceMul, Nat.reduceAdd, Nat.reduceBEq, isLd, h0, h1, h5]
    by_cases hlt : (k : Int) < xs.length
    · simp (maxSteps := 300000) (disch := omega) only [gs, gs2, gs3, gs4, ↓reduceIte, Nat.reduceEqDiff, Int.reduceToNat, Nat.reduceMul, Nat.reduceAdd, Nat.reduceBEq, isLd, h0, h1, h5, hlt, hrd, hrd']
      by_cases hkk : xs.getD k 0 = ys.getD k 0
      · simp (maxSteps := 300000) (disch := omega) only [gs, gs2, gs3, gs4, ↓reduceIte, Nat.reduceEqDiff, Int.reduceToNat, Nat.reduceMul, Nat.reduceAdd, Nat.reduceBEq, isLd, hkk, h0, h1, h5, not_true]
        refine ⟨m - 1, by omega, _, Sub.refl _, k + 1, rfl, by omega, by omega, rfl, fun i hi => ?_⟩
        by_cases hik : i = k
        · subst hik; exact hkk
        · exact hinv i (by omega)
      · simp (maxSteps := 300000) (disch := omega) only [gs, gs2, gs3, gs4, ↓reduceIte, Nat.reduceEqDiff, Int.reduceToNat, Nat.reduceMul, Nat.reduceAdd, Nat.reduceBEq, isLd, hkk, not_false_eq_true]
        have : ¬ xs = ys := by rintro rfl; exact hkk rfl
        simpa [this] using hk
    · simp (maxSteps := 300000) (disch := omega) only [gs, gs2, gs3, gs4, ↓reduceIte, Nat.reduceEqDiff, Int.reduceToNat, Nat.reduceMul, Nat.reduceAdd, Nat.reduceBEq, isLd, h0, h1, h5, hlt]
      have : xs = ys := (list_eq_iff hne).2 fun i hi => hinv i (by omega)
      simpa [this] using hk
  · simp (maxSteps := 300000) (disch := omega) only [gs, gs2, gs3, gs4, ↓reduceIte, Nat.reduceEqDiff, Int.reduceToNat, Nat.reduceMul, Nat.reduceAdd, Nat.reduceBEq, isLd, show ((xs.length : Int) = ys.length) = False by simp; omega, not_false_eq_true]
    have : ¬ xs = ys := by rintro rfl; exact hne rfl
    simpa [this] using hk
/-- the place of the first element that meets p, or -1. -/
def idxI (p : Int → Bool) (xs : List Int) : Int := match xs.findIdx? p with | some i => i | none => -1
theorem idxI_none {p : Int → Bool} {xs : List Int} (h : ∀ i, i < xs.length → p (xs.getD i 0) = false) : idxI p xs = -1 := by
  have : xs.findIdx? p = none := by
    rw [List.findIdx?_eq_none_iff]
    intro x hx
    obtain ⟨i, hi, rfl⟩ := List.getElem_of_mem hx
    simpa [List.getD, hi] using h i hi
  simp [idxI, this]
theorem idxI_some {p : Int → Bool} {xs : List Int} {k : Nat} (hk : k < xs.length) (hp : p (xs.getD k 0) = true) (h : ∀ i, i < k → p (xs.getD i 0) = false) : idxI p xs = k := by
  have : xs.findIdx? p = some k := by
    rw [List.findIdx?_eq_some_iff_getElem]
    refine ⟨hk, by simpa [List.getD, hk] using hp, fun j hj => ?_⟩
    have := h j hj
    simpa [List.getD, show j < xs.length by omega] using this
  simp [idxI, this]
theorem slices_IndexFunc_ok {G : GH} {A : Option Addr} {c : Nat} {xs : List Int} {f : Value} (p : Int → Bool) (h : IntS G A c xs) (hl : xs.length < 2 ^ 40)
    (hf : ∀ i, i < xs.length → ∀ K : Value → GH → Prop, K (.bool (p (xs.getD i 0))) G → gCl Try.prog f [.int .i64 (xs.getD i 0)] G K) {K : Value → GH → Prop}
    (hk : K (.int .i64 (idxI p xs)) G) : GC Try.prog 222 [.slice A xs.length c, f] G K := by
  refine c_slices_IndexFunc_int64_int64_i (by simp) ?_
  have hsn := h.sn
  have hrd := h.rd
  simp (maxSteps := 300000) (disch := omega) only [gs, gs2, gs3, gs4, ↓reduceIte, Nat.reduceEqDiff, Int.reduceToNat, Nat.reduceMul, Nat.reduceAdd, Nat.reduceBEq, isLd]
  refine gLoop_intro (fun m T G' => ∃ k : Nat, T 0 = .slice A xs.length c ∧ T 1 = f ∧ T 7 = .int .i64 xs.length ∧ T 8 = .int .i64 k ∧ m + k = xs.length ∧ k ≤ xs.length ∧ G' = G ∧ ∀ i, i < k → p (xs.getD i 0) = false) xs.length
    ⟨0, by simp (maxSteps := 300000) (disch := omega) only [gs, gs2, gs3, gs4, ↓reduceIte, Nat.reduceEqDiff, Int.reduceToNat, Nat.reduceMul, Nat.reduceAdd, Nat.reduceBEq, isLd], by simp (maxSteps := 300000) (disch := omega) only [gs, gs2, gs3, gs4, ↓reduceIte, Nat.reduceEqDiff, Int.reduceToNat, Nat.reduceMul, Nat.reduceAdd, Nat.reduceBEq, isLd], by simp (maxSteps := 300000) (disch := omega) only [gs, gs2, gs3, gs4, ↓reduceIte, Nat.reduceEqDiff, Int.reduceToNat, Nat.reduceMul, Nat.reduceAdd, Nat.reduceBEq, isLd], by simp (maxSteps := 300000) (disch := omega) only [gs, gs2, gs3, gs4, ↓reduceIte, Nat.reduceEqDiff, Int.reduceToNat, Nat.reduceMul, Nat.reduceAdd, Nat.reduceBEq, isLd] <;> rfl, by omega, by omega, rfl, fun i hi => by omega⟩ ?_
  rintro m T G' ⟨k, h0, h1, h7, h8, hm, hkl, rfl, hinv⟩
  simp (maxSteps := 300000) (disch := omega) only [gs, gs2, gs3, gs4, ↓reduceIte, Nat.reduceEqDiff, Int.reduceToNat, Nat.reduceMul, Nat.reduceAdd, Nat.reduceBEq, isLd, h0, h1, h7, h8]
  by_cases hlt : (k : Int) < xs.length
  · simp (maxSteps := 300000) (disch := omega) only [gs, gs2, gs3, gs4, ↓reduceIte, Nat.reduceEqDiff, Int.reduceToNat, Nat.reduceMul, Nat.reduceAdd, Nat.reduceBEq, isLd, h0, h1, h7, h8, hlt, hrd]
    refine hf k (by omega) _ ?_
    simp (maxSteps := 300000) (disch := omega) only [gs, gs2, gs3, gs4, ↓reduceIte, Nat.reduceEqDiff, Int.reduceToNat, Nat.reduceMul, Nat.reduceAdd, Nat.reduceBEq, isLd, h0, h1, h7, h8]
    cases hp : p (xs.getD k 0)
    · simp (maxSteps := 300000) (disch := omega) only [gs, gs2, gs3, gs4, ↓reduceIte, Nat.reduceEqDiff, Int.reduceToNat, Nat.reduceMul, Nat.reduceAdd, Nat.reduceBEq, isLd, h0, h1, h7, h8]
      refine ⟨m - 1, by omega, _, Sub.refl _, k + 1, rfl, by omega, by omega, rfl, fun i hi => ?_⟩
      by_cases hik : i = k
      · subst hik; exact hp
      · exact hinv i (by omega)
    · simp (maxSteps := 300000) (disch := omega) only [gs, gs2, gs3, gs4, ↓reduceIte, Nat.reduceEqDiff, Int.reduceToNat, Nat.reduceMul, Nat.reduceAdd, Nat.reduceBEq, isLd, h0, h1, h7, h8]
      rw [idxI_some (by omega) hp hinv] at hk; exact hk
  · simp (maxSteps := 300000) (disch := omega) only [gs, gs2, gs3, gs4, ↓reduceIte, Nat.reduceEqDiff, Int.reduceToNat, Nat.reduceMul, Nat.reduceAdd, Nat.reduceBEq, isLd, h0, h1, h7, h8, hlt]
    rw [idxI_none (fun i hi => hinv i (by omega))] at hk; exact hk
theorem slices_ContainsFunc_ok {G : GH} {A : Option Addr} {c : Nat} {xs : List Int} {f : Value} (p : Int → Bool) (h : IntS G A c xs) (hl : xs.length < 2 ^ 40)
    (hf : ∀ i, i < xs.length → ∀ K : Value → GH → Prop, K (.bool (p (xs.getD i 0))) G → gCl Try.prog f [.int .i64 (xs.getD i 0)] G K) {K : Value → GH → Prop}
    (hk : K (.bool (xs.any p)) G) : GC Try.prog 152 [.slice A xs.length c, f] G K := by
  refine c_slices_ContainsFunc_int64_int64_i (by simp) ?_
  simp (maxSteps := 300000) (disch := omega) only [gs, gs2, gs3, gs4, ↓reduceIte, Nat.reduceEqDiff, Int.reduceToNat, Nat.reduceMul, Nat.reduceAdd, Nat.reduceBEq, isLd]
  refine slices_IndexFunc_ok p h hl hf ?_
  simp (maxSteps := 300000) (disch := omega) only [gs, gs2, gs3, gs4, ↓reduceIte, Nat.reduceEqDiff, Int.reduceToNat, Nat.reduceMul, Nat.reduceAdd, Nat.reduceBEq, isLd]
  have : decide (0 ≤ idxI p xs) = xs.any p := by
    unfold idxI
    cases hi : xs.findIdx? p with
    | none =>
      rw [List.findIdx?_eq_none_iff] at hi
      have : xs.any p = false := by rw [List.any_eq_false]; intro x hx; simp [hi x hx]
      simp [this]
    | some i =>
      rw [List.findIdx?_eq_some_iff_getElem] at hi
      obtain ⟨h1, h2, _⟩ := hi
      have : xs.any p = true := List.any_eq_true.2 ⟨xs[i], List.getElem_mem h1, h2⟩
      simp [this]
  rw [this]; exact hk
theorem spec_l00In_ok (a b c : Int) {G : GH} {K : Value → GH → Prop} (hk : K (.bool (decide (b ≤ a ∧ a ≤ c))) G) : GC Try.prog 121 [.int .i64 a, .int .i64 b, .int .i64 c] G K := by
  refine c_spec_l00In_i (by simp) ?_
  simp (maxSteps := 300000) (disch := omega) only [gs, gs2, gs3, gs4, ↓reduceIte, Nat.reduceEqDiff, Int.reduceToNat, Nat.reduceMul, Nat.reduceAdd, Nat.reduceBEq, isLd]
  by_cases h1 : b ≤ a
  · simp (maxSteps := 300000) (disch := omega) only [gs, gs2, gs3, gs4, ↓reduceIte, Nat.reduceEqDiff, Int.reduceToNat, Nat.reduceMul, Nat.reduceAdd, Nat.reduceBEq, isLd, h1]
    simpa [h1] using hk
  · simp (maxSteps := 300000) (disch := omega) only [gs, gs2, gs3, gs4, ↓reduceIte, Nat.reduceEqDiff, Int.reduceToNat, Nat.reduceMul, Nat.reduceAdd, Nat.reduceBEq, isLd, h1]
    simpa [h1] using hk
theorem impl_within_ok (a b c : Int) {G : GH} {K : Value → GH → Prop} (hk : K (.bool (decide (b ≤ a ∧ a ≤ c))) G) : GC Try.prog 122 [.int .i64 a, .int .i64 b, .int .i64 c] G K := by
  refine c_impl_within_i (by simp) ?_
  simp (maxSteps := 300000) (disch := omega) only [gs, gs2, gs3, gs4, ↓reduceIte, Nat.reduceEqDiff, Int.reduceToNat, Nat.reduceMul, Nat.reduceAdd, Nat.reduceBEq, isLd]
  by_cases h1 : b ≤ a
  · simp (maxSteps := 300000) (disch := omega) only [gs, gs2, gs3, gs4, ↓reduceIte, Nat.reduceEqDiff, Int.reduceToNat, Nat.reduceMul, Nat.reduceAdd, Nat.reduceBEq, isLd, h1]
    simpa [h1] using hk
  · simp (maxSteps := 300000) (disch := omega) only [gs, gs2, gs3, gs4, ↓reduceIte, Nat.reduceEqDiff, Int.reduceToNat, Nat.reduceMul, Nat.reduceAdd, Nat.reduceBEq, isLd, h1]
    simpa [h1] using hk
theorem laws_szEdgeS_ok {G : GH} {A : Option Addr} {n c : Nat} {left : Int} (h0 : -1 ≤ left ∧ left ≤ 2 ^ 20) (hn : n ≤ 2 ^ 63 - 1) {K : Value → GH → Prop} (hk : ∀ l : Int, -1 ≤ l → l ≤ 2 ^ 20 → (0 ≤ l → l + n ≤ left) → K (.int .i64 l) G) :
    GC Try.prog 99 [.slice A n c, .int .i64 left] G K := by
  refine c_laws_szEdgeS_i (by simp) ?_
  simp (maxSteps := 300000) (disch := omega) only [gs, gs2, gs3, gs4, ↓reduceIte, Nat.reduceEqDiff, Int.reduceToNat, Nat.reduceMul, Nat.reduceAdd, Nat.reduceBEq, isLd]
  by_cases h : left - (n : Int) < 0
  · simp (maxSteps := 300000) (disch := omega) only [gs, gs2, gs3, gs4, ↓reduceIte, Nat.reduceEqDiff, Int.reduceToNat, Nat.reduceMul, Nat.reduceAdd, Nat.reduceBEq, isLd, h]; exact hk _ (by omega) (by omega) (by omega)
  · simp (maxSteps := 300000) (disch := omega) only [gs, gs2, gs3, gs4, ↓reduceIte, Nat.reduceEqDiff, Int.reduceToNat, Nat.reduceMul, Nat.reduceAdd, Nat.reduceBEq, isLd, h]; exact hk _ (by omega) (by omega) (by omega)
theorem laws_toEdge_ok {G : GH} (e : T3) {K : Value → GH → Prop} (hk : K (V3 e) G) : GC Try.prog 200 [V3 e] G K := by
  refine GC_drop (c_laws_toEdge_i (by simp) ?_)
  unfold V3 c3
  simp (maxSteps := 300000) (disch := omega) only [gs, gs2, gs3, gs4, ↓reduceIte, Nat.reduceEqDiff, Int.reduceToNat, Nat.reduceMul, Nat.reduceAdd, Nat.reduceBEq, isLd]
  intro b1 hb1
  simp (maxSteps := 300000) (disch := omega) only [gs, gs2, gs3, gs4, ↓reduceIte, Nat.reduceEqDiff, Int.reduceToNat, Nat.reduceMul, Nat.reduceAdd, Nat.reduceBEq, isLd]
  intro b2 hb2
  simp (maxSteps := 300000) (disch := omega) only [gs, gs2, gs3, gs4, ↓reduceIte, Nat.reduceEqDiff, Int.reduceToNat, Nat.reduceMul, Nat.reduceAdd, Nat.reduceBEq, isLd]
  intro b3 hb3
  simp only [put_none] at hb2 hb3
  obtain ⟨n12, f2⟩ := hb2
  obtain ⟨n23, n13, f3⟩ := hb3
  simp (maxSteps := 300000) (disch := omega) only [gs, gs2, gs3, gs4, ↓reduceIte, Nat.reduceEqDiff, Int.reduceToNat, Nat.reduceMul, Nat.reduceAdd, Nat.reduceBEq, isLd]
  refine st_one (put_same _ _ _) (by simp) rfl ?_
  simp (maxSteps := 300000) (disch := omega) only [gs, gs2, gs3, gs4, ↓reduceIte, Nat.reduceEqDiff, Int.reduceToNat, Nat.reduceMul, Nat.reduceAdd, Nat.reduceBEq, isLd]
  refine st_one (put_same _ _ _) (by simp) rfl ?_
  simp (maxSteps := 300000) (disch := omega) only [gs, gs2, gs3, gs4, ↓reduceIte, Nat.reduceEqDiff, Int.reduceToNat, Nat.reduceMul, Nat.reduceAdd, Nat.reduceBEq, isLd]
  refine st_one (put_same _ _ _) (by simp) rfl ?_
  simp (maxSteps := 300000) (disch := omega) only [gs, gs2, gs3, gs4, ↓reduceIte, Nat.reduceEqDiff, Int.reduceToNat, Nat.reduceMul, Nat.reduceAdd, Nat.reduceBEq, isLd]
  refine st_many rfl (by rw [put_ne _ _ n23.symm]; exact put_same _ _ _) rfl (by simp) (c3_one e) ?_
  simp (maxSteps := 300000) (disch := omega) only [gs, gs2, gs3, gs4, ↓reduceIte, Nat.reduceEqDiff, Int.reduceToNat, Nat.reduceMul, Nat.reduceAdd, Nat.reduceBEq, isLd, over]
  exact ⟨G, (((Sub.refl G).skip hb1).skip f2 |>.skip f3).skip f2, hk⟩
theorem laws_toEdgeS_ok {G : GH} {A : Option Addr} {c : Nat} {xs : List T3} (h : T3S G A c xs) (hl : xs.length ≤ 2 ^ 20) {K : Value → GH → Prop}
    (hk : ∀ b, G b = none → K (.slice (some ⟨b, 0, none⟩) xs.length xs.length) (put G b ⟨flat3 xs, true⟩)) : GC Try.prog 101 [.slice A xs.length c] G K := by
  refine c_laws_toEdgeS_i (by simp) ?_
  have hsn := h.sn
  simp (maxSteps := 300000) (disch := omega) only [gs, gs2, gs3, gs4, ↓reduceIte, Nat.reduceEqDiff, Int.reduceToNat, Nat.reduceMul, Nat.reduceAdd, Nat.reduceBEq, isLd]
  refine ⟨xs.length, xs.length, rfl, rfl, Nat.le_refl _, by omega, by omega, fun b hb => ?_⟩
  simp (maxSteps := 300000) (disch := omega) only [gs, gs2, gs3, gs4, ↓reduceIte, Nat.reduceEqDiff, Int.reduceToNat, Nat.reduceMul, Nat.reduceAdd, Nat.reduceBEq, isLd]
  refine gLoop_intro (fun m T G' => ∃ k : Nat, T 0 = .slice A xs.length c ∧ T 3 = .slice (some ⟨b, 0, none⟩) xs.length xs.length ∧ T 4 = .int .i64 k ∧ m + k = xs.length ∧ k ≤ xs.length ∧
    G' = put G b ⟨flat3 (xs.take k) ++ List.replicate ((xs.length - k) * 3) (.int .i64 0), true⟩) xs.length ⟨0, by simp (maxSteps := 300000) (disch := omega) only [gs, gs2, gs3, gs4, ↓reduceIte, Nat.reduceEqDiff, Int.reduceToNat, Nat.reduceMul, Nat.reduceAdd, Nat.reduceBEq, isLd], by simp (maxSteps := 300000) (disch := omega) only [gs, gs2, gs3, gs4, ↓reduceIte, Nat.reduceEqDiff, Int.reduceToNat, Nat.reduceMul, Nat.reduceAdd, Nat.reduceBEq, isLd], by simp (maxSteps := 300000) (disch := omega) only [gs, gs2, gs3, gs4, ↓reduceIte, Nat.reduceEqDiff, Int.reduceToNat, Nat.reduceMul, Nat.reduceAdd, Nat.reduceBEq, isLd] <;> rfl, by omega, by omega, by rw [show [Value.int .i64 0, .int .i64 0, .int .i64 0] = List.replicate 3 (.int .i64 0) from rfl, zc_rep]; simp [flat3]⟩ ?_
  rintro m T G' ⟨k, h0, h3, h4, hm, hkl, rfl⟩
  have h' := h.sub (Sub.put hb ⟨flat3 (xs.take k) ++ List.replicate ((xs.length - k) * 3) (.int .i64 0), true⟩)
  have q0 := h'.r0
  have q1 := h'.r1
  have q2 := h'.r2
  simp (maxSteps := 300000) (disch := omega) only [gs, gs2, gs3, gs4, ↓reduceIte, Nat.reduceEqDiff, Int.reduceToNat, Nat.reduceMul, Nat.reduceAdd, Nat.reduceBEq, isLd, h0, h3, h4]
  by_cases hlt : (k : Int) < xs.length
  · simp (maxSteps := 300000) (disch := omega) only [gs, gs2, gs3, gs4, ↓reduceIte, Nat.reduceEqDiff, Int.reduceToNat, Nat.reduceMul, Nat.reduceAdd, Nat.reduceBEq, isLd, h0, h3, h4, hlt, q0, q1, q2]
    refine laws_toEdge_ok (xs.getD k z3) ?_
    simp (maxSteps := 300000) (disch := omega) only [gs, gs2, gs3, gs4, ↓reduceIte, Nat.reduceEqDiff, Int.reduceToNat, Nat.reduceMul, Nat.reduceAdd, Nat.reduceBEq, isLd, h0, h3, h4]
    refine st_many (vs := c3 (xs.getD k z3)) rfl (put_same _ _ _) rfl (by rw [List.length_append, flat3_len]; simp; omega) (c3_one _) ?_
    simp (maxSteps := 300000) (disch := omega) only [gs, gs2, gs3, gs4, ↓reduceIte, Nat.reduceEqDiff, Int.reduceToNat, Nat.reduceMul, Nat.reduceAdd, Nat.reduceBEq, isLd, h0, h3, h4]
    rw [fill_set3 xs k (by omega)]
    refine ⟨m - 1, by omega, _, Sub.refl _, k + 1, rfl, by omega, by omega, rfl⟩
  · simp (maxSteps := 300000) (disch := omega) only [gs, gs2, gs3, gs4, ↓reduceIte, Nat.reduceEqDiff, Int.reduceToNat, Nat.reduceMul, Nat.reduceAdd, Nat.reduceBEq, isLd, h0, h3, h4, hlt]
    have := hk b hb
    rw [show k = xs.length by omega]
    simpa using this
theorem laws_eqEdge_ok {G : GH} (e f : T3) {K : Value → GH → Prop} (hk : K (.bool (decide (e = f))) G) : GC Try.prog 203 [V3 e, V3 f] G K := by
  refine GC_drop (c_laws_eqEdge_i (by simp) ?_)
  unfold V3 c3
  simp (maxSteps := 300000) (disch := omega) only [gs, gs2, gs3, gs4, ↓reduceIte, Nat.reduceEqDiff, Int.reduceToNat, Nat.reduceMul, Nat.reduceAdd, Nat.reduceBEq, isLd]
  intro b1 hb1
  simp (maxSteps := 300000) (disch := omega) only [gs, gs2, gs3, gs4, ↓reduceIte, Nat.reduceEqDiff, Int.reduceToNat, Nat.reduceMul, Nat.reduceAdd, Nat.reduceBEq, isLd]
  intro b2 hb2
  simp only [put_none] at hb2
  obtain ⟨n12, f2⟩ := hb2
  have hs : Sub G (put (put G b1 ⟨[.int .i64 e.1, .int .i64 e.2.1, .int .i64 e.2.2], true⟩) b2 ⟨[.int .i64 f.1, .int .i64 f.2.1, .int .i64 f.2.2], true⟩) := ((Sub.refl G).skip hb1).skip f2
  have he : ∀ b, decide (e = f) = b → ∃ G'', Sub G'' (put (put G b1 ⟨[.int .i64 e.1, .int .i64 e.2.1, .int .i64 e.2.2], true⟩) b2 ⟨[.int .i64 f.1, .int .i64 f.2.1, .int .i64 f.2.2], true⟩) ∧ K (.bool b) G'' := fun b hb => ⟨G, hs, hb ▸ hk⟩
  simp (maxSteps := 300000) (disch := omega) only [gs, gs2, gs3, gs4, ↓reduceIte, Nat.reduceEqDiff, Int.reduceToNat, Nat.reduceMul, Nat.reduceAdd, Nat.reduceBEq, isLd]
  cases h1 : decide (¬ e.1 = f.1)
  · simp (maxSteps := 300000) (disch := omega) only [gs, gs2, gs3, gs4, ↓reduceIte, Nat.reduceEqDiff, Int.reduceToNat, Nat.reduceMul, Nat.reduceAdd, Nat.reduceBEq, isLd]
    cases h2 : decide (¬ e.2.1 = f.2.1)
    · simp (maxSteps := 300000) (disch := omega) only [gs, gs2, gs3, gs4, ↓reduceIte, Nat.reduceEqDiff, Int.reduceToNat, Nat.reduceMul, Nat.reduceAdd, Nat.reduceBEq, isLd]
      cases h3 : decide (¬ e.2.2 = f.2.2)
      · simp (maxSteps := 300000) (disch := omega) only [gs, gs2, gs3, gs4, ↓reduceIte, Nat.reduceEqDiff, Int.reduceToNat, Nat.reduceMul, Nat.reduceAdd, Nat.reduceBEq, isLd]
        simp at h1 h2 h3
        exact he true (by simp [Prod.ext_iff, h1, h2, h3])
      · simp (maxSteps := 300000) (disch := omega) only [gs, gs2, gs3, gs4, ↓reduceIte, Nat.reduceEqDiff, Int.reduceToNat, Nat.reduceMul, Nat.reduceAdd, Nat.reduceBEq, isLd]
        simp at h3
        exact he false (by simp [Prod.ext_iff, h3])
    · simp (maxSteps := 300000) (disch := omega) only [gs, gs2, gs3, gs4, ↓reduceIte, Nat.reduceEqDiff, Int.reduceToNat, Nat.reduceMul, Nat.reduceAdd, Nat.reduceBEq, isLd]
      simp at h2
      exact he false (by simp [Prod.ext_iff, h2])
  · simp (maxSteps := 300000) (disch := omega) only [gs, gs2, gs3, gs4, ↓reduceIte, Nat.reduceEqDiff, Int.reduceToNat, Nat.reduceMul, Nat.reduceAdd, Nat.reduceBEq, isLd]
    simp at h1
    exact he false (by simp [Prod.ext_iff, h1])
theorem laws_eqEdgeS_ok {G : GH} {A B : Option Addr} {c d : Nat} {xs ys : List T3} (h : T3S G A c xs) (h' : T3S G B d ys) (hl : xs.length < 2 ^ 40) {K : Value → GH → Prop}
    (hk : K (.bool (decide (xs = ys))) G) : GC Try.prog 105 [.slice A xs.length c, .slice B ys.length d] G K := by
  refine c_laws_eqEdgeS_i (by simp) ?_
  have hsn := h.sn
  have hsn' := h'.sn
  have p0 := h.r0
  have p1 := h.r1
  have p2 := h.r2
  have q0 := h'.r0
  have q1 := h'.r1
  have q2 := h'.r2
  simp (maxSteps := 300000) (disch := omega) only [gs, gs2, gs3, gs4, ↓reduceIte, Nat.reduceEqDiff, Int.reduceToNat, Nat.reduceMul, Nat.reduceAdd, Nat.reduceBEq, isLd]
  by_cases hne : xs.length = ys.length
  · simp (maxSteps := 300000) (disch := omega) only [gs, gs2, gs3, gs4, ↓reduceIte, Nat.reduceEqDiff, Int.reduceToNat, Nat.reduceMul, Nat.reduceAdd, Nat.reduceBEq, isLd, show ((xs.length : Int) = ys.length) = True by simp [hne]]
    refine gLoop_intro (fun m T G' => ∃ k : Nat, T 0 = .slice A xs.length c ∧ T 1 = .slice B ys.length d ∧ T 5 = .int .i64 k ∧ m + k = xs.length ∧ k ≤ xs.length ∧ G' = G ∧ ∀ i, i < k → xs.getD i z3 = ys.getD i z3) xs.length
      ⟨0, by simp (maxSteps := 300000) (disch := omega) only [gs, gs2, gs3, gs4, ↓reduceIte, Nat.reduceEqDiff, Int.reduceToNat, Nat.reduceMul, Nat.reduceAdd, Nat.reduceBEq, isLd], by simp (maxSteps := 300000) (disch := omega) only [gs, gs2, gs3, gs4, ↓reduceIte, Nat.reduceEqDiff, Int.reduceToNat, Nat.reduceMul, Nat.reduceAdd, Nat.reduceBEq, isLd], by simp (maxSteps := 300000) (disch := omega) only [gs, gs2, gs3, gs4, ↓reduceIte, Nat.reduceEqDiff, Int.reduceToNat, Nat.reduceMul, Nat.reduceAdd, Nat.reduceBEq, isLd] <;> rfl, by omega, by omega, rfl, fun i hi => by omega⟩ ?_
    rintro m T G' ⟨k, h0, h1, h5, hm, hkl, rfl, hinv⟩
    simp (maxSteps := 300000) (disch := omega) only [gs, gs2, gs3, gs4, ↓reduceIte, Nat.reduceEqDiff, Int.reduceToNat, Nat.reduceMul, Nat.reduceAdd, Nat.reduceBEq, isLd, h0, h1, h5]
    by_cases hlt : (k : Int) < xs.length
    · simp (maxSteps := 300000) (disch := omega) only [gs, gs2, gs3, gs4, ↓reduceIte, Nat.reduceEqDiff, Int.reduceToNat, Nat.reduceMul, Nat.reduceAdd, Nat.reduceBEq, isLd, h0, h1, h5, hlt, p0, p1, p2, q0, q1, q2]
      refine laws_eqEdge_ok (xs.getD k z3) (ys.getD k z3) ?_
      simp (maxSteps := 300000) (disch := omega) only [gs, gs2, gs3, gs4, ↓reduceIte, Nat.reduceEqDiff, Int.reduceToNat, Nat.reduceMul, Nat.reduceAdd, Nat.reduceBEq, isLd, h0, h1, h5]
      cases hkk : decide (xs.getD k z3 = ys.getD k z3)
      · have hkk : ¬ xs.getD k z3 = ys.getD k z3 := of_decide_eq_false hkk
        simp (maxSteps := 300000) (disch := omega) only [gs, gs2, gs3, gs4, ↓reduceIte, Nat.reduceEqDiff, Int.reduceToNat, Nat.reduceMul, Nat.reduceAdd, Nat.reduceBEq, isLd]
        have : ¬ xs = ys := by rintro rfl; exact hkk rfl
        simpa [this] using hk
      · have hkk : xs.getD k z3 = ys.getD k z3 := of_decide_eq_true hkk
        simp (maxSteps := 300000) (disch := omega) only [gs, gs2, gs3, gs4, ↓reduceIte, Nat.reduceEqDiff, Int.reduceToNat, Nat.reduceMul, Nat.reduceAdd, Nat.reduceBEq, isLd, h0, h1, h5]
        refine ⟨m - 1, by omega, _, Sub.refl _, k + 1, rfl, by omega, by omega, rfl, fun i hi => ?_⟩
        by_cases hik : i = k
        · subst hik; exact hkk
        · exact hinv i (by omega)
    · simp (maxSteps := 300000) (disch := omega) only [gs, gs2, gs3, gs4, ↓reduceIte, Nat.reduceEqDiff, Int.reduceToNat, Nat.reduceMul, Nat.reduceAdd, Nat.reduceBEq, isLd, h0, h1, h5, hlt]
      have : xs = ys := (t3_eq_iff hne).2 fun i hi => hinv i (by omega)
      simpa [this] using hk
  · simp (maxSteps := 300000) (disch := omega) only [gs, gs2, gs3, gs4, ↓reduceIte, Nat.reduceEqDiff, Int.reduceToNat, Nat.reduceMul, Nat.reduceAdd, Nat.reduceBEq, isLd, show ((xs.length : Int) = ys.length) = False by simp; omega]
    have : ¬ xs = ys := by rintro rfl; exact hne rfl
    simpa [this] using hk
theorem laws_szGraph_ok {G : GH} {N : Gra} {A : Option Addr} {c : Nat} {left : Int} (h0 : -1 ≤ left ∧ left ≤ 2 ^ 20) (hn : N.edges.length ≤ 2 ^ 63 - 1) {K : Value → GH → Prop} (hk : ∀ l : Int, -1 ≤ l → l ≤ 2 ^ 20 → (0 ≤ l → l + N.edges.length ≤ left) → K (.int .i64 l) G) :
    GC Try.prog 26 [graV N A c, .int .i64 left] G K := by
  refine GC_drop (c_laws_szGraph_i (by simp) ?_)
  unfold graV graC
  simp (maxSteps := 300000) (disch := omega) only [gs, gs2, gs3, gs4, ↓reduceIte, Nat.reduceEqDiff, Int.reduceToNat, Nat.reduceMul, Nat.reduceAdd, Nat.reduceBEq, isLd]
  intro b1 hb1
  simp (maxSteps := 300000) (disch := omega) only [gs, gs2, gs3, gs4, ↓reduceIte, Nat.reduceEqDiff, Int.reduceToNat, Nat.reduceMul, Nat.reduceAdd, Nat.reduceBEq, isLd]
  refine laws_szEdgeS_ok h0 hn fun l hl1 hl2 hl3 => ?_
  simp (maxSteps := 300000) (disch := omega) only [gs, gs2, gs3, gs4, ↓reduceIte, Nat.reduceEqDiff, Int.reduceToNat, Nat.reduceMul, Nat.reduceAdd, Nat.reduceBEq, isLd]
  by_cases h : l < 0
  · simp (maxSteps := 300000) (disch := omega) only [gs, gs2, gs3, gs4, ↓reduceIte, Nat.reduceEqDiff, Int.reduceToNat, Nat.reduceMul, Nat.reduceAdd, Nat.reduceBEq, isLd, h]; exact ⟨G, Sub.put hb1 _, hk _ (by omega) (by omega) (by omega)⟩
  · simp (maxSteps := 300000) (disch := omega) only [gs, gs2, gs3, gs4, ↓reduceIte, Nat.reduceEqDiff, Int.reduceToNat, Nat.reduceMul, Nat.reduceAdd, Nat.reduceBEq, isLd, h]; exact ⟨G, Sub.put hb1 _, hk _ (by omega) (by omega) (by omega)⟩
theorem laws_toGraph_ok {G : GH} {N : Gra} {A : Option Addr} {c : Nat} (h : T3S G A c N.edges) (hl : N.edges.length ≤ 2 ^ 20) {K : Value → GH → Prop}
    (hk : ∀ b, G b = none → K (graV N (some ⟨b, 0, none⟩) N.edges.length) (put G b ⟨flat3 N.edges, true⟩)) : GC Try.prog 28 [graV N A c] G K := by
  refine GC_drop (c_laws_toGraph_i (by simp) ?_)
  unfold graV graC
  simp (maxSteps := 300000) (disch := omega) only [gs, gs2, gs3, gs4, ↓reduceIte, Nat.reduceEqDiff, Int.reduceToNat, Nat.reduceMul, Nat.reduceAdd, Nat.reduceBEq, isLd]
  intro b1 hb1
  simp (maxSteps := 300000) (disch := omega) only [gs, gs2, gs3, gs4, ↓reduceIte, Nat.reduceEqDiff, Int.reduceToNat, Nat.reduceMul, Nat.reduceAdd, Nat.reduceBEq, isLd]
  intro b2 hb2
  simp (maxSteps := 300000) (disch := omega) only [gs, gs2, gs3, gs4, ↓reduceIte, Nat.reduceEqDiff, Int.reduceToNat, Nat.reduceMul, Nat.reduceAdd, Nat.reduceBEq, isLd]
  intro b3 hb3
  simp only [put_none] at hb2 hb3
  obtain ⟨n12, f2⟩ := hb2
  obtain ⟨n23, n13, f3⟩ := hb3
  simp (maxSteps := 300000) (disch := omega) only [gs, gs2, gs3, gs4, ↓reduceIte, Nat.reduceEqDiff, Int.reduceToNat, Nat.reduceMul, Nat.reduceAdd, Nat.reduceBEq, isLd]
  refine st_one (put_same _ _ _) (by simp) rfl ?_
  simp (maxSteps := 300000) (disch := omega) only [gs, gs2, gs3, gs4, ↓reduceIte, Nat.reduceEqDiff, Int.reduceToNat, Nat.reduceMul, Nat.reduceAdd, Nat.reduceBEq, isLd]
  refine laws_toEdgeS_ok (h.sub ((((Sub.refl G).skip hb1).skip f2).skip f3)) hl fun b4 hb4 => ?_
  simp only [put_none] at hb4
  obtain ⟨n34, n24, n14, f4⟩ := hb4
  simp (maxSteps := 300000) (disch := omega) only [gs, gs2, gs3, gs4, ↓reduceIte, Nat.reduceEqDiff, Int.reduceToNat, Nat.reduceMul, Nat.reduceAdd, Nat.reduceBEq, isLd]
  refine st_one (by rw [put_ne _ _ (by omega)]; exact put_same _ _ _) (by simp) rfl ?_
  simp (maxSteps := 300000) (disch := omega) only [gs, gs2, gs3, gs4, ↓reduceIte, Nat.reduceEqDiff, Int.reduceToNat, Nat.reduceMul, Nat.reduceAdd, Nat.reduceBEq, isLd]
  refine st_many (vs := graC N (some ⟨b4, 0, none⟩) N.edges.length) rfl (by rw [put_ne _ _ (by omega), put_ne _ _ (by omega), put_ne _ _ (by omega)]; exact put_same _ _ _) rfl (by simp) (by intro v hv; simp [graC] at hv; rcases hv with rfl | rfl <;> rfl) ?_
  simp (maxSteps := 300000) (disch := omega) only [gs, gs2, gs3, gs4, ↓reduceIte, Nat.reduceEqDiff, Int.reduceToNat, Nat.reduceMul, Nat.reduceAdd, Nat.reduceBEq, isLd, over, graC]
  refine ⟨_, ?_, hk b4 f4⟩
  refine Sub.skip (Sub.skip (Sub.both ((((Sub.refl G).skip hb1).skip f2).skip f3)) ?_) ?_
  · rw [put_none]; exact ⟨by omega, f3⟩
  · rw [put_none]; exact ⟨by omega, f2⟩
theorem laws_eqGraph_ok {G : GH} {N M : Gra} {A B : Option Addr} {c d : Nat} (h : T3S G A c N.edges) (h' : T3S G B d M.edges) (hl : N.edges.length < 2 ^ 40) {K : Value → GH → Prop}
    (hk : ∀ b : Bool, (b = true ↔ N = M) → K (.bool b) G) : GC Try.prog 32 [graV N A c, graV M B d] G K := by
  refine GC_drop (c_laws_eqGraph_i (by simp) ?_)
  unfold graV graC
  simp (maxSteps := 300000) (disch := omega) only [gs, gs2, gs3, gs4, ↓reduceIte, Nat.reduceEqDiff, Int.reduceToNat, Nat.reduceMul, Nat.reduceAdd, Nat.reduceBEq, isLd]
  intro b1 hb1
  simp (maxSteps := 300000) (disch := omega) only [gs, gs2, gs3, gs4, ↓reduceIte, Nat.reduceEqDiff, Int.reduceToNat, Nat.reduceMul, Nat.reduceAdd, Nat.reduceBEq, isLd]
  intro b2 hb2
  simp only [put_none] at hb2
  obtain ⟨n12, f2⟩ := hb2
  have hs := ((Sub.refl G).skip hb1 (e := ⟨graC N A c, true⟩)).skip f2 (e := ⟨graC M B d, true⟩)
  unfold graC at hs
  simp (maxSteps := 300000) (disch := omega) only [gs, gs2, gs3, gs4, ↓reduceIte, Nat.reduceEqDiff, Int.reduceToNat, Nat.reduceMul, Nat.reduceAdd, Nat.reduceBEq, isLd]
  have hN : N = M ↔ N.n = M.n ∧ N.edges = M.edges := by cases N; cases M; simp
  rw [hN] at hk
  cases h1 : decide (¬ N.n = M.n)
  · simp (maxSteps := 300000) (disch := omega) only [gs, gs2, gs3, gs4, ↓reduceIte, Nat.reduceEqDiff, Int.reduceToNat, Nat.reduceMul, Nat.reduceAdd, Nat.reduceBEq, isLd]
    refine laws_eqEdgeS_ok (h.sub hs) (h'.sub hs) hl ?_
    simp (maxSteps := 300000) (disch := omega) only [gs, gs2, gs3, gs4, ↓reduceIte, Nat.reduceEqDiff, Int.reduceToNat, Nat.reduceMul, Nat.reduceAdd, Nat.reduceBEq, isLd]
    cases h4 : decide (N.edges = M.edges)
    · simp (maxSteps := 300000) (disch := omega) only [gs, gs2, gs3, gs4, ↓reduceIte, Nat.reduceEqDiff, Int.reduceToNat, Nat.reduceMul, Nat.reduceAdd, Nat.reduceBEq, isLd]
      simp at h4
      exact ⟨G, hs, hk false (by simp [h4])⟩
    · simp (maxSteps := 300000) (disch := omega) only [gs, gs2, gs3, gs4, ↓reduceIte, Nat.reduceEqDiff, Int.reduceToNat, Nat.reduceMul, Nat.reduceAdd, Nat.reduceBEq, isLd]
      simp at h1 h4
      exact ⟨G, hs, hk true (by simp [h1, h4])⟩
  · simp (maxSteps := 300000) (disch := omega) only [gs, gs2, gs3, gs4, ↓reduceIte, Nat.reduceEqDiff, Int.reduceToNat, Nat.reduceMul, Nat.reduceAdd, Nat.reduceBEq, isLd]
    simp at h1
    exact ⟨G, hs, hk false (by simp [h1])⟩
def cmp3 (a b : Int) : Int := if a < b then -1 else if b < a then 1 else 0
theorem cmp_isNaN_ok (a : Int) {G : GH} {K : Value → GH → Prop} (hk : K (.bool false) G) : GC Try.prog 248 [.int .i64 a] G K := by
  refine c_cmp_isNaN_int64_i (by simp) ?_
  simp (maxSteps := 300000) (disch := omega) only [gs, gs2, gs3, gs4, ↓reduceIte, Nat.reduceEqDiff, Int.reduceToNat, Nat.reduceMul, Nat.reduceAdd, Nat.reduceBEq, isLd]
  exact hk
theorem cmp_Compare_ok (a b : Int) {G : GH} {K : Value → GH → Prop} (hk : K (.int .i64 (cmp3 a b)) G) : GC Try.prog 218 [.int .i64 a, .int .i64 b] G K := by
  refine c_cmp_Compare_int64_i (by simp) ?_
  simp (maxSteps := 300000) (disch := omega) only [gs, gs2, gs3, gs4, ↓reduceIte, Nat.reduceEqDiff, Int.reduceToNat, Nat.reduceMul, Nat.reduceAdd, Nat.reduceBEq, isLd]
  refine cmp_isNaN_ok _ ?_
  simp (maxSteps := 300000) (disch := omega) only [gs, gs2, gs3, gs4, ↓reduceIte, Nat.reduceEqDiff, Int.reduceToNat, Nat.reduceMul, Nat.reduceAdd, Nat.reduceBEq, isLd]
  refine cmp_isNaN_ok _ ?_
  simp (maxSteps := 300000) (disch := omega) only [gs, gs2, gs3, gs4, ↓reduceIte, Nat.reduceEqDiff, Int.reduceToNat, Nat.reduceMul, Nat.reduceAdd, Nat.reduceBEq, isLd]
  unfold cmp3 at hk
  by_cases h1 : a < b
  · simp (maxSteps := 300000) (disch := omega) only [gs, gs2, gs3, gs4, ↓reduceIte, Nat.reduceEqDiff, Int.reduceToNat, Nat.reduceMul, Nat.reduceAdd, Nat.reduceBEq, isLd, h1]; rwa [if_pos h1] at hk
  · rw [if_neg h1] at hk
    simp (maxSteps := 300000) (disch := omega) only [gs, gs2, gs3, gs4, ↓reduceIte, Nat.reduceEqDiff, Int.reduceToNat, Nat.reduceMul, Nat.reduceAdd, Nat.reduceBEq, isLd, h1]
    by_cases h2 : b < a
    · simp (maxSteps := 300000) (disch := omega) only [gs, gs2, gs3, gs4, ↓reduceIte, Nat.reduceEqDiff, Int.reduceToNat, Nat.reduceMul, Nat.reduceAdd, Nat.reduceBEq, isLd, h2]; rwa [if_pos h2] at hk
    · simp (maxSteps := 300000) (disch := omega) only [gs, gs2, gs3, gs4, ↓reduceIte, Nat.reduceEqDiff, Int.reduceToNat, Nat.reduceMul, Nat.reduceAdd, Nat.reduceBEq, isLd, h2]; rwa [if_neg h2] at hk
/-- cmp.Or of two numbers. -/
theorem cmp_Or_ok (a b : Int) {G : GH} {A : Option Addr} {c : Nat} (h0 : rd G A = some (.int .i64 a)) (h1 : rd G (pa A 1) = some (.int .i64 b)) {K : Value → GH → Prop} (hk : K (.int .i64 (if a = 0 then b else a)) G) : GC Try.prog 241 [.slice A 2 c] G K := by
  refine c_cmp_Or_int_i (by simp) ?_
  have hsn := rd_some h0
  simp (maxSteps := 300000) (disch := omega) only [gs, gs2, gs3, gs4, ↓reduceIte, Nat.reduceEqDiff, Int.reduceToNat, Nat.reduceMul, Nat.reduceAdd, Nat.reduceBEq, isLd]
  refine gLoop_intro (fun m T G' => ∃ k : Nat, T 3 = .int .i64 0 ∧ T 6 = .slice A 2 c ∧ T 7 = .int .i64 2 ∧ T 8 = .int .i64 k ∧ m + k = 2 ∧ G' = G ∧ (k = 1 → a = 0) ∧ (k = 2 → a = 0 ∧ b = 0)) 2 ⟨0, by simp (maxSteps := 300000) (disch := omega) only [gs, gs2, gs3, gs4, ↓reduceIte, Nat.reduceEqDiff, Int.reduceToNat, Nat.reduceMul, Nat.reduceAdd, Nat.reduceBEq, isLd], by simp (maxSteps := 300000) (disch := omega) only [gs, gs2, gs3, gs4, ↓reduceIte, Nat.reduceEqDiff, Int.reduceToNat, Nat.reduceMul, Nat.reduceAdd, Nat.reduceBEq, isLd], by simp (maxSteps := 300000) (disch := omega) only [gs, gs2, gs3, gs4, ↓reduceIte, Nat.reduceEqDiff, Int.reduceToNat, Nat.reduceMul, Nat.reduceAdd, Nat.reduceBEq, isLd] <;> rfl, by simp (maxSteps := 300000) (disch := omega) only [gs, gs2, gs3, gs4, ↓reduceIte, Nat.reduceEqDiff, Int.reduceToNat, Nat.reduceMul, Nat.reduceAdd, Nat.reduceBEq, isLd] <;> rfl, by omega, rfl, by omega, by omega⟩ ?_
  rintro m T G' ⟨k, e3, e6, e7, e8, hm, rfl, ha, hb⟩
  simp (maxSteps := 300000) (disch := omega) only [gs, gs2, gs3, gs4, ↓reduceIte, Nat.reduceEqDiff, Int.reduceToNat, Nat.reduceMul, Nat.reduceAdd, Nat.reduceBEq, isLd, e3, e6, e7, e8]
  have hk2 : k = 0 ∨ k = 1 ∨ k = 2 := by omega
  rcases hk2 with rfl | rfl | rfl
  · simp (maxSteps := 300000) (disch := omega) only [gs, gs2, gs3, gs4, ↓reduceIte, Nat.reduceEqDiff, Int.reduceToNat, Nat.reduceMul, Nat.reduceAdd, Nat.reduceBEq, isLd, e3, e6, e7, e8, Int.natCast_zero, Int.reduceLT, Int.le_refl, h0]
    cases hz : decide (¬ a = 0)
    · simp (maxSteps := 300000) (disch := omega) only [gs, gs2, gs3, gs4, ↓reduceIte, Nat.reduceEqDiff, Int.reduceToNat, Nat.reduceMul, Nat.reduceAdd, Nat.reduceBEq, isLd, e3, e6, e7, e8]
      have hz : a = 0 := by simpa using hz
      exact ⟨m - 1, by omega, _, Sub.refl _, 1, rfl, by omega, rfl, fun _ => hz, by omega⟩
    · simp (maxSteps := 300000) (disch := omega) only [gs, gs2, gs3, gs4, ↓reduceIte, Nat.reduceEqDiff, Int.reduceToNat, Nat.reduceMul, Nat.reduceAdd, Nat.reduceBEq, isLd]
      have hz : ¬ a = 0 := by simpa using hz
      rwa [if_neg hz] at hk
  · rw [if_pos (ha rfl)] at hk
    simp (maxSteps := 300000) (disch := omega) only [gs, gs2, gs3, gs4, ↓reduceIte, Nat.reduceEqDiff, Int.reduceToNat, Nat.reduceMul, Nat.reduceAdd, Nat.reduceBEq, isLd, e3, e6, e7, e8, Int.natCast_one, Int.reduceLT, Int.le_refl, h1]
    cases hz : decide (¬ b = 0)
    · simp (maxSteps := 300000) (disch := omega) only [gs, gs2, gs3, gs4, ↓reduceIte, Nat.reduceEqDiff, Int.reduceToNat, Nat.reduceMul, Nat.reduceAdd, Nat.reduceBEq, isLd, e3, e6, e7, e8]
      have hz : b = 0 := by simpa using hz
      exact ⟨m - 1, by omega, _, Sub.refl _, 2, rfl, by omega, rfl, by omega, fun _ => ⟨ha rfl, hz⟩⟩
    · simp (maxSteps := 300000) (disch := omega) only [gs, gs2, gs3, gs4, ↓reduceIte, Nat.reduceEqDiff, Int.reduceToNat, Nat.reduceMul, Nat.reduceAdd, Nat.reduceBEq, isLd]
      exact hk
  · rw [if_pos (hb rfl).1, (hb rfl).2] at hk
    simp (maxSteps := 300000) (disch := omega) only [gs, gs2, gs3, gs4, ↓reduceIte, Nat.reduceEqDiff, Int.reduceToNat, Nat.reduceMul, Nat.reduceAdd, Nat.reduceBEq, isLd, e3, e6, e7, e8, Int.reduceLT, show (((2 : Nat) : Int) < 2) = False by decide]
    exact hk
theorem impl_isElement_ok (a p : Int) {G : GH} {K : Value → GH → Prop} (hk : K (.bool (decide (0 ≤ a ∧ a ≤ IntKind.i64.wrap (p - 1)))) G) : GC Try.prog 180 [.int .i64 a, .int .i64 p] G K := by
  refine c_impl_isElement_i (by simp) ?_
  simp (maxSteps := 300000) (disch := omega) only [gs, gs2, gs3, gs4, ↓reduceIte, Nat.reduceEqDiff, Int.reduceToNat, Nat.reduceMul, Nat.reduceAdd, Nat.reduceBEq, isLd]
  refine impl_within_ok _ _ _ ?_
  simp (maxSteps := 300000) (disch := omega) only [gs, gs2, gs3, gs4, ↓reduceIte, Nat.reduceEqDiff, Int.reduceToNat, Nat.reduceMul, Nat.reduceAdd, Nat.reduceBEq, isLd]
  exact hk
def ltArc (a b : T3) : Prop := a.1 < b.1 ∨ a.1 = b.1 ∧ a.2.1 < b.2.1
theorem cmp_lt (a b : T3) : (0 ≤ (if cmp3 a.1 b.1 = 0 then cmp3 a.2.1 b.2.1 else cmp3 a.1 b.1)) ↔ ¬ ltArc a b := by
  unfold ltArc cmp3
  by_cases h1 : a.1 < b.1
  · simp [h1]
  · by_cases h2 : b.1 < a.1
    · simp [h1, h2]; omega
    · by_cases h3 : a.2.1 < b.2.1
      · simp [h1, h2, h3]; omega
      · by_cases h4 : b.2.1 < a.2.1 <;> simp [h1, h2, h3, h4] <;> omega
def Rise (xs : List Int) : Prop := ∀ i, i + 1 < xs.length → xs.getD i 0 < xs.getD (i + 1) 0
def InB (xs : List Int) (lo hi : Int) : Prop := ∀ i, i < xs.length → lo ≤ xs.getD i 0 ∧ xs.getD i 0 ≤ hi
theorem inB_mem {xs : List Int} {lo hi : Int} : InB xs lo hi ↔ ∀ x ∈ xs, lo ≤ x ∧ x ≤ hi := by
  constructor
  · intro h x hx
    obtain ⟨i, hi, rfl⟩ := List.getElem_of_mem hx
    simpa [List.getD, hi] using h i hi
  · intro h i hi
    exact h _ (by simp [List.getD, hi])
theorem spec_l00Rises_ok {G : GH} {A : Option Addr} {c : Nat} {xs : List Int} {lo hi : Int} (h : IntS G A c xs) (hl : xs.length < 2 ^ 40) {K : Value → GH → Prop}
    (hk : ∀ b : Bool, (b = true ↔ InB xs lo hi ∧ Rise xs) → K (.bool b) G) : GC Try.prog 214 [.slice A xs.length c, .int .i64 lo, .int .i64 hi] G K := by
  refine c_spec_l00Rises_i (by simp) ?_
  have hsn := h.sn
  have r := h.rd
  have hno : ¬ (InB xs lo hi ∧ Rise xs) → K (.bool false) G := fun hx => hk false (by simp [hx])
  simp (maxSteps := 300000) (disch := omega) only [gs, gs2, gs3, gs4, ↓reduceIte, Nat.reduceEqDiff, Int.reduceToNat, Nat.reduceMul, Nat.reduceAdd, Nat.reduceBEq, isLd]
  refine gLoop_intro (fun m T G' => ∃ k : Nat, T 0 = .slice A xs.length c ∧ T 1 = .int .i64 lo ∧ T 2 = .int .i64 hi ∧ T 7 = .int .i64 k ∧ m + k = xs.length ∧ k ≤ xs.length ∧ G' = G ∧ (∀ i, i < k → lo ≤ xs.getD i 0 ∧ xs.getD i 0 ≤ hi) ∧ ∀ i, i + 1 < k → xs.getD i 0 < xs.getD (i + 1) 0)
    xs.length ⟨0, by simp (maxSteps := 300000) (disch := omega) only [gs, gs2, gs3, gs4, ↓reduceIte, Nat.reduceEqDiff, Int.reduceToNat, Nat.reduceMul, Nat.reduceAdd, Nat.reduceBEq, isLd], by simp (maxSteps := 300000) (disch := omega) only [gs, gs2, gs3, gs4, ↓reduceIte, Nat.reduceEqDiff, Int.reduceToNat, Nat.reduceMul, Nat.reduceAdd, Nat.reduceBEq, isLd], by simp (maxSteps := 300000) (disch := omega) only [gs, gs2, gs3, gs4, ↓reduceIte, Nat.reduceEqDiff, Int.reduceToNat, Nat.reduceMul, Nat.reduceAdd, Nat.reduceBEq, isLd], by simp (maxSteps := 300000) (disch := omega) only [gs, gs2, gs3, gs4, ↓reduceIte, Nat.reduceEqDiff, Int.reduceToNat, Nat.reduceMul, Nat.reduceAdd, Nat.reduceBEq, isLd] <;> rfl, by omega, by omega, rfl, fun i hi => by omega, fun i hi => by omega⟩ ?_
  rintro m T G' ⟨k, e0, e1, e2, e7, hm, hkl, rfl, hin, hri⟩
  simp (maxSteps := 300000) (disch := omega) only [gs, gs2, gs3, gs4, ↓reduceIte, Nat.reduceEqDiff, Int.reduceToNat, Nat.reduceMul, Nat.reduceAdd, Nat.reduceBEq, isLd, e0, e1, e2, e7]
  by_cases hkk : (k : Int) < xs.length
  · simp (maxSteps := 300000) (disch := omega) only [gs, gs2, gs3, gs4, ↓reduceIte, Nat.reduceEqDiff, Int.reduceToNat, Nat.reduceMul, Nat.reduceAdd, Nat.reduceBEq, isLd, e0, e1, e2, e7, hkk, r]
    refine spec_l00In_ok _ _ _ ?_
    simp (maxSteps := 300000) (disch := omega) only [gs, gs2, gs3, gs4, ↓reduceIte, Nat.reduceEqDiff, Int.reduceToNat, Nat.reduceMul, Nat.reduceAdd, Nat.reduceBEq, isLd, e0, e1, e2, e7, hkk, r]
    cases g1 : decide (lo ≤ xs.getD k 0 ∧ xs.getD k 0 ≤ hi)
    · simp (maxSteps := 300000) (disch := omega) only [gs, gs2, gs3, gs4, ↓reduceIte, Nat.reduceEqDiff, Int.reduceToNat, Nat.reduceMul, Nat.reduceAdd, Nat.reduceBEq, isLd, e0, e1, e2, e7, hkk, r]
      have g1 := of_decide_eq_false g1
      exact hno fun hx => g1 (hx.1 k (by omega))
    · simp (maxSteps := 300000) (disch := omega) only [gs, gs2, gs3, gs4, ↓reduceIte, Nat.reduceEqDiff, Int.reduceToNat, Nat.reduceMul, Nat.reduceAdd, Nat.reduceBEq, isLd, e0, e1, e2, e7, hkk, r]
      have g1 := of_decide_eq_true g1
      have hin' : ∀ i, i < k + 1 → lo ≤ xs.getD i 0 ∧ xs.getD i 0 ≤ hi := fun i hi => by
        by_cases hik : i = k
        · subst hik; exact g1
        · exact hin i (by omega)
      by_cases hk0 : (0 : Int) < k
      · simp (maxSteps := 300000) (disch := omega) only [gs, gs2, gs3, gs4, ↓reduceIte, Nat.reduceEqDiff, Int.reduceToNat, Nat.reduceMul, Nat.reduceAdd, Nat.reduceBEq, isLd, e0, e1, e2, e7, hkk, hk0, r]
        by_cases g2 : xs.getD k 0 ≤ xs.getD ((k : Int) - 1).toNat 0
        · simp (maxSteps := 300000) (disch := omega) only [gs, gs2, gs3, gs4, ↓reduceIte, Nat.reduceEqDiff, Int.reduceToNat, Nat.reduceMul, Nat.reduceAdd, Nat.reduceBEq, isLd, e0, e1, e2, e7, hkk, g2, r]
          exact hno fun hx => by
            have := hx.2 (k - 1) (by omega)
            rw [show k - 1 + 1 = k by omega, show k - 1 = ((k : Int) - 1).toNat by omega] at this
            omega
        · simp (maxSteps := 300000) (disch := omega) only [gs, gs2, gs3, gs4, ↓reduceIte, Nat.reduceEqDiff, Int.reduceToNat, Nat.reduceMul, Nat.reduceAdd, Nat.reduceBEq, isLd, e0, e1, e2, e7, hkk, g2, r]
          refine ⟨m - 1, by omega, _, Sub.refl _, k + 1, rfl, by omega, by omega, rfl, hin', fun i hi => ?_⟩
          by_cases hik : i + 1 = k
          · rw [hik, show i = ((k : Int) - 1).toNat by omega]; omega
          · exact hri i (by omega)
      · simp (maxSteps := 300000) (disch := omega) only [gs, gs2, gs3, gs4, ↓reduceIte, Nat.reduceEqDiff, Int.reduceToNat, Nat.reduceMul, Nat.reduceAdd, Nat.reduceBEq, isLd, e0, e1, e2, e7, hkk, hk0, r]
        exact ⟨m - 1, by omega, _, Sub.refl _, k + 1, rfl, by omega, by omega, rfl, hin', fun i hi => by omega⟩
  · simp (maxSteps := 300000) (disch := omega) only [gs, gs2, gs3, gs4, ↓reduceIte, Nat.reduceEqDiff, Int.reduceToNat, Nat.reduceMul, Nat.reduceAdd, Nat.reduceBEq, isLd, e0, e1, e2, e7, hkk]
    exact hk true (by simp; exact ⟨fun i hi => hin i (by omega), fun i hi => hri i (by omega)⟩)
theorem impl_isRising_ok {G : GH} {A : Option Addr} {c : Nat} {xs : List Int} (h : IntS G A c xs) (hl : xs.length < 2 ^ 40) {K : Value → GH → Prop}
    (hk : ∀ b : Bool, (b = true ↔ Rise xs) → K (.bool b) G) : GC Try.prog 215 [.slice A xs.length c] G K := by
  refine c_impl_isRising_i (by simp) ?_
  have hsn := h.sn
  have r := h.rd
  simp (maxSteps := 300000) (disch := omega) only [gs, gs2, gs3, gs4, ↓reduceIte, Nat.reduceEqDiff, Int.reduceToNat, Nat.reduceMul, Nat.reduceAdd, Nat.reduceBEq, isLd]
  refine gLoop_intro (fun m T G' => ∃ k : Nat, T 0 = .slice A xs.length c ∧ T 3 = .int .i64 k ∧ m + k = xs.length + 1 ∧ 1 ≤ k ∧ G' = G ∧ ∀ i, i + 1 < k → i + 1 < xs.length → xs.getD i 0 < xs.getD (i + 1) 0)
    xs.length ⟨1, by simp (maxSteps := 300000) (disch := omega) only [gs, gs2, gs3, gs4, ↓reduceIte, Nat.reduceEqDiff, Int.reduceToNat, Nat.reduceMul, Nat.reduceAdd, Nat.reduceBEq, isLd], by simp (maxSteps := 300000) (disch := omega) only [gs, gs2, gs3, gs4, ↓reduceIte, Nat.reduceEqDiff, Int.reduceToNat, Nat.reduceMul, Nat.reduceAdd, Nat.reduceBEq, isLd] <;> rfl, by omega, by omega, rfl, fun i hi => by omega⟩ ?_
  rintro m T G' ⟨k, e0, e3, hm, hkl, rfl, hri⟩
  simp (maxSteps := 300000) (disch := omega) only [gs, gs2, gs3, gs4, ↓reduceIte, Nat.reduceEqDiff, Int.reduceToNat, Nat.reduceMul, Nat.reduceAdd, Nat.reduceBEq, isLd, e0, e3]
  by_cases hkk : (k : Int) < xs.length
  · simp (maxSteps := 300000) (disch := omega) only [gs, gs2, gs3, gs4, ↓reduceIte, Nat.reduceEqDiff, Int.reduceToNat, Nat.reduceMul, Nat.reduceAdd, Nat.reduceBEq, isLd, e0, e3, hkk, r]
    by_cases g2 : xs.getD k 0 ≤ xs.getD ((k : Int) - 1).toNat 0
    · simp (maxSteps := 300000) (disch := omega) only [gs, gs2, gs3, gs4, ↓reduceIte, Nat.reduceEqDiff, Int.reduceToNat, Nat.reduceMul, Nat.reduceAdd, Nat.reduceBEq, isLd, e0, e3, hkk, g2, r]
      refine hk false ?_
      simp
      exact fun hx => by
        have := hx (k - 1) (by omega)
        rw [show k - 1 + 1 = k by omega, show k - 1 = ((k : Int) - 1).toNat by omega] at this
        omega
    · simp (maxSteps := 300000) (disch := omega) only [gs, gs2, gs3, gs4, ↓reduceIte, Nat.reduceEqDiff, Int.reduceToNat, Nat.reduceMul, Nat.reduceAdd, Nat.reduceBEq, isLd, e0, e3, hkk, g2, r]
      refine ⟨m - 1, by omega, _, Sub.refl _, k + 1, rfl, by omega, by omega, rfl, fun i hi hi' => ?_⟩
      by_cases hik : i + 1 = k
      · rw [hik, show i = ((k : Int) - 1).toNat by omega]; omega
      · exact hri i (by omega) hi'
  · simp (maxSteps := 300000) (disch := omega) only [gs, gs2, gs3, gs4, ↓reduceIte, Nat.reduceEqDiff, Int.reduceToNat, Nat.reduceMul, Nat.reduceAdd, Nat.reduceBEq, isLd, e0, e3, hkk]
    exact hk true (by simp; exact fun i hi => hri i (by omega) hi)
theorem impl_areElements_ok {G : GH} {A : Option Addr} {c : Nat} {xs : List Int} {p : Int} (h : IntS G A c xs) (hl : xs.length < 2 ^ 40) {K : Value → GH → Prop}
    (hk : ∀ b : Bool, (b = true ↔ InB xs 0 (IntKind.i64.wrap (p - 1))) → K (.bool b) G) : GC Try.prog 216 [.slice A xs.length c, .int .i64 p] G K := by
  refine GC_drop (c_impl_areElements_i (by simp) ?_)
  simp (maxSteps := 300000) (disch := omega) only [gs, gs2, gs3, gs4, ↓reduceIte, Nat.reduceEqDiff, Int.reduceToNat, Nat.reduceMul, Nat.reduceAdd, Nat.reduceBEq, isLd]
  intro b1 hb1
  simp (maxSteps := 300000) (disch := omega) only [gs, gs2, gs3, gs4, ↓reduceIte, Nat.reduceEqDiff, Int.reduceToNat, Nat.reduceMul, Nat.reduceAdd, Nat.reduceBEq, isLd]
  have s1 := Sub.put hb1 ⟨[.int .i64 p], true⟩
  refine slices_ContainsFunc_ok (fun n => !decide (0 ≤ n ∧ n ≤ IntKind.i64.wrap (p - 1))) (h.sub s1) hl (fun i hi K' hK' => ?_) ?_
  · simp (maxSteps := 300000) (disch := omega) only [gs, gs2, gs3, gs4, ↓reduceIte, Nat.reduceEqDiff, Int.reduceToNat, Nat.reduceMul, Nat.reduceAdd, Nat.reduceBEq, isLd]
    refine c_impl_areElements_fn1_i (by simp) ?_
    simp (maxSteps := 300000) (disch := omega) only [gs, gs2, gs3, gs4, ↓reduceIte, Nat.reduceEqDiff, Int.reduceToNat, Nat.reduceMul, Nat.reduceAdd, Nat.reduceBEq, isLd]
    refine impl_isElement_ok _ _ ?_
    simp (maxSteps := 300000) (disch := omega) only [gs, gs2, gs3, gs4, ↓reduceIte, Nat.reduceEqDiff, Int.reduceToNat, Nat.reduceMul, Nat.reduceAdd, Nat.reduceBEq, isLd]
    exact hK'
  · generalize hany : (xs.any fun n => !decide (0 ≤ n ∧ n ≤ IntKind.i64.wrap (p - 1))) = bb
    simp (maxSteps := 300000) (disch := omega) only [gs, gs2, gs3, gs4, ↓reduceIte, Nat.reduceEqDiff, Int.reduceToNat, Nat.reduceMul, Nat.reduceAdd, Nat.reduceBEq, isLd]
    refine ⟨G, s1, hk _ ?_⟩
    rw [inB_mem]
    cases bb
    · rw [List.any_eq_false] at hany
      simp
      exact fun x hx => by simpa using hany x hx
    · rw [List.any_eq_true] at hany
      obtain ⟨x, hx, hy⟩ := hany
      simp
      exact ⟨x, hx, fun h0 => by rcases (by simpa using hy : x < 0 ∨ IntKind.i64.wrap (p - 1) < x) with h | h <;> omega⟩
theorem slices_Index_ok {G : GH} {A : Option Addr} {c : Nat} {xs : List Int} {v : Int} (h : IntS G A c xs) (hl : xs.length < 2 ^ 40) {K : Value → GH → Prop}
    (hk : K (.int .i64 (idxI (fun x => decide (x = v)) xs)) G) : GC Try.prog 166 [.slice A xs.length c, .int .i64 v] G K := by
  refine c_slices_Index_int64_int64_i (by simp) ?_
  have hsn := h.sn
  have r := h.rd
  simp (maxSteps := 300000) (disch := omega) only [gs, gs2, gs3, gs4, ↓reduceIte, Nat.reduceEqDiff, Int.reduceToNat, Nat.reduceMul, Nat.reduceAdd, Nat.reduceBEq, isLd]
  refine gLoop_intro (fun m T G' => ∃ k : Nat, T 0 = .slice A xs.length c ∧ T 1 = .int .i64 v ∧ T 7 = .int .i64 xs.length ∧ T 8 = .int .i64 k ∧ m + k = xs.length ∧ k ≤ xs.length ∧ G' = G ∧ ∀ i, i < k → xs.getD i 0 ≠ v) xs.length
    ⟨0, by simp (maxSteps := 300000) (disch := omega) only [gs, gs2, gs3, gs4, ↓reduceIte, Nat.reduceEqDiff, Int.reduceToNat, Nat.reduceMul, Nat.reduceAdd, Nat.reduceBEq, isLd], by simp (maxSteps := 300000) (disch := omega) only [gs, gs2, gs3, gs4, ↓reduceIte, Nat.reduceEqDiff, Int.reduceToNat, Nat.reduceMul, Nat.reduceAdd, Nat.reduceBEq, isLd], by simp (maxSteps := 300000) (disch := omega) only [gs, gs2, gs3, gs4, ↓reduceIte, Nat.reduceEqDiff, Int.reduceToNat, Nat.reduceMul, Nat.reduceAdd, Nat.reduceBEq, isLd], by simp (maxSteps := 300000) (disch := omega) only [gs, gs2, gs3, gs4, ↓reduceIte, Nat.reduceEqDiff, Int.reduceToNat, Nat.reduceMul, Nat.reduceAdd, Nat.reduceBEq, isLd] <;> rfl, by omega, by omega, rfl, fun i hi => by omega⟩ ?_
  rintro m T G' ⟨k, e0, e1, e7, e8, hm, hkl, rfl, hin⟩
  simp (maxSteps := 300000) (disch := omega) only [gs, gs2, gs3, gs4, ↓reduceIte, Nat.reduceEqDiff, Int.reduceToNat, Nat.reduceMul, Nat.reduceAdd, Nat.reduceBEq, isLd, e0, e1, e7, e8]
  by_cases hkk : (k : Int) < xs.length
  · simp (maxSteps := 300000) (disch := omega) only [gs, gs2, gs3, gs4, ↓reduceIte, Nat.reduceEqDiff, Int.reduceToNat, Nat.reduceMul, Nat.reduceAdd, Nat.reduceBEq, isLd, e0, e1, e7, e8, hkk, r]
    by_cases g1 : v = xs.getD k 0
    · simp (maxSteps := 300000) (disch := omega) only [gs, gs2, gs3, gs4, ↓reduceIte, Nat.reduceEqDiff, Int.reduceToNat, Nat.reduceMul, Nat.reduceAdd, Nat.reduceBEq, isLd, eq_true g1, e0, e1, e7, e8]
      rw [idxI_some (k := k) (by omega) (decide_eq_true g1.symm) (fun i hi => decide_eq_false (hin i hi))] at hk; exact hk
    · rw [decide_eq_false g1]
      simp (maxSteps := 300000) (disch := omega) only [gs, gs2, gs3, gs4, ↓reduceIte, Nat.reduceEqDiff, Int.reduceToNat, Nat.reduceMul, Nat.reduceAdd, Nat.reduceBEq, isLd, e0, e1, e7, e8]
      refine ⟨m - 1, by omega, _, Sub.refl _, k + 1, rfl, by omega, by omega, rfl, fun i hi => ?_⟩
      by_cases hik : i = k
      · subst hik; exact fun h => g1 h.symm
      · exact hin i (by omega)
  · simp (maxSteps := 300000) (disch := omega) only [gs, gs2, gs3, gs4, ↓reduceIte, Nat.reduceEqDiff, Int.reduceToNat, Nat.reduceMul, Nat.reduceAdd, Nat.reduceBEq, isLd, e0, e1, e7, e8, hkk]
    rw [idxI_none (fun i hi => decide_eq_false (hin i (by omega)))] at hk; exact hk
def okEdge (n : Int) (e : T3) : Prop := 0 ≤ e.1 ∧ e.1 < e.2.1 ∧ e.2.1 < n ∧ (1 ≤ e.2.2 ∧ e.2.2 ≤ 9)
/-- a valid graph. -/
def GraOk (g : Gra) : Prop := (1 ≤ g.n ∧ g.n ≤ 12) ∧ (∀ i, i < g.edges.length → okEdge g.n (g.edges.getD i z3)) ∧ (∀ i, i + 1 < g.edges.length → ltArc (g.edges.getD i z3) (g.edges.getD (i + 1) z3)) ∧ g.edges.length ≤ 24
/-- a pointer to a graph. -/
structure GraP (G : GH) (q : Option Addr) (N : Gra) (A : Option Addr) (c : Nat) : Prop where
  f0 : rd G q = some (.int .i64 N.n)
  f1 : rd G (pa q 1) = some (.slice A N.edges.length c)
  edges : T3S G A c N.edges
theorem GraP.sub {G G' : GH} {q : Option Addr} {N : Gra} {A : Option Addr} {c : Nat} (h : GraP G q N A c) (s : Sub G G') : GraP G' q N A c := ⟨rd_sub s h.f0, rd_sub s h.f1, h.edges.sub s⟩
theorem GraP.box {G : GH} {b : Nat} (hb : G b = none) {N : Gra} {A : Option Addr} {c : Nat} (h : T3S G A c N.edges) : GraP (put G b ⟨graC N A c, true⟩) (some ⟨b, 0, none⟩) N A c :=
  ⟨by rw [rd_put]; rfl, by rw [pa_mk, rd_put]; rfl, h.sub (Sub.put hb _)⟩
theorem impl_compareEdges_ok {G : GH} (e f : T3) {K : Value → GH → Prop} (hk : ∀ c : Int, (0 ≤ c ↔ ¬ ltArc e f) → K (.int .i64 c) G) : GC Try.prog 217 [V3 e, V3 f] G K := by
  refine GC_drop (c_impl_compareEdges_i (by simp) ?_)
  unfold V3 c3
  simp (maxSteps := 300000) (disch := omega) only [gs, gs2, gs3, gs4, ↓reduceIte, Nat.reduceEqDiff, Int.reduceToNat, Nat.reduceMul, Nat.reduceAdd, Nat.reduceBEq, isLd]
  intro b1 hb1
  simp (maxSteps := 300000) (disch := omega) only [gs, gs2, gs3, gs4, ↓reduceIte, Nat.reduceEqDiff, Int.reduceToNat, Nat.reduceMul, Nat.reduceAdd, Nat.reduceBEq, isLd]
  intro b2 hb2
  simp only [put_none] at hb2
  obtain ⟨n12, f2⟩ := hb2
  have s2 := ((Sub.refl G).skip hb1 (e := ⟨c3 e, true⟩)).skip f2 (e := ⟨c3 f, true⟩)
  unfold c3 at s2
  simp (maxSteps := 300000) (disch := omega) only [gs, gs2, gs3, gs4, ↓reduceIte, Nat.reduceEqDiff, Int.reduceToNat, Nat.reduceMul, Nat.reduceAdd, Nat.reduceBEq, isLd]
  refine cmp_Compare_ok _ _ ?_
  simp (maxSteps := 300000) (disch := omega) only [gs, gs2, gs3, gs4, ↓reduceIte, Nat.reduceEqDiff, Int.reduceToNat, Nat.reduceMul, Nat.reduceAdd, Nat.reduceBEq, isLd]
  refine cmp_Compare_ok _ _ ?_
  simp (maxSteps := 300000) (disch := omega) only [gs, gs2, gs3, gs4, ↓reduceIte, Nat.reduceEqDiff, Int.reduceToNat, Nat.reduceMul, Nat.reduceAdd, Nat.reduceBEq, isLd, gBs]
  refine ⟨by intro v hv; simp at hv; rcases hv with rfl | rfl <;> rfl, fun b5 hb5 => ?_⟩
  have q5 := hb5
  simp only [put_none] at q5
  have s5 := Sub.put hb5 ⟨[.int .i64 (cmp3 e.1 f.1), .int .i64 (cmp3 e.2.1 f.2.1)], true⟩
  simp only [List.flatMap_cons, List.flatMap_nil, cells_int, List.append_nil, List.cons_append, List.nil_append]
  simp (maxSteps := 300000) (disch := omega) only [gs, gs2, gs3, gs4, ↓reduceIte, Nat.reduceEqDiff, Int.reduceToNat, Nat.reduceMul, Nat.reduceAdd, Nat.reduceBEq, isLd]
  refine cmp_Or_ok (cmp3 e.1 f.1) (cmp3 e.2.1 f.2.1) (by simp (maxSteps := 300000) (disch := omega) only [gs, gs2, gs3, gs4, ↓reduceIte, Nat.reduceEqDiff, Int.reduceToNat, Nat.reduceMul, Nat.reduceAdd, Nat.reduceBEq, isLd]) (by simp (maxSteps := 300000) (disch := omega) only [gs, gs2, gs3, gs4, ↓reduceIte, Nat.reduceEqDiff, Int.reduceToNat, Nat.reduceMul, Nat.reduceAdd, Nat.reduceBEq, isLd]) ?_
  simp (maxSteps := 300000) (disch := omega) only [gs, gs2, gs3, gs4, ↓reduceIte, Nat.reduceEqDiff, Int.reduceToNat, Nat.reduceMul, Nat.reduceAdd, Nat.reduceBEq, isLd]
  exact ⟨G, s2.trans s5, hk _ (cmp_lt e f)⟩
theorem impl_ValidGraph_ok {G : GH} {N : Gra} {A : Option Addr} {c : Nat} (h : T3S G A c N.edges) (hl : N.edges.length < 2 ^ 40) {K : Value → GH → Prop}
    (hk : ∀ b : Bool, (b = true ↔ GraOk N) → K (.bool b) G) : GC Try.prog 141 [graV N A c] G K := by
  refine GC_drop (c_impl_ValidGraph_i (by simp) ?_)
  unfold graV graC
  simp (maxSteps := 300000) (disch := omega) only [gs, gs2, gs3, gs4, ↓reduceIte, Nat.reduceEqDiff, Int.reduceToNat, Nat.reduceMul, Nat.reduceAdd, Nat.reduceBEq, isLd]
  intro b1 hb1
  simp (maxSteps := 300000) (disch := omega) only [gs, gs2, gs3, gs4, ↓reduceIte, Nat.reduceEqDiff, Int.reduceToNat, Nat.reduceMul, Nat.reduceAdd, Nat.reduceBEq, isLd]
  have s1 := Sub.put hb1 ⟨[.int .i64 N.n, .slice A N.edges.length c], true⟩
  have f0 : rd (put G b1 ⟨[.int .i64 N.n, .slice A N.edges.length c], true⟩) (some ⟨b1, 0, none⟩) = some (.int .i64 N.n) := rd_box _ _ _ 0 _ rfl
  have f1 : rd (put G b1 ⟨[.int .i64 N.n, .slice A N.edges.length c], true⟩) (some ⟨b1, 1, none⟩) = some (.slice A N.edges.length c) := rd_box _ _ _ 1 _ rfl
  revert s1 f0 f1
  generalize put G b1 ⟨[.int .i64 N.n, .slice A N.edges.length c], true⟩ = G1
  intro s1 f0 f1
  have hno : ¬ GraOk N → ∀ G2, Sub G1 G2 → ∃ G'', Sub G'' G2 ∧ K (.bool false) G'' := fun hx G2 s2 => ⟨G, s1.trans s2, hk false (by simp [hx])⟩
  refine gLoop_intro (fun m T G' => ∃ k : Nat, T 1 = .pointer (some ⟨b1, 0, none⟩) ∧ T 6 = .slice A N.edges.length c ∧ T 7 = .int .i64 N.edges.length ∧ T 8 = .int .i64 k ∧ m + k = N.edges.length ∧ k ≤ N.edges.length ∧ G' = G1 ∧
    (∀ i, i < k → okEdge N.n (N.edges.getD i z3)) ∧ ∀ i, i + 1 < k → ltArc (N.edges.getD i z3) (N.edges.getD (i + 1) z3)) N.edges.length
    ⟨0, by simp (maxSteps := 300000) (disch := omega) only [gs, gs2, gs3, gs4, ↓reduceIte, Nat.reduceEqDiff, Int.reduceToNat, Nat.reduceMul, Nat.reduceAdd, Nat.reduceBEq, isLd], by simp (maxSteps := 300000) (disch := omega) only [gs, gs2, gs3, gs4, ↓reduceIte, Nat.reduceEqDiff, Int.reduceToNat, Nat.reduceMul, Nat.reduceAdd, Nat.reduceBEq, isLd], by simp (maxSteps := 300000) (disch := omega) only [gs, gs2, gs3, gs4, ↓reduceIte, Nat.reduceEqDiff, Int.reduceToNat, Nat.reduceMul, Nat.reduceAdd, Nat.reduceBEq, isLd], by simp (maxSteps := 300000) (disch := omega) only [gs, gs2, gs3, gs4, ↓reduceIte, Nat.reduceEqDiff, Int.reduceToNat, Nat.reduceMul, Nat.reduceAdd, Nat.reduceBEq, isLd] <;> rfl, by omega, by omega, rfl, fun i hi => by omega, fun i hi => by omega⟩ ?_
  rintro m T G' ⟨k, e1, e6, e7, e8, hm, hkl, rfl, hok, hlt⟩
  have hh := h.sub s1
  have hsn := hh.sn
  have p0 := hh.r0
  have p1 := hh.r1
  have p2 := hh.r2
  simp (maxSteps := 300000) (disch := omega) only [gs, gs2, gs3, gs4, ↓reduceIte, Nat.reduceEqDiff, Int.reduceToNat, Nat.reduceMul, Nat.reduceAdd, Nat.reduceBEq, isLd, e1, e6, e7, e8]
  by_cases hkk : (k : Int) < N.edges.length
  · simp (maxSteps := 300000) (disch := omega) only [gs, gs2, gs3, gs4, ↓reduceIte, Nat.reduceEqDiff, Int.reduceToNat, Nat.reduceMul, Nat.reduceAdd, Nat.reduceBEq, isLd, e1, e6, e7, e8, hkk, p0, p1, p2]
    intro b4 hb4
    simp (maxSteps := 300000) (disch := omega) only [gs, gs2, gs3, gs4, ↓reduceIte, Nat.reduceEqDiff, Int.reduceToNat, Nat.reduceMul, Nat.reduceAdd, Nat.reduceBEq, isLd, e1, e6, e7, e8]
    refine st_many (vs := c3 (N.edges.getD k z3)) rfl (put_same _ _ _) rfl (by simp) (c3_one _) ?_
    have s4 := Sub.put hb4 ⟨c3 (N.edges.getD k z3), true⟩
    have hh4 := hh.sub s4
    have o0 := hh4.r0
    have o1 := hh4.r1
    have o2 := hh4.r2
    have u0 := rd_sub s4 f0
    have u1 := rd_sub s4 f1
    have hno' : ¬ okEdge N.n (N.edges.getD k z3) → ¬ GraOk N := fun h1 h2 => h1 (h2.2.1 k (by omega))
    unfold c3 at s4 o0 o1 o2 u0 u1 ⊢
    simp (maxSteps := 300000) (disch := omega) only [gs, gs2, gs3, gs4, ↓reduceIte, Nat.reduceEqDiff, Int.reduceToNat, Nat.reduceMul, Nat.reduceAdd, Nat.reduceBEq, isLd, over, e1, e6, e7, e8, o0, o1, o2, u0, u1]
    by_cases q1 : (N.edges.getD k z3).1 < 0
    · simp (maxSteps := 300000) (disch := omega) only [gs, gs2, gs3, gs4, ↓reduceIte, Nat.reduceEqDiff, Int.reduceToNat, Nat.reduceMul, Nat.reduceAdd, Nat.reduceBEq, isLd, q1, e1, e6, e7, e8, o0, o1, o2, u0, u1]
      exact hno (hno' fun hx => by have := hx.1; omega) _ s4
    simp (maxSteps := 300000) (disch := omega) only [gs, gs2, gs3, gs4, ↓reduceIte, Nat.reduceEqDiff, Int.reduceToNat, Nat.reduceMul, Nat.reduceAdd, Nat.reduceBEq, isLd, q1, e1, e6, e7, e8, o0, o1, o2, u0, u1]
    by_cases q2 : (N.edges.getD k z3).2.1 ≤ (N.edges.getD k z3).1
    · simp (maxSteps := 300000) (disch := omega) only [gs, gs2, gs3, gs4, ↓reduceIte, Nat.reduceEqDiff, Int.reduceToNat, Nat.reduceMul, Nat.reduceAdd, Nat.reduceBEq, isLd, q2, e1, e6, e7, e8, o0, o1, o2, u0, u1]
      exact hno (hno' fun hx => by have := hx.2.1; omega) _ s4
    simp (maxSteps := 300000) (disch := omega) only [gs, gs2, gs3, gs4, ↓reduceIte, Nat.reduceEqDiff, Int.reduceToNat, Nat.reduceMul, Nat.reduceAdd, Nat.reduceBEq, isLd, q2, e1, e6, e7, e8, o0, o1, o2, u0, u1]
    by_cases q3 : N.n ≤ (N.edges.getD k z3).2.1
    · simp (maxSteps := 300000) (disch := omega) only [gs, gs2, gs3, gs4, ↓reduceIte, Nat.reduceEqDiff, Int.reduceToNat, Nat.reduceMul, Nat.reduceAdd, Nat.reduceBEq, isLd, q3, e1, e6, e7, e8, o0, o1, o2, u0, u1]
      exact hno (hno' fun hx => by have := hx.2.2.1; omega) _ s4
    simp (maxSteps := 300000) (disch := omega) only [gs, gs2, gs3, gs4, ↓reduceIte, Nat.reduceEqDiff, Int.reduceToNat, Nat.reduceMul, Nat.reduceAdd, Nat.reduceBEq, isLd, q3, e1, e6, e7, e8, o0, o1, o2, u0, u1]
    refine impl_within_ok _ _ _ ?_
    simp (maxSteps := 300000) (disch := omega) only [gs, gs2, gs3, gs4, ↓reduceIte, Nat.reduceEqDiff, Int.reduceToNat, Nat.reduceMul, Nat.reduceAdd, Nat.reduceBEq, isLd, e1, e6, e7, e8, o0, o1, o2, u0, u1]
    cases q4 : decide (1 ≤ (N.edges.getD k z3).2.2 ∧ (N.edges.getD k z3).2.2 ≤ 9)
    · simp (maxSteps := 300000) (disch := omega) only [gs, gs2, gs3, gs4, ↓reduceIte, Nat.reduceEqDiff, Int.reduceToNat, Nat.reduceMul, Nat.reduceAdd, Nat.reduceBEq, isLd, e1, e6, e7, e8, o0, o1, o2, u0, u1]
      have q4 := of_decide_eq_false q4
      exact hno (hno' fun hx => q4 hx.2.2.2) _ s4
    have q4 := of_decide_eq_true q4
    have hok' : ∀ i, i < k + 1 → okEdge N.n (N.edges.getD i z3) := fun i hi => by
      by_cases hik : i = k
      · subst hik; exact ⟨by omega, by omega, by omega, q4⟩
      · exact hok i (by omega)
    simp (maxSteps := 300000) (disch := omega) only [gs, gs2, gs3, gs4, ↓reduceIte, Nat.reduceEqDiff, Int.reduceToNat, Nat.reduceMul, Nat.reduceAdd, Nat.reduceBEq, isLd, e1, e6, e7, e8, o0, o1, o2, u0, u1]
    by_cases hk0 : (0 : Int) < k
    · simp (maxSteps := 300000) (disch := omega) only [gs, gs2, gs3, gs4, ↓reduceIte, Nat.reduceEqDiff, Int.reduceToNat, Nat.reduceMul, Nat.reduceAdd, Nat.reduceBEq, isLd, hk0, e1, e6, e7, e8, o0, o1, o2, u0, u1]
      refine impl_compareEdges_ok (N.edges.getD ((k : Int) - 1).toNat z3) (N.edges.getD k z3) fun cc hcc => ?_
      simp (maxSteps := 300000) (disch := omega) only [gs, gs2, gs3, gs4, ↓reduceIte, Nat.reduceEqDiff, Int.reduceToNat, Nat.reduceMul, Nat.reduceAdd, Nat.reduceBEq, isLd, e1, e6, e7, e8, o0, o1, o2, u0, u1]
      by_cases hc : 0 ≤ cc
      · simp (maxSteps := 300000) (disch := omega) only [gs, gs2, gs3, gs4, ↓reduceIte, Nat.reduceEqDiff, Int.reduceToNat, Nat.reduceMul, Nat.reduceAdd, Nat.reduceBEq, isLd, hc, e1, e6, e7, e8, o0, o1, o2, u0, u1]
        exact hno (fun hx => (hcc.1 hc) (by have := hx.2.2.1 (k - 1) (by omega); rwa [show k - 1 + 1 = k by omega, show k - 1 = ((k : Int) - 1).toNat by omega] at this)) _ s4
      · simp (maxSteps := 300000) (disch := omega) only [gs, gs2, gs3, gs4, ↓reduceIte, Nat.reduceEqDiff, Int.reduceToNat, Nat.reduceMul, Nat.reduceAdd, Nat.reduceBEq, isLd, hc, e1, e6, e7, e8, o0, o1, o2, u0, u1]
        have hl' : ltArc (N.edges.getD ((k : Int) - 1).toNat z3) (N.edges.getD k z3) := Classical.byContradiction fun hn => hc (hcc.2 hn)
        refine ⟨m - 1, by omega, _, s4, k + 1, rfl, by omega, by omega, rfl, hok', fun i hi => ?_⟩
        by_cases hik : i + 1 = k
        · rw [hik, show i = ((k : Int) - 1).toNat by omega]; exact hl'
        · exact hlt i (by omega)
    · simp (maxSteps := 300000) (disch := omega) only [gs, gs2, gs3, gs4, ↓reduceIte, Nat.reduceEqDiff, Int.reduceToNat, Nat.reduceMul, Nat.reduceAdd, Nat.reduceBEq, isLd, hk0, e1, e6, e7, e8, o0, o1, o2, u0, u1]
      exact ⟨m - 1, by omega, _, s4, k + 1, rfl, by omega, by omega, rfl, hok', fun i hi => by omega⟩
  · simp (maxSteps := 300000) (disch := omega) only [gs, gs2, gs3, gs4, ↓reduceIte, Nat.reduceEqDiff, Int.reduceToNat, Nat.reduceMul, Nat.reduceAdd, Nat.reduceBEq, isLd, e1, e6, e7, e8, hkk, f0]
    refine impl_within_ok _ _ _ ?_
    simp (maxSteps := 300000) (disch := omega) only [gs, gs2, gs3, gs4, ↓reduceIte, Nat.reduceEqDiff, Int.reduceToNat, Nat.reduceMul, Nat.reduceAdd, Nat.reduceBEq, isLd, e1, e6, e7, e8, f0, f1]
    cases g1 : decide (1 ≤ N.n ∧ N.n ≤ 12)
    · simp (maxSteps := 300000) (disch := omega) only [gs, gs2, gs3, gs4, ↓reduceIte, Nat.reduceEqDiff, Int.reduceToNat, Nat.reduceMul, Nat.reduceAdd, Nat.reduceBEq, isLd, e1]
      have g1 := of_decide_eq_false g1
      exact hno (fun hx => g1 hx.1) _ (Sub.refl _)
    · have g1 := of_decide_eq_true g1
      simp (maxSteps := 300000) (disch := omega) only [gs, gs2, gs3, gs4, ↓reduceIte, Nat.reduceEqDiff, Int.reduceToNat, Nat.reduceMul, Nat.reduceAdd, Nat.reduceBEq, isLd, e1, f1]
      refine ⟨G, s1, hk _ ?_⟩
      rw [decide_eq_true_eq]
      exact ⟨fun hx => ⟨g1, fun i hi => hok i (by omega), fun i hi => hlt i (by omega), by omega⟩, fun hx => by have := hx.2.2.2; omega⟩
theorem spec_l16Ok_ok {G : GH} {q : Option Addr} {N : Gra} {A : Option Addr} {c : Nat} (h : GraP G q N A c) (hl : N.edges.length < 2 ^ 40) {K : Value → GH → Prop}
    (hk : ∀ b : Bool, (b = true ↔ GraOk N) → K (.bool b) G) : GC Try.prog 138 [.pointer q] G K := by
  refine GC_drop (c_spec_l16Ok_i (by simp) ?_)
  have hq := rd_some h.f0
  have f0 := h.f0
  have f1 := h.f1
  have hno : ¬ GraOk N → ∀ G2, Sub G G2 → ∃ G'', Sub G'' G2 ∧ K (.bool false) G'' := fun hx G2 s2 => ⟨G, s2, hk false (by simp [hx])⟩
  simp (maxSteps := 300000) (disch := omega) only [gs, gs2, gs3, gs4, ↓reduceIte, Nat.reduceEqDiff, Int.reduceToNat, Nat.reduceMul, Nat.reduceAdd, Nat.reduceBEq, isLd, f0]
  refine spec_l00In_ok _ _ _ ?_
  simp (maxSteps := 300000) (disch := omega) only [gs, gs2, gs3, gs4, ↓reduceIte, Nat.reduceEqDiff, Int.reduceToNat, Nat.reduceMul, Nat.reduceAdd, Nat.reduceBEq, isLd, f0]
  cases g1 : decide (1 ≤ N.n ∧ N.n ≤ 12)
  · simp (maxSteps := 300000) (disch := omega) only [gs, gs2, gs3, gs4, ↓reduceIte, Nat.reduceEqDiff, Int.reduceToNat, Nat.reduceMul, Nat.reduceAdd, Nat.reduceBEq, isLd, f0]
    have g1 := of_decide_eq_false g1
    exact hno (fun hx => g1 hx.1) _ (Sub.refl _)
  have g1 := of_decide_eq_true g1
  simp (maxSteps := 300000) (disch := omega) only [gs, gs2, gs3, gs4, ↓reduceIte, Nat.reduceEqDiff, Int.reduceToNat, Nat.reduceMul, Nat.reduceAdd, Nat.reduceBEq, isLd, f0]
  refine gLoop_intro (fun m T G' => ∃ k : Nat, T 0 = .pointer q ∧ T 3 = .int .i64 k ∧ m + k = N.edges.length ∧ k ≤ N.edges.length ∧ G' = G ∧
    (∀ i, i < k → okEdge N.n (N.edges.getD i z3)) ∧ ∀ i, i + 1 < k → ltArc (N.edges.getD i z3) (N.edges.getD (i + 1) z3)) N.edges.length
    ⟨0, by simp (maxSteps := 300000) (disch := omega) only [gs, gs2, gs3, gs4, ↓reduceIte, Nat.reduceEqDiff, Int.reduceToNat, Nat.reduceMul, Nat.reduceAdd, Nat.reduceBEq, isLd], by simp (maxSteps := 300000) (disch := omega) only [gs, gs2, gs3, gs4, ↓reduceIte, Nat.reduceEqDiff, Int.reduceToNat, Nat.reduceMul, Nat.reduceAdd, Nat.reduceBEq, isLd] <;> rfl, by omega, by omega, rfl, fun i hi => by omega, fun i hi => by omega⟩ ?_
  rintro m T G' ⟨k, e0, e3, hm, hkl, rfl, hok, hlt⟩
  have hsn := h.edges.sn
  have p0 := h.edges.r0
  have p1 := h.edges.r1
  have p2 := h.edges.r2
  simp (maxSteps := 300000) (disch := omega) only [gs, gs2, gs3, gs4, ↓reduceIte, Nat.reduceEqDiff, Int.reduceToNat, Nat.reduceMul, Nat.reduceAdd, Nat.reduceBEq, isLd, e0, e3, f1]
  by_cases hkk : (k : Int) < N.edges.length
  · simp (maxSteps := 300000) (disch := omega) only [gs, gs2, gs3, gs4, ↓reduceIte, Nat.reduceEqDiff, Int.reduceToNat, Nat.reduceMul, Nat.reduceAdd, Nat.reduceBEq, isLd, e0, e3, f1, hkk, p0, p1, p2]
    intro b4 hb4
    have s4 := Sub.put hb4 ⟨c3 (N.edges.getD k z3), true⟩
    simp (maxSteps := 300000) (disch := omega) only [gs, gs2, gs3, gs4, ↓reduceIte, Nat.reduceEqDiff, Int.reduceToNat, Nat.reduceMul, Nat.reduceAdd, Nat.reduceBEq, isLd, e0, e3]
    refine st_many (vs := c3 (N.edges.getD k z3)) rfl (put_same _ _ _) rfl (by simp) (c3_one _) ?_
    have h4 := h.sub s4
    have o0 := h4.edges.r0
    have o1 := h4.edges.r1
    have o2 := h4.edges.r2
    have u0 := h4.f0
    have u1 := h4.f1
    have hno' : ¬ okEdge N.n (N.edges.getD k z3) → ¬ GraOk N := fun h1 h2 => h1 (h2.2.1 k (by omega))
    clear p0 p1 p2 h4
    unfold c3 at s4 o0 o1 o2 u0 u1 ⊢
    simp (maxSteps := 300000) (disch := omega) only [gs, gs2, gs3, gs4, ↓reduceIte, Nat.reduceEqDiff, Int.reduceToNat, Nat.reduceMul, Nat.reduceAdd, Nat.reduceBEq, isLd, over, e0, e3, u0, u1, o0, o1, o2]
    refine spec_l00In_ok _ _ _ ?_
    simp (maxSteps := 300000) (disch := omega) only [gs, gs2, gs3, gs4, ↓reduceIte, Nat.reduceEqDiff, Int.reduceToNat, Nat.reduceMul, Nat.reduceAdd, Nat.reduceBEq, isLd, e0, e3, u0, u1, o0, o1, o2]
    cases q1 : decide (0 ≤ (N.edges.getD k z3).2.1 ∧ (N.edges.getD k z3).2.1 ≤ N.n - 1)
    · simp (maxSteps := 300000) (disch := omega) only [gs, gs2, gs3, gs4, ↓reduceIte, Nat.reduceEqDiff, Int.reduceToNat, Nat.reduceMul, Nat.reduceAdd, Nat.reduceBEq, isLd, e0, e3, u0, u1, o0, o1, o2]
      have q1 := of_decide_eq_false q1
      exact hno (hno' fun hx => q1 (by have := hx.1; have := hx.2.1; have := hx.2.2.1; omega)) _ s4
    have q1 := of_decide_eq_true q1
    simp (maxSteps := 300000) (disch := omega) only [gs, gs2, gs3, gs4, ↓reduceIte, Nat.reduceEqDiff, Int.reduceToNat, Nat.reduceMul, Nat.reduceAdd, Nat.reduceBEq, isLd, e0, e3, u0, u1, o0, o1, o2]
    refine spec_l00In_ok _ _ _ ?_
    simp (maxSteps := 300000) (disch := omega) only [gs, gs2, gs3, gs4, ↓reduceIte, Nat.reduceEqDiff, Int.reduceToNat, Nat.reduceMul, Nat.reduceAdd, Nat.reduceBEq, isLd, e0, e3, u0, u1, o0, o1, o2]
    cases q2 : decide (0 ≤ (N.edges.getD k z3).1 ∧ (N.edges.getD k z3).1 ≤ (N.edges.getD k z3).2.1 - 1)
    · simp (maxSteps := 300000) (disch := omega) only [gs, gs2, gs3, gs4, ↓reduceIte, Nat.reduceEqDiff, Int.reduceToNat, Nat.reduceMul, Nat.reduceAdd, Nat.reduceBEq, isLd, e0, e3, u0, u1, o0, o1, o2]
      have q2 := of_decide_eq_false q2
      exact hno (hno' fun hx => q2 (by have := hx.1; have := hx.2.1; omega)) _ s4
    have q2 := of_decide_eq_true q2
    simp (maxSteps := 300000) (disch := omega) only [gs, gs2, gs3, gs4, ↓reduceIte, Nat.reduceEqDiff, Int.reduceToNat, Nat.reduceMul, Nat.reduceAdd, Nat.reduceBEq, isLd, e0, e3, u0, u1, o0, o1, o2]
    refine spec_l00In_ok _ _ _ ?_
    simp (maxSteps := 300000) (disch := omega) only [gs, gs2, gs3, gs4, ↓reduceIte, Nat.reduceEqDiff, Int.reduceToNat, Nat.reduceMul, Nat.reduceAdd, Nat.reduceBEq, isLd, e0, e3, u0, u1, o0, o1, o2]
    cases q4 : decide (1 ≤ (N.edges.getD k z3).2.2 ∧ (N.edges.getD k z3).2.2 ≤ 9)
    · simp (maxSteps := 300000) (disch := omega) only [gs, gs2, gs3, gs4, ↓reduceIte, Nat.reduceEqDiff, Int.reduceToNat, Nat.reduceMul, Nat.reduceAdd, Nat.reduceBEq, isLd, e0, e3, u0, u1, o0, o1, o2]
      have q4 := of_decide_eq_false q4
      exact hno (hno' fun hx => q4 hx.2.2.2) _ s4
    have q4 := of_decide_eq_true q4
    have hok' : ∀ i, i < k + 1 → okEdge N.n (N.edges.getD i z3) := fun i hi => by
      by_cases hik : i = k
      · subst hik; exact ⟨by omega, by omega, by omega, q4⟩
      · exact hok i (by omega)
    simp (maxSteps := 300000) (disch := omega) only [gs, gs2, gs3, gs4, ↓reduceIte, Nat.reduceEqDiff, Int.reduceToNat, Nat.reduceMul, Nat.reduceAdd, Nat.reduceBEq, isLd, e0, e3, u0, u1, o0, o1, o2]
    by_cases hk0 : (0 : Int) < k
    · simp (maxSteps := 300000) (disch := omega) only [gs, gs2, gs3, gs4, ↓reduceIte, Nat.reduceEqDiff, Int.reduceToNat, Nat.reduceMul, Nat.reduceAdd, Nat.reduceBEq, isLd, hk0, e0, e3, u0, u1, o0, o1, o2]
      have hord : ¬ ltArc (N.edges.getD ((k : Int) - 1).toNat z3) (N.edges.getD k z3) → ¬ GraOk N := fun hnl hn =>
        hnl (by have := hn.2.2.1 (k - 1) (by omega); rwa [show k - 1 + 1 = k by omega, show k - 1 = ((k : Int) - 1).toNat by omega] at this)
      have hgo : ltArc (N.edges.getD ((k : Int) - 1).toNat z3) (N.edges.getD k z3) → ∀ i, i + 1 < k + 1 → ltArc (N.edges.getD i z3) (N.edges.getD (i + 1) z3) := fun hl' i hi => by
        by_cases hik : i + 1 = k
        · rw [hik, show i = ((k : Int) - 1).toNat by omega]; exact hl'
        · exact hlt i (by omega)
      by_cases v1 : (N.edges.getD k z3).1 < (N.edges.getD ((k : Int) - 1).toNat z3).1
      · simp (maxSteps := 300000) (disch := omega) only [gs, gs2, gs3, gs4, ↓reduceIte, Nat.reduceEqDiff, Int.reduceToNat, Nat.reduceMul, Nat.reduceAdd, Nat.reduceBEq, isLd, v1, e0, e3, u0, u1, o0, o1, o2]
        exact hno (hord (by unfold ltArc; omega)) _ s4
      simp (maxSteps := 300000) (disch := omega) only [gs, gs2, gs3, gs4, ↓reduceIte, Nat.reduceEqDiff, Int.reduceToNat, Nat.reduceMul, Nat.reduceAdd, Nat.reduceBEq, isLd, v1, e0, e3, u0, u1, o0, o1, o2]
      by_cases v2 : (N.edges.getD ((k : Int) - 1).toNat z3).1 = (N.edges.getD k z3).1
      · rw [show decide ((N.edges.getD ((k : Int) - 1).toNat z3).1 = (N.edges.getD k z3).1) = true from decide_eq_true v2]
        simp (maxSteps := 300000) (disch := omega) only [gs, gs2, gs3, gs4, ↓reduceIte, Nat.reduceEqDiff, Int.reduceToNat, Nat.reduceMul, Nat.reduceAdd, Nat.reduceBEq, isLd, e0, e3, u0, u1, o0, o1, o2]
        by_cases v3 : (N.edges.getD k z3).2.1 ≤ (N.edges.getD ((k : Int) - 1).toNat z3).2.1
        · simp (maxSteps := 300000) (disch := omega) only [gs, gs2, gs3, gs4, ↓reduceIte, Nat.reduceEqDiff, Int.reduceToNat, Nat.reduceMul, Nat.reduceAdd, Nat.reduceBEq, isLd, v3, e0, e3, u0, u1, o0, o1, o2]
          exact hno (hord (by unfold ltArc; omega)) _ s4
        · simp (maxSteps := 300000) (disch := omega) only [gs, gs2, gs3, gs4, ↓reduceIte, Nat.reduceEqDiff, Int.reduceToNat, Nat.reduceMul, Nat.reduceAdd, Nat.reduceBEq, isLd, v3, e0, e3, u0, u1, o0, o1, o2]
          exact ⟨m - 1, by omega, _, s4, k + 1, rfl, by omega, by omega, rfl, hok', hgo (by unfold ltArc; omega)⟩
      · rw [show decide ((N.edges.getD ((k : Int) - 1).toNat z3).1 = (N.edges.getD k z3).1) = false from decide_eq_false v2]
        simp (maxSteps := 300000) (disch := omega) only [gs, gs2, gs3, gs4, ↓reduceIte, Nat.reduceEqDiff, Int.reduceToNat, Nat.reduceMul, Nat.reduceAdd, Nat.reduceBEq, isLd, e0, e3, u0, u1, o0, o1, o2]
        exact ⟨m - 1, by omega, _, s4, k + 1, rfl, by omega, by omega, rfl, hok', hgo (by unfold ltArc; omega)⟩
    · simp (maxSteps := 300000) (disch := omega) only [gs, gs2, gs3, gs4, ↓reduceIte, Nat.reduceEqDiff, Int.reduceToNat, Nat.reduceMul, Nat.reduceAdd, Nat.reduceBEq, isLd, hk0, e0, e3, u0, u1, o0, o1, o2]
      exact ⟨m - 1, by omega, _, s4, k + 1, rfl, by omega, by omega, rfl, hok', fun i hi => by omega⟩
  · simp (maxSteps := 300000) (disch := omega) only [gs, gs2, gs3, gs4, ↓reduceIte, Nat.reduceEqDiff, Int.reduceToNat, Nat.reduceMul, Nat.reduceAdd, Nat.reduceBEq, isLd, e0, e3, hkk, f1]
    refine ⟨G', Sub.refl _, hk _ ?_⟩
    rw [decide_eq_true_eq]
    exact ⟨fun hx => ⟨g1, fun i hi => hok i (by omega), fun i hi => hlt i (by omega), by omega⟩, fun hx => by have := hx.2.2.2; omega⟩
/-- what the first k arcs bring to a node, less what they take away. -/
def exc (es : List T3) (fl : List Int) (v : Int) : Nat → Int
  | 0 => 0
  | k + 1 => exc es fl v k + (if (es.getD k z3).2.1 = v then fl.getD k 0 else 0) - (if (es.getD k z3).1 = v then fl.getD k 0 else 0)
/-- the place of the arc from a to b, or -1. -/
def arcI (es : List T3) (a b : Int) : Int := match es.findIdx? (fun e => decide (e.1 = a ∧ e.2.1 = b)) with | some i => (i : Int) | none => -1
/-- arcs in order stand once. -/
theorem lt_trans' {es : List T3} (h : ∀ i, i + 1 < es.length → ltArc (es.getD i z3) (es.getD (i + 1) z3)) : ∀ (d i : Nat), i + d + 1 < es.length → ltArc (es.getD i z3) (es.getD (i + d + 1) z3)
  | 0, i, hi => h i hi
  | d + 1, i, hi => by
    have h1 := lt_trans' h d i (by omega)
    have h2 := h (i + d + 1) hi
    unfold ltArc at *
    rw [show i + (d + 1) + 1 = i + d + 1 + 1 by omega]
    omega
theorem arc_once {es : List T3} (h : ∀ i, i + 1 < es.length → ltArc (es.getD i z3) (es.getD (i + 1) z3)) {i j : Nat} (hi : i < es.length) (hj : j < es.length) (h1 : (es.getD i z3).1 = (es.getD j z3).1) (h2 : (es.getD i z3).2.1 = (es.getD j z3).2.1) : i = j := by
  have key : ∀ i j, i < j → j < es.length → (es.getD i z3).1 = (es.getD j z3).1 → (es.getD i z3).2.1 = (es.getD j z3).2.1 → False := fun i j hij hj h1 h2 => by
    have := lt_trans' h (j - i - 1) i (by omega)
    rw [show i + (j - i - 1) + 1 = j by omega] at this
    unfold ltArc at this
    omega
  rcases Nat.lt_trichotomy i j with hlt | rfl | hgt
  · exact (key i j hlt hj h1 h2).elim
  · rfl
  · exact (key j i hgt hi h1.symm h2.symm).elim
/-- what is sent from u to v: first back, then on. -/
def push (es : List T3) (fl : List Int) (u v a : Int) : List Int :=
  let m := if fl.getD (arcI es v u).toNat 0 < a then fl.getD (arcI es v u).toNat 0 else a
  let fl1 := if 0 ≤ arcI es v u then fl.set (arcI es v u).toNat (fl.getD (arcI es v u).toNat 0 - m) else fl
  let more := if 0 ≤ arcI es v u then a - m else a
  if 0 ≤ arcI es u v then fl1.set (arcI es u v).toNat (fl1.getD (arcI es u v).toNat 0 + more) else fl1
/-- the nodes on the way back from v, without the source. -/
def path (b : Int → Int) (s : Int) : Nat → Int → List Int
  | 0, _ => []
  | f + 1, v => if v = s then [] else v :: path b s f (b v)
/-- the numbers below n. -/
def iota (n : Nat) : List Int := (List.range n).map fun i : Nat => (i : Int)
theorem New.cast {G G' : GH} {A : Option Addr} {c sz n : Nat} {cs cs' : List Value} (h : New G G' A c cs sz n) (e : cs = cs') {n' : Nat} (en : n = n') : New G G' A c cs' sz n' := e ▸ en ▸ h
theorem range_app_get {α : Type} {n : Nat} {f : Nat → α} {rest : List α} {i : Nat} (h : i < n) : ((List.range n).map f ++ rest)[i]? = some (f i) := by
  rw [List.getElem?_append_left (by simpa using h), range_get _ _ _ h]
theorem range_app_set {α : Type} {n : Nat} {f : Nat → α} {rest : List α} {i : Nat} {x : α} (h : i < n) : ((List.range n).map f ++ rest).set i x = (List.range n).map (fun v => if v = i then x else f v) ++ rest := by
  rw [List.set_append_left _ _ (by simpa using h), range_set]
theorem New.ints' {G G' : GH} {A : Option Addr} {c n : Nat} {xs : List Int} (h : New G G' A c (xs.map I64) 1 n) (hn : n = xs.length) : IntS G' A c xs := by subst hn; exact h.ints
/-- the cells of a function on the numbers below n. -/
def fcells (n : Nat) (b : Int → Int) : List Value := (List.range n).map fun v : Nat => I64 (b v)
theorem fcells_len (n : Nat) (b : Int → Int) : (fcells n b).length = n := by simp [fcells]
theorem fcells_get {n : Nat} {b : Int → Int} {rest : List Value} {v : Int} (h0 : 0 ≤ v) (h : v < n) : (fcells n b ++ rest)[v.toNat]? = some (.int .i64 (b v)) := by
  unfold fcells; rw [range_app_get (by omega)]; simp only [I64]; rw [Int.toNat_of_nonneg h0]
theorem fcells_set {n : Nat} {b : Int → Int} {rest : List Value} {v x : Int} (h0 : 0 ≤ v) (h : v < n) : (fcells n b ++ rest).set v.toNat (.int .i64 x) = fcells n (fun w => if w = v then x else b w) ++ rest := by
  unfold fcells
  rw [range_app_set (by omega)]
  congr 1
  exact range_cong fun w hw => by
    by_cases hwv : (w : Int) = v
    · rw [if_pos (by omega)]; simp only [if_pos hwv]; rfl
    · rw [if_neg (by omega)]; simp only [if_neg hwv]
def updAt (f : Int → Int) (v x : Int) : Int → Int := fun w => if w = v then x else f w
def upd2 (f : Int → Int → Int) (i j x : Int) : Int → Int → Int := fun a b => if a = i ∧ b = j then x else f a b
/-- the matrix after k edges, as the program writes it. -/
def lapK (es : List T3) : Nat → Int → Int → Int
  | 0 => fun _ _ => 0
  | k + 1 => let e := es.getD k z3; let L := lapK es k
    let L1 := upd2 L e.1 e.1 (L e.1 e.1 + e.2.2)
    let L2 := upd2 L1 e.2.1 e.2.1 (L1 e.2.1 e.2.1 + e.2.2)
    upd2 (upd2 L2 e.1 e.2.1 (-e.2.2)) e.2.1 e.1 (-e.2.2)
def okE (es : List T3) : Prop := (∀ i, i < es.length → (es.getD i z3).1 < (es.getD i z3).2.1) ∧ ∀ i, i + 1 < es.length → ltArc (es.getD i z3) (es.getD (i + 1) z3)
theorem GraOk.okE {N : Gra} (h : GraOk N) : okE N.edges := ⟨fun i hi => (h.2.1 i hi).2.1, h.2.2.1⟩
/-- no edge between i and j among the first k. -/
theorem lapK_none {es : List T3} {i j : Int} (hij : i ≠ j) : ∀ k : Nat, (∀ m, m < k → ¬ (((es.getD m z3).1 = i ∧ (es.getD m z3).2.1 = j) ∨ ((es.getD m z3).1 = j ∧ (es.getD m z3).2.1 = i))) → lapK es k i j = 0
  | 0, _ => rfl
  | k + 1, h => by
    have ih := lapK_none hij k fun m hm => h m (by omega)
    have hk := h k (by omega)
    unfold lapK upd2
    dsimp only
    rw [if_neg (by omega), if_neg (by omega), if_neg (by omega), if_neg (by omega)]
    exact ih
theorem lap_new {es : List T3} (h : okE es) {k : Nat} (hk : k < es.length) : lapK es k (es.getD k z3).1 (es.getD k z3).2.1 = 0 ∧ lapK es k (es.getD k z3).2.1 (es.getD k z3).1 = 0 := by
  have hlt := h.1 k hk
  have key : ∀ m, m < k → ¬ ((es.getD m z3).1 = (es.getD k z3).1 ∧ (es.getD m z3).2.1 = (es.getD k z3).2.1) ∧ ¬ ((es.getD m z3).1 = (es.getD k z3).2.1 ∧ (es.getD m z3).2.1 = (es.getD k z3).1) := fun m hm => by
    refine ⟨fun e => ?_, fun e => ?_⟩
    · have := arc_once h.2 (by omega) hk e.1 e.2; omega
    · have := h.1 m (by omega); omega
  exact ⟨lapK_none (by omega) k fun m hm => by have := key m hm; omega, lapK_none (by omega) k fun m hm => by have := key m hm; omega⟩
/-- one step of the matrix, as a sum. -/
theorem lapK_step {es : List T3} (h : okE es) {k : Nat} (hk : k < es.length) (i j : Int) : lapK es (k + 1) i j = lapK es k i j + (if i = (es.getD k z3).1 then (if j = (es.getD k z3).1 then (es.getD k z3).2.2 else 0) + (if j = (es.getD k z3).2.1 then -(es.getD k z3).2.2 else 0) else 0) + (if i = (es.getD k z3).2.1 then (if j = (es.getD k z3).2.1 then (es.getD k z3).2.2 else 0) + (if j = (es.getD k z3).1 then -(es.getD k z3).2.2 else 0) else 0) := by
  have hlt := h.1 k hk
  obtain ⟨n1, n2⟩ := lap_new h hk
  rw [lapK]
  simp only [upd2]
  generalize (es.getD k z3).2.2 = w at *
  generalize (es.getD k z3).1 = u at *
  generalize (es.getD k z3).2.1 = v at *
  by_cases a1 : i = u
  · subst a1
    by_cases b1 : j = i
    · subst b1
      rw [if_neg (by omega), if_neg (by omega), if_neg (by omega), if_pos ⟨rfl, rfl⟩, if_pos rfl, if_pos rfl, if_neg (by omega), if_neg (by omega)]; omega
    · by_cases b2 : j = v
      · subst b2
        rw [if_neg (by omega), if_pos ⟨rfl, rfl⟩, if_pos rfl, if_neg b1, if_pos rfl, if_neg (by omega), n1]; omega
      · rw [if_neg (by omega), if_neg (by omega), if_neg (by omega), if_neg (by omega), if_pos rfl, if_neg b1, if_neg b2, if_neg (by omega)]; omega
  · by_cases a2 : i = v
    · subst a2
      by_cases b1 : j = i
      · subst b1
        rw [if_neg (by omega), if_neg (by omega), if_pos ⟨rfl, rfl⟩, if_neg (by omega), if_neg a1, if_pos rfl, if_pos rfl, if_neg a1]; omega
      · by_cases b2 : j = u
        · subst b2
          rw [if_pos ⟨rfl, rfl⟩, if_neg a1, if_pos rfl, if_neg b1, if_pos rfl, n2]; omega
        · rw [if_neg (by omega), if_neg (by omega), if_neg (by omega), if_neg (by omega), if_neg a1, if_pos rfl, if_neg b1, if_neg b2]; omega
    · rw [if_neg (by omega), if_neg (by omega), if_neg (by omega), if_neg (by omega), if_neg a1, if_neg a2]; omega
theorem laws_heldInt64S_ok {G : GH} {A : Option Addr} {c n : Nat} {k : Int} (h : IntS G A c (marks k n)) (hn : n ≤ 2 ^ 40) (hk0 : 0 ≤ k ∧ k ≤ 2 ^ 40) {K : Value → GH → Prop}
    (hk : K (.int .i64 (k + n)) G) : GC Try.prog 35 [.slice A n c, .int .i64 k] G K := by
  refine c_laws_heldInt64S_i (by simp) ?_
  have hsn := h.sn
  have r : ∀ i, i < n → rd G (pa A i) = some (.int .i64 (k + i)) := fun i hi => by rw [h.rd i (by rw [marks_len]; exact hi), marks_get _ _ _ hi]
  rw [marks_len] at hsn
  simp (maxSteps := 300000) (disch := omega) only [gs, gs2, gs3, gs4, ↓reduceIte, Nat.reduceEqDiff, Int.reduceToNat, Nat.reduceMul, Nat.reduceAdd, Nat.reduceBEq, isLd]
  refine gLoop_intro (fun m T G' => ∃ j : Nat, T 0 = .slice A n c ∧ T 1 = .int .i64 (k + j) ∧ T 5 = .int .i64 j ∧ m + j = n ∧ j ≤ n ∧ G' = G) n
    ⟨0, by simp (maxSteps := 300000) (disch := omega) only [gs, gs2, gs3, gs4, ↓reduceIte, Nat.reduceEqDiff, Int.reduceToNat, Nat.reduceMul, Nat.reduceAdd, Nat.reduceBEq, isLd], by simp (maxSteps := 300000) (disch := omega) only [gs, gs2, gs3, gs4, ↓reduceIte, Nat.reduceEqDiff, Int.reduceToNat, Nat.reduceMul, Nat.reduceAdd, Nat.reduceBEq, isLd] <;> simp, by simp (maxSteps := 300000) (disch := omega) only [gs, gs2, gs3, gs4, ↓reduceIte, Nat.reduceEqDiff, Int.reduceToNat, Nat.reduceMul, Nat.reduceAdd, Nat.reduceBEq, isLd] <;> rfl, by omega, by omega, rfl⟩ ?_
  rintro m T G' ⟨j, e0, e1, e5, hm, hjn, rfl⟩
  simp (maxSteps := 300000) (disch := omega) only [gs, gs2, gs3, gs4, ↓reduceIte, Nat.reduceEqDiff, Int.reduceToNat, Nat.reduceMul, Nat.reduceAdd, Nat.reduceBEq, isLd, e0, e1, e5]
  by_cases hj : (j : Int) < n
  · simp (maxSteps := 300000) (disch := omega) only [gs, gs2, gs3, gs4, ↓reduceIte, Nat.reduceEqDiff, Int.reduceToNat, Nat.reduceMul, Nat.reduceAdd, Nat.reduceBEq, isLd, e0, e1, e5, hj, r, eq_self]
    exact ⟨m - 1, by omega, _, Sub.refl _, j + 1, by congr 1; omega, rfl, by omega, by omega, rfl⟩
  · simp (maxSteps := 300000) (disch := omega) only [gs, gs2, gs3, gs4, ↓reduceIte, Nat.reduceEqDiff, Int.reduceToNat, Nat.reduceMul, Nat.reduceAdd, Nat.reduceBEq, isLd, e0, e1, e5, hj]
    obtain rfl : j = n := by omega
    exact hk
theorem laws_markInt64S_ok {G : GH} {A : Option Addr} {c n : Nat} {k : Int} {cs : List Value} (h : Own G A c cs 1 n) (hn : n ≤ 2 ^ 40) (hk0 : 0 ≤ k ∧ k ≤ 2 ^ 40) {K : Value → GH → Prop}
    (hk : ∀ G', Upd G G' A → Own G' A c ((marks k n).map I64) 1 n → K (.int .i64 (k + n)) G') : GC Try.prog 34 [.slice A n c, .int .i64 k] G K := by
  refine c_laws_markInt64S_i (by simp) ?_
  simp (maxSteps := 300000) (disch := omega) only [gs, gs2, gs3, gs4, ↓reduceIte, Nat.reduceEqDiff, Int.reduceToNat, Nat.reduceMul, Nat.reduceAdd, Nat.reduceBEq, isLd]
  rcases h with ⟨rfl, rfl, rfl, rfl⟩ | ⟨b, rs, rfl, hb, hl, hc, hnc⟩
  · refine gLoop_intro (fun m T G' => T 0 = .slice none 0 0 ∧ T 1 = .int .i64 k ∧ T 5 = .int .i64 0 ∧ G' = G) 0 ⟨by simp (maxSteps := 300000) (disch := omega) only [gs, gs2, gs3, gs4, ↓reduceIte, Nat.reduceEqDiff, Int.reduceToNat, Nat.reduceMul, Nat.reduceAdd, Nat.reduceBEq, isLd], by simp (maxSteps := 300000) (disch := omega) only [gs, gs2, gs3, gs4, ↓reduceIte, Nat.reduceEqDiff, Int.reduceToNat, Nat.reduceMul, Nat.reduceAdd, Nat.reduceBEq, isLd], by simp (maxSteps := 300000) (disch := omega) only [gs, gs2, gs3, gs4, ↓reduceIte, Nat.reduceEqDiff, Int.reduceToNat, Nat.reduceMul, Nat.reduceAdd, Nat.reduceBEq, isLd], rfl⟩ ?_
    rintro m T G' ⟨e0, e1, e5, rfl⟩
    simp (maxSteps := 300000) (disch := omega) only [gs, gs2, gs3, gs4, ↓reduceIte, Nat.reduceEqDiff, Int.reduceToNat, Nat.reduceMul, Nat.reduceAdd, Nat.reduceBEq, isLd, e0, e1, e5, Int.natCast_zero, Int.lt_irrefl]
    have := hk G' (.inl rfl) (.inl ⟨rfl, rfl, rfl, rfl⟩)
    simpa using this
  · refine gLoop_intro (fun m T G' => ∃ j : Nat, T 0 = .slice (some ⟨b, 0, none⟩) n c ∧ T 1 = .int .i64 (k + j) ∧ T 5 = .int .i64 j ∧ m + j = n ∧ j ≤ n ∧ G' = put G b ⟨(marks k j).map I64 ++ (cs.drop j ++ rs), true⟩) n
      ⟨0, by simp (maxSteps := 300000) (disch := omega) only [gs, gs2, gs3, gs4, ↓reduceIte, Nat.reduceEqDiff, Int.reduceToNat, Nat.reduceMul, Nat.reduceAdd, Nat.reduceBEq, isLd], by simp (maxSteps := 300000) (disch := omega) only [gs, gs2, gs3, gs4, ↓reduceIte, Nat.reduceEqDiff, Int.reduceToNat, Nat.reduceMul, Nat.reduceAdd, Nat.reduceBEq, isLd] <;> simp, by simp (maxSteps := 300000) (disch := omega) only [gs, gs2, gs3, gs4, ↓reduceIte, Nat.reduceEqDiff, Int.reduceToNat, Nat.reduceMul, Nat.reduceAdd, Nat.reduceBEq, isLd] <;> rfl, by omega, by omega, by simp [marks, put_self hb]⟩ ?_
    rintro m T G' ⟨j, e0, e1, e5, hm, hjn, rfl⟩
    simp (maxSteps := 300000) (disch := omega) only [gs, gs2, gs3, gs4, ↓reduceIte, Nat.reduceEqDiff, Int.reduceToNat, Nat.reduceMul, Nat.reduceAdd, Nat.reduceBEq, isLd, e0, e1, e5]
    by_cases hj : (j : Int) < n
    · simp (maxSteps := 300000) (disch := omega) only [gs, gs2, gs3, gs4, ↓reduceIte, Nat.reduceEqDiff, Int.reduceToNat, Nat.reduceMul, Nat.reduceAdd, Nat.reduceBEq, isLd, e0, e1, e5, hj]
      refine st_one (put_same _ _ _) (by simp [marks]; simp at hc; omega) rfl ?_
      simp (maxSteps := 300000) (disch := omega) only [gs, gs2, gs3, gs4, ↓reduceIte, Nat.reduceEqDiff, Int.reduceToNat, Nat.reduceMul, Nat.reduceAdd, Nat.reduceBEq, isLd, e0, e1, e5, put_put']
      refine ⟨m - 1, by omega, _, Sub.refl _, j + 1, by congr 1; omega, rfl, by omega, by omega, ?_⟩
      congr 2
      have hd : cs.drop j = cs[j]'(by omega) :: cs.drop (j + 1) := List.drop_eq_getElem_cons (by omega)
      rw [List.set_append_right _ _ (by simp [marks])]
      simp [marks, List.range_succ, I64]
      rw [hd, List.cons_append, List.set_cons_zero]
    · simp (maxSteps := 300000) (disch := omega) only [gs, gs2, gs3, gs4, ↓reduceIte, Nat.reduceEqDiff, Int.reduceToNat, Nat.reduceMul, Nat.reduceAdd, Nat.reduceBEq, isLd, e0, e1, e5, hj]
      obtain rfl : j = n := by omega
      refine hk _ (.inr ⟨b, _, rfl, by rw [hb]; simp, rfl⟩) (.inr ⟨b, cs.drop j ++ rs, rfl, put_same _ _ _, by simp [marks], ?_, hnc⟩)
      rw [List.drop_eq_nil_of_le (by omega), List.nil_append]
      simp [marks] at hc ⊢; omega
theorem laws_markEdgeS_ok {G : GH} {A : Option Addr} {c n : Nat} {k : Int} {cs : List Value} (h : Own G A c cs 3 n) (hn : n ≤ 2 ^ 40) (hk0 : 0 ≤ k ∧ k ≤ 2 ^ 40) {K : Value → GH → Prop}
    (hk : ∀ G', Upd G G' A → K (.int .i64 (k + 3 * n)) G') : GC Try.prog 106 [.slice A n c, .int .i64 k] G K := by
  refine c_laws_markEdgeS_i (by simp) ?_
  simp (maxSteps := 300000) (disch := omega) only [gs, gs2, gs3, gs4, ↓reduceIte, Nat.reduceEqDiff, Int.reduceToNat, Nat.reduceMul, Nat.reduceAdd, Nat.reduceBEq, isLd]
  rcases h with ⟨rfl, rfl, rfl, rfl⟩ | ⟨b, rs, rfl, hb, hl, hc, hnc⟩
  · refine gLoop_intro (fun m T G' => T 0 = .slice none 0 0 ∧ T 1 = .int .i64 k ∧ T 5 = .int .i64 0 ∧ G' = G) 0 ⟨by simp (maxSteps := 300000) (disch := omega) only [gs, gs2, gs3, gs4, ↓reduceIte, Nat.reduceEqDiff, Int.reduceToNat, Nat.reduceMul, Nat.reduceAdd, Nat.reduceBEq, isLd], by simp (maxSteps := 300000) (disch := omega) only [gs, gs2, gs3, gs4, ↓reduceIte, Nat.reduceEqDiff, Int.reduceToNat, Nat.reduceMul, Nat.reduceAdd, Nat.reduceBEq, isLd], by simp (maxSteps := 300000) (disch := omega) only [gs, gs2, gs3, gs4, ↓reduceIte, Nat.reduceEqDiff, Int.reduceToNat, Nat.reduceMul, Nat.reduceAdd, Nat.reduceBEq, isLd], rfl⟩ ?_
    rintro m T G' ⟨e0, e1, e5, rfl⟩
    simp (maxSteps := 300000) (disch := omega) only [gs, gs2, gs3, gs4, ↓reduceIte, Nat.reduceEqDiff, Int.reduceToNat, Nat.reduceMul, Nat.reduceAdd, Nat.reduceBEq, isLd, e0, e1, e5, Int.natCast_zero, Int.lt_irrefl]
    have := hk G' (.inl rfl)
    simpa using this
  · refine gLoop_intro (fun m T G' => ∃ (j : Nat) (cs' : List Value), T 0 = .slice (some ⟨b, 0, none⟩) n c ∧ T 1 = .int .i64 (k + 3 * j) ∧ T 5 = .int .i64 j ∧ m + j = n ∧ j ≤ n ∧ cs'.length = c * 3 ∧ G' = put G b ⟨cs', true⟩) n
      ⟨0, cs ++ rs, by simp (maxSteps := 300000) (disch := omega) only [gs, gs2, gs3, gs4, ↓reduceIte, Nat.reduceEqDiff, Int.reduceToNat, Nat.reduceMul, Nat.reduceAdd, Nat.reduceBEq, isLd], by simp (maxSteps := 300000) (disch := omega) only [gs, gs2, gs3, gs4, ↓reduceIte, Nat.reduceEqDiff, Int.reduceToNat, Nat.reduceMul, Nat.reduceAdd, Nat.reduceBEq, isLd] <;> simp, by simp (maxSteps := 300000) (disch := omega) only [gs, gs2, gs3, gs4, ↓reduceIte, Nat.reduceEqDiff, Int.reduceToNat, Nat.reduceMul, Nat.reduceAdd, Nat.reduceBEq, isLd] <;> rfl, by omega, by omega, hc, (put_self hb).symm⟩ ?_
    rintro m T G' ⟨j, cs', e0, e1, e5, hm, hjn, hcl, rfl⟩
    simp (maxSteps := 300000) (disch := omega) only [gs, gs2, gs3, gs4, ↓reduceIte, Nat.reduceEqDiff, Int.reduceToNat, Nat.reduceMul, Nat.reduceAdd, Nat.reduceBEq, isLd, e0, e1, e5]
    by_cases hj : (j : Int) < n
    · simp (maxSteps := 300000) (disch := omega) only [gs, gs2, gs3, gs4, ↓reduceIte, Nat.reduceEqDiff, Int.reduceToNat, Nat.reduceMul, Nat.reduceAdd, Nat.reduceBEq, isLd, e0, e1, e5, hj]
      refine st_one (put_same _ _ _) (by omega) rfl ?_
      simp (maxSteps := 300000) (disch := omega) only [gs, gs2, gs3, gs4, ↓reduceIte, Nat.reduceEqDiff, Int.reduceToNat, Nat.reduceMul, Nat.reduceAdd, Nat.reduceBEq, isLd, e0, e1, e5, put_put']
      refine st_one (put_same _ _ _) (by rw [List.length_set]; omega) rfl ?_
      simp (maxSteps := 300000) (disch := omega) only [gs, gs2, gs3, gs4, ↓reduceIte, Nat.reduceEqDiff, Int.reduceToNat, Nat.reduceMul, Nat.reduceAdd, Nat.reduceBEq, isLd, e0, e1, e5, put_put']
      refine st_one (put_same _ _ _) (by rw [List.length_set, List.length_set]; omega) rfl ?_
      simp (maxSteps := 300000) (disch := omega) only [gs, gs2, gs3, gs4, ↓reduceIte, Nat.reduceEqDiff, Int.reduceToNat, Nat.reduceMul, Nat.reduceAdd, Nat.reduceBEq, isLd, e0, e1, e5, put_put']
      exact ⟨m - 1, by omega, _, Sub.refl _, j + 1, _, by congr 1; omega, rfl, by omega, by omega, by rw [List.length_set, List.length_set, List.length_set]; exact hcl, rfl⟩
    · simp (maxSteps := 300000) (disch := omega) only [gs, gs2, gs3, gs4, ↓reduceIte, Nat.reduceEqDiff, Int.reduceToNat, Nat.reduceMul, Nat.reduceAdd, Nat.reduceBEq, isLd, e0, e1, e5, hj]
      obtain rfl : j = n := by omega
      exact hk _ (.inr ⟨b, _, rfl, by rw [hb]; simp, rfl⟩)
theorem own_ne {G : GH} {A : Option Addr} {c sz n : Nat} {cs : List Value} (h : Own G A c cs sz n) : ∀ a, A = some a → G a.block ≠ none := fun a ha => by
  rcases h with ⟨h, _⟩ | ⟨b, r, h1, h2, _⟩
  · rw [h] at ha; cases ha
  · rw [h1] at ha; cases ha; rw [h2]; simp
theorem laws_markGraph_ok {G : GH} {N : Gra} {A : Option Addr} {c : Nat} {k : Int} {cs : List Value} (h : Own G A c cs 3 N.edges.length) (hn : N.edges.length ≤ 2 ^ 40) (hk0 : 0 ≤ k ∧ k ≤ 2 ^ 40) {K : Value → GH → Prop}
    (hk : ∀ G' l, k ≤ l → l ≤ k + 3 * N.edges.length → Upd G G' A → K (.int .i64 l) G') : GC Try.prog 33 [graV N A c, .int .i64 k] G K := by
  refine GC_drop (c_laws_markGraph_i (by simp) ?_)
  unfold graV graC
  simp (maxSteps := 300000) (disch := omega) only [gs, gs2, gs3, gs4, ↓reduceIte, Nat.reduceEqDiff, Int.reduceToNat, Nat.reduceMul, Nat.reduceAdd, Nat.reduceBEq, isLd]
  intro b1 hb1
  simp (maxSteps := 300000) (disch := omega) only [gs, gs2, gs3, gs4, ↓reduceIte, Nat.reduceEqDiff, Int.reduceToNat, Nat.reduceMul, Nat.reduceAdd, Nat.reduceBEq, isLd]
  refine laws_markEdgeS_ok (h.sub (Sub.put hb1 _)) hn hk0 fun G' u => ?_
  simp (maxSteps := 300000) (disch := omega) only [gs, gs2, gs3, gs4, ↓reduceIte, Nat.reduceEqDiff, Int.reduceToNat, Nat.reduceMul, Nat.reduceAdd, Nat.reduceBEq, isLd]
  obtain ⟨G'', s, u'⟩ := u.drop hb1 (own_ne h)
  exact ⟨G'', s, hk _ _ (by omega) (by omega) u'⟩
theorem laws_toGraph_new {G : GH} {N : Gra} {A : Option Addr} {c : Nat} (h : T3S G A c N.edges) (hl : N.edges.length ≤ 2 ^ 20) {K : Value → GH → Prop}
    (hk : ∀ A' G', New G G' A' N.edges.length (flat3 N.edges) 3 N.edges.length → K (graV N A' N.edges.length) G') : GC Try.prog 28 [graV N A c] G K :=
  laws_toGraph_ok h hl fun b hb => hk _ _ (New.mk hb _ 3 _ (flat3_len _))
theorem laws_toInt64S_new {G : GH} {A : Option Addr} {c : Nat} {N : List Int} (h : IntS G A c N) (hl : N.length ≤ 2 ^ 20) {K : Value → GH → Prop}
    (hk : ∀ A' G', New G G' A' N.length (N.map I64) 1 N.length → K (.slice A' N.length N.length) G') : GC Try.prog 29 [.slice A N.length c] G K :=
  laws_toInt64S_ok h hl fun b hb => hk _ _ (New.mk hb _ 1 _ (by simp))
theorem Own.t3 {G : GH} {A : Option Addr} {c : Nat} {es : List T3} (h : Own G A c (flat3 es) 3 es.length) : T3S G A c es := h.cells.t3 h.cap
theorem Own.mk {G : GH} {A : Option Addr} {c n : Nat} {k : Int} (h : Own G A c ((marks k n).map I64) 1 n) : IntS G A c (marks k n) := ⟨by rw [marks_len]; exact h.cap, cells_int' h.cells⟩
/-- a box of one's own is a memory apart. -/
theorem box_rest {G : GH} {b : Nat} {cs : List Value} (hb : G b = none) : ∀ (k : Nat) v, cs[k]? = some v → rd (rest G (put G b ⟨cs, true⟩)) (some ⟨b, k, none⟩) = some v := fun k v hv => by
  have : rest G (put G b ⟨cs, true⟩) b = some ⟨cs, true⟩ := rest_some.2 ⟨hb, put_same _ _ _⟩
  simp [rd, this, hv]
theorem Own.len {G : GH} {A : Option Addr} {c sz n : Nat} {cs : List Value} (h : Own G A c cs sz n) : cs.length = n * sz := by
  rcases h with ⟨_, _, rfl, rfl⟩ | ⟨b, r, _, _, h, _⟩
  · simp
  · exact h
theorem ap_own {G : GH} {A B : Option Addr} {c n m d sz bytes : Nat} {z cs news : List Value} {K : Value → GH → Prop} (h : Own G A c cs sz n) (hnews : Cells G B news) (hm : news.length = m * sz) (h1 : ∀ v ∈ news, oneB v = true)
    (hz : z.length = sz) (hsz : 0 < sz) (hb : bytes ≤ 4096) (hlen : n + m < 2 ^ 33) (hk : ∀ G' A' c', Own G' A' c' (cs ++ news) sz (n + m) → (∀ H, Sub H G → Off H A → Sub H G' ∧ Off H A') → K (.slice A' (n + m) c') G') :
    gAp sz bytes z (.slice A n c) (.slice B m d) G K := by
  refine ⟨A, n, c, B, m, d, cs, news, rfl, rfl, h.len, fun j v hj => h.cells j v hj, hm, hnews, h1, ?_, by omega, fun hle => ?_, fun hlt b c' hb hc => ?_⟩
  · have : 2 * (n + m) * bytes ≤ 2 * 2 ^ 33 * 4096 := Nat.mul_le_mul (by omega) hb
    omega
  · rcases h with ⟨rfl, rfl, rfl, rfl⟩ | ⟨b, rest, rfl, hb, hcs, hrest, hnc⟩
    · obtain rfl : m = 0 := by omega
      have hn : news = [] := by simpa using hm
      subst hn
      exact .inl ⟨rfl, G, Sub.refl _, hk G none 0 (.inl ⟨rfl, rfl, rfl, rfl⟩) fun H s o => ⟨s, o⟩⟩
    · have hfit : (n + m) * sz ≤ c * sz := Nat.mul_le_mul_right _ hle
      rw [List.length_append] at hrest
      have hfit' := hfit
      rw [Nat.add_mul] at hfit'
      have ho : over (cs ++ rest) (0 + n * sz) news = cs ++ news ++ rest.drop news.length := by
        have := over_app news cs rest
        rw [if_pos (by omega)] at this
        rw [Nat.zero_add, ← hcs]; exact this
      refine .inr ⟨b, 0, cs ++ rest, rfl, hb, by rw [List.length_append]; omega, _, Sub.refl _, hk _ _ _ (.inr ⟨b, rest.drop news.length, rfl, by rw [put_same, ho], by simp [hcs, hm, Nat.add_mul], ?_, hle⟩) fun H s o => ⟨s.skip (o _ rfl), o⟩⟩
      simp only [List.length_append, List.length_drop]
      omega
  · have hcs := h.len
    refine ⟨_, Sub.refl _, hk _ _ _ (.inr ⟨b, zc z (c' - (n + m)), rfl, put_same _ _ _, by simp [hcs, hm, Nat.add_mul], ?_, hc⟩) fun H s o => ⟨s.skip (s.none hb), fun a ha => by cases ha; exact s.none hb⟩⟩
    have e1 : (zc z (c' - (n + m))).length = (c' - (n + m)) * sz := by simp [zc, hz]
    rw [List.length_append, e1, List.length_append, hcs, hm, ← Nat.add_mul, ← Nat.add_mul]
    congr 1; omega
theorem New.low {G H G' : GH} {A : Option Addr} {c sz n : Nat} {cs : List Value} (h : New G G' A c cs sz n) (s : Sub H G) : ∃ G'', Sub G'' G' ∧ New H G'' A c cs sz n := by
  rcases h with ⟨h1, h2, h3, h4, rfl⟩ | ⟨b, r, h1, h2, rfl, h3⟩
  · exact ⟨H, s, .inl ⟨h1, h2, h3, h4, rfl⟩⟩
  · exact ⟨put H b ⟨cs ++ r, true⟩, Sub.both s, .inr ⟨b, r, h1, s.none h2, rfl, h3⟩⟩
theorem Own.new {G H : GH} {A : Option Addr} {c sz n : Nat} {cs : List Value} (h : Own G A c cs sz n) (s : Sub H G) (o : Off H A) : ∃ G'', Sub G'' G ∧ New H G'' A c cs sz n := by
  rcases h with ⟨h1, h2, h3, h4⟩ | ⟨b, r, h1, h2, h3⟩
  · exact ⟨H, s, .inl ⟨h1, h2, h3, h4, rfl⟩⟩
  · exact ⟨put H b ⟨cs ++ r, true⟩, Sub.of_put s h2, .inr ⟨b, r, h1, o _ h1, rfl, h3⟩⟩
theorem Own.blk {G : GH} {b : Nat} {cs : List Value} {sz n : Nat} (h : G b = some ⟨cs, true⟩) (hl : cs.length = n * sz) : Own G (some ⟨b, 0, none⟩) n cs sz n :=
  .inr ⟨b, [], rfl, by simpa using h, hl, by simpa using hl, Nat.le_refl _⟩
theorem New.fresh {G G' : GH} {A : Option Addr} {c sz n : Nat} {cs : List Value} (h : New G G' A c cs sz n) : Own G' A c cs sz n := h.own.sub (Sub.rest _ _)
theorem blk_ne {G : GH} {a b : Nat} {e : Ent} (h : G a = some e) (k : G b = none) : a ≠ b := fun x => by rw [x, k] at h; cases h
theorem Own.ints' {G : GH} {A : Option Addr} {c n : Nat} {xs : List Int} (h : Own G A c (xs.map I64) 1 n) (hn : n = xs.length) : IntS G A c xs := by subst hn; exact h.ints
theorem Off.nil (H : GH) : Off H none := fun a ha => by cases ha
theorem Own.cast {G : GH} {A : Option Addr} {c sz n : Nat} {cs cs' : List Value} (h : Own G A c cs sz n) (e : cs = cs') {n' : Nat} (en : n = n') : Own G A c cs' sz n' := e ▸ en ▸ h
theorem Own.nil (G : GH) (sz : Nat) : Own G none 0 [] sz 0 := .inl ⟨rfl, rfl, rfl, rfl⟩
theorem New.sn {G G' : GH} {A : Option Addr} {c sz n : Nat} {cs : List Value} (h : New G G' A c cs sz n) (hn : 0 < n) : 0 < Gh.sn A := by
  rcases h with ⟨_, _, h0, _, _⟩ | ⟨b, r, rfl, _⟩
  · omega
  · simp [Gh.sn]
/-- a cell of a new list is written. -/
theorem New.store {G G' : GH} {A : Option Addr} {c n : Nat} {cs : List Value} (h : New G G' A c cs 1 n) {k : Nat} {v : Value} {K : Value → GH → Prop} (hk : k < n) (hv : oneB v = true) (hK : ∀ G'', New G G'' A c (cs.set k v) 1 n → K undef G'') : gSt 1 (.pointer (pa A k)) v G' K := by
  rcases h with ⟨_, _, h0, _, _⟩ | ⟨b, r, rfl, h2, rfl, h3, h4, h5⟩
  · omega
  · rw [pa_mk, Nat.zero_add]
    refine st_one (put_same _ _ _) (by rw [h4]; omega) hv ?_
    rw [put_put', List.set_append_left _ _ (by omega)]
    exact hK _ (.inr ⟨b, r, rfl, h2, rfl, by simpa using h3, by simpa using h4, h5⟩)
/-- the result of a function that returns a list and a code. -/
abbrev LI (v : List Int × Int) (K : Value → GH → Prop) (G : GH) : Prop := ∀ G' A c, New G G' A c (v.1.map I64) 1 v.1.length → K (.tuple [.slice A v.1.length c, .int .i64 v.2].toArray) G'
theorem IntS.cells {G : GH} {A : Option Addr} {c : Nat} {xs : List Int} (h : IntS G A c xs) : Cells G A (xs.map I64) := fun i v hv => by
  rw [List.getElem?_map] at hv
  obtain ⟨x, hx, rfl⟩ := Option.map_eq_some_iff.1 hv
  have hi := (List.getElem?_eq_some_iff.1 hx).1
  rw [h.rd i hi]
  simp [List.getD, hx, I64]
theorem map_one (xs : List Int) : ∀ v ∈ xs.map I64, oneB v = true := by
  intro v hv
  obtain ⟨x, _, rfl⟩ := List.mem_map.1 hv
  rfl
theorem spec_l00Own_ok {G : GH} {A : Option Addr} {c : Nat} {xs : List Int} (h : IntS G A c xs) (hl : xs.length < 2 ^ 30) {K : Value → GH → Prop}
    (hk : ∀ G' A' c', New G G' A' c' (xs.map I64) 1 xs.length → K (.slice A' xs.length c') G') : GC Try.prog 109 [.slice A xs.length c] G K := by
  refine c_spec_l00Own_i (by simp) ?_
  simp (maxSteps := 300000) (disch := omega) only [gs, gs2, gs3, gs4, ↓reduceIte, Nat.reduceEqDiff, Int.reduceToNat, Nat.reduceMul, Nat.reduceAdd, Nat.reduceBEq, isLd, gBs]
  refine ⟨by intro v hv; simp at hv, fun b hb => ?_⟩
  refine ap_new (New.mk hb [] 1 0 rfl) (Sub.refl _) (h.sub (Sub.put hb _)).cells (by simp) (map_one xs) rfl (by omega) (by omega) (by omega) fun G'' A' c' hN => ?_
  simp (maxSteps := 300000) (disch := omega) only [gs, gs2, gs3, gs4, ↓reduceIte, Nat.reduceEqDiff, Int.reduceToNat, Nat.reduceMul, Nat.reduceAdd, Nat.reduceBEq, isLd]
  simpa using hk _ _ _ (hN.cast (by simp) (by simp))
theorem slices_Clone_ok {G : GH} {A : Option Addr} {c : Nat} {xs : List Int} (h : IntS G A c xs) (hl : xs.length < 2 ^ 30) {K : Value → GH → Prop}
    (hk : ∀ G' A' c', New G G' A' c' (xs.map I64) 1 xs.length → K (.slice A' xs.length c') G') : GC Try.prog 123 [.slice A xs.length c] G K := by
  refine c_slices_Clone_int64_int64_i (by simp) ?_
  cases A with
  | none =>
    have h0 : xs.length = 0 := by
      rcases Nat.eq_zero_or_pos xs.length with h0 | h0
      · exact h0
      · have := h.sn h0; simp [sn] at this
    obtain rfl : xs = [] := List.length_eq_zero_iff.1 h0
    simp (maxSteps := 300000) (disch := omega) only [gs, gs2, gs3, gs4, ↓reduceIte, Nat.reduceEqDiff, Int.reduceToNat, Nat.reduceMul, Nat.reduceAdd, Nat.reduceBEq, isLd, Option.isNone_none]
    exact hk G none 0 (New.nil _ _)
  | some a =>
    simp (maxSteps := 300000) (disch := omega) only [gs, gs2, gs3, gs4, ↓reduceIte, Nat.reduceEqDiff, Int.reduceToNat, Nat.reduceMul, Nat.reduceAdd, Nat.reduceBEq, isLd, Option.isNone_some, gBs]
    refine ⟨by intro v hv; simp at hv, fun b hb => ?_⟩
    refine ap_new (New.mk hb [] 1 0 rfl) (Sub.refl _) (h.sub (Sub.put hb _)).cells (by simp) (map_one xs) rfl (by omega) (by omega) (by omega) fun G'' A' c' hN => ?_
    simp (maxSteps := 300000) (disch := omega) only [gs, gs2, gs3, gs4, ↓reduceIte, Nat.reduceEqDiff, Int.reduceToNat, Nat.reduceMul, Nat.reduceAdd, Nat.reduceBEq, isLd]
    simpa using hk _ _ _ (hN.cast (by simp) (by simp))
def SetOk (N : Gra) (xs : List Int) : Prop := InB xs 0 (N.n - 1) ∧ Rise xs
theorem impl_isSet_ok {G : GH} {N : Gra} {A B : Option Addr} {c d : Nat} {xs : List Int} (hf : IntS G B d xs) (hn : GraOk N) (hl : xs.length < 2 ^ 40) {K : Value → GH → Prop}
    (hk : ∀ b : Bool, (b = true ↔ SetOk N xs) → K (.bool b) G) : GC Try.prog 135 [graV N A c, .slice B xs.length d] G K := by
  refine GC_drop (c_impl_isSet_i (by simp) ?_)
  have hn1 := hn.1
  unfold graV graC
  simp (maxSteps := 300000) (disch := omega) only [gs, gs2, gs3, gs4, ↓reduceIte, Nat.reduceEqDiff, Int.reduceToNat, Nat.reduceMul, Nat.reduceAdd, Nat.reduceBEq, isLd]
  intro b2 hb2
  have s1 := Sub.put hb2 ⟨[.int .i64 N.n, .slice A N.edges.length c], true⟩
  simp (maxSteps := 300000) (disch := omega) only [gs, gs2, gs3, gs4, ↓reduceIte, Nat.reduceEqDiff, Int.reduceToNat, Nat.reduceMul, Nat.reduceAdd, Nat.reduceBEq, isLd]
  refine impl_isRising_ok (hf.sub s1) hl fun b hb => ?_
  cases b
  · simp (maxSteps := 300000) (disch := omega) only [gs, gs2, gs3, gs4, ↓reduceIte, Nat.reduceEqDiff, Int.reduceToNat, Nat.reduceMul, Nat.reduceAdd, Nat.reduceBEq, isLd]
    exact ⟨G, s1, hk false (by simp only [Bool.false_eq_true, false_iff] at hb ⊢; exact fun x => hb x.2)⟩
  · simp (maxSteps := 300000) (disch := omega) only [gs, gs2, gs3, gs4, ↓reduceIte, Nat.reduceEqDiff, Int.reduceToNat, Nat.reduceMul, Nat.reduceAdd, Nat.reduceBEq, isLd]
    refine impl_areElements_ok (hf.sub s1) hl fun b' hb' => ?_
    simp (maxSteps := 300000) (disch := omega) only [gs, gs2, gs3, gs4, ↓reduceIte, Nat.reduceEqDiff, Int.reduceToNat, Nat.reduceMul, Nat.reduceAdd, Nat.reduceBEq, isLd]
    have hw : IntKind.i64.wrap (N.n - 1) = N.n - 1 := w64 _ (by omega) (by omega)
    rw [hw] at hb'
    exact ⟨G, s1, hk b' (by rw [hb']; exact ⟨fun x => ⟨x, hb.1 rfl⟩, fun x => x.1⟩)⟩
theorem spec_l16Set_ok {G : GH} {q : Option Addr} {N : Gra} {A B : Option Addr} {c d : Nat} {xs : List Int} (h : GraP G q N A c) (hf : IntS G B d xs) (hn : GraOk N) (hl : xs.length < 2 ^ 40) {K : Value → GH → Prop}
    (hk : ∀ b : Bool, (b = true ↔ SetOk N xs) → K (.bool b) G) : GC Try.prog 132 [.pointer q, .slice B xs.length d] G K := by
  refine c_spec_l16Set_i (by simp) ?_
  have hn1 := hn.1
  have hq := rd_some h.f0
  have f0 := h.f0
  simp (maxSteps := 300000) (disch := omega) only [gs, gs2, gs3, gs4, ↓reduceIte, Nat.reduceEqDiff, Int.reduceToNat, Nat.reduceMul, Nat.reduceAdd, Nat.reduceBEq, isLd, f0]
  refine spec_l00Rises_ok hf hl fun b hb => ?_
  simp (maxSteps := 300000) (disch := omega) only [gs, gs2, gs3, gs4, ↓reduceIte, Nat.reduceEqDiff, Int.reduceToNat, Nat.reduceMul, Nat.reduceAdd, Nat.reduceBEq, isLd]
  exact hk b hb
/-- what can still be sent. -/
def left (es : List T3) (t : Int) (fl : List Int) : Nat := (24000000 - exc es fl t es.length).toNat
theorem mulB {a b : Int} {A B : Nat} (ha : -(A : Int) ≤ a ∧ a ≤ A) (hb : -(B : Int) ≤ b ∧ b ≤ B) : -((A * B : Nat) : Int) ≤ a * b ∧ a * b ≤ ((A * B : Nat) : Int) := by
  have h1 : a.natAbs ≤ A := by omega
  have h2 : b.natAbs ≤ B := by omega
  have h3 : (a * b).natAbs ≤ A * B := by rw [Int.natAbs_mul]; exact Nat.mul_le_mul h1 h2
  omega
/-- one cell of one's own block is written: all else stays. -/
def Keep (b : Nat) (G G' : GH) : Prop := ∀ x, x ≠ b → G' x = G x
theorem rd_fcells {G : GH} {b n : Nat} {f : Int → Int} (h : G b = some ⟨fcells n f, true⟩) {v : Int} (h0 : 0 ≤ v) (h1 : v < n) : rd G (some ⟨b, v.toNat, none⟩) = some (.int .i64 (f v)) := by
  simp only [rd, h, Option.bind_some]
  have := fcells_get (b := f) (rest := []) h0 h1
  rw [List.append_nil] at this; exact this
theorem st_fcells {G : GH} {b n : Nat} {f : Int → Int} (h : G b = some ⟨fcells n f, true⟩) {v x : Int} (h0 : 0 ≤ v) (h1 : v < n) {K : Value → GH → Prop} (hk : ∀ G', G' b = some ⟨fcells n (updAt f v x), true⟩ → Keep b G G' → K undef G') : gSt 1 (.pointer (some ⟨b, v.toNat, none⟩)) (.int .i64 x) G K := by
  refine st_one h (by rw [fcells_len]; omega) rfl (hk _ ?_ fun y hy => put_ne _ _ hy)
  rw [put_same]
  have := fcells_set (b := f) (rest := []) (x := x) h0 h1
  rw [List.append_nil, List.append_nil] at this
  rw [this]; rfl
theorem rd_keep {b : Nat} {G G' : GH} (h : Keep b G G') {y o : Nat} {v : Value} (hy : y ≠ b) (hr : rd G (some ⟨y, o, none⟩) = some v) : rd G' (some ⟨y, o, none⟩) = some v := by
  simp only [rd] at hr ⊢; rw [h y hy]; exact hr
theorem sub_keep {b : Nat} {G G' H : GH} (h : Keep b G G') (hb : H b = none) (s : Sub H G) : Sub H G' := fun x e hx => by
  have : x ≠ b := fun e' => by rw [e', hb] at hx; cases hx
  rw [h x this]; exact s x e hx
theorem lapK_bd {es : List T3} (h : okE es) (hw : ∀ i, i < es.length → 0 ≤ (es.getD i z3).2.2 ∧ (es.getD i z3).2.2 ≤ 9) (i j : Int) : ∀ k : Nat, k ≤ es.length → -(9 * (k : Int)) ≤ lapK es k i j ∧ lapK es k i j ≤ 9 * k
  | 0, _ => by simp [lapK]
  | k + 1, hk => by
    have ih := lapK_bd h hw i j k (by omega)
    have h1 := h.1 k (by omega)
    have h2 := hw k (by omega)
    rw [lapK_step h (by omega)]
    (repeat' split) <;> omega
def mxO (B : Nat → Nat) (n m : Nat) : List Value := (List.range n).map fun i => if i < m then .slice (some ⟨B i, 0, none⟩) n n else .slice none 0 0
structure Mx (G0 G : GH) (bO : Nat) (B : Nat → Nat) (n m : Nat) (f : Int → Int → Int) : Prop where
  sub : Sub G0 G
  nO : G0 bO = none
  o : G bO = some ⟨mxO B n m, true⟩
  nB : ∀ i, i < m → G0 (B i) = none
  b : ∀ i : Nat, i < m → G (B i) = some ⟨fcells n (f i), true⟩
  inj : ∀ i j, i < m → j < m → B i = B j → i = j
  ne : ∀ i, i < m → B i ≠ bO
theorem mxO_get {B : Nat → Nat} {n m i : Nat} (h : i < n) : (mxO B n m)[i]? = some (if i < m then .slice (some ⟨B i, 0, none⟩) n n else .slice none 0 0) := range_get _ _ _ h
theorem mxO_len (B : Nat → Nat) (n m : Nat) : (mxO B n m).length = n := by simp [mxO]
theorem Mx.row {G0 G : GH} {bO n m : Nat} {B : Nat → Nat} {f : Int → Int → Int} (h : Mx G0 G bO B n m f) {i : Nat} (hi : i < m) (hn : i < n) : rd G (some ⟨bO, i, none⟩) = some (.slice (some ⟨B i, 0, none⟩) n n) := by
  simp only [rd, h.o, Option.bind_some]; rw [mxO_get hn, if_pos hi]
theorem Mx.get {G0 G : GH} {bO n m : Nat} {B : Nat → Nat} {f : Int → Int → Int} (h : Mx G0 G bO B n m f) {u v : Int} (hu : 0 ≤ u) (hi : u < m) (h0 : 0 ≤ v) (h1 : v < n) : rd G (some ⟨B u.toNat, v.toNat, none⟩) = some (.int .i64 (f u v)) := by
  have := rd_fcells (h.b u.toNat (by omega)) h0 h1
  rw [Int.toNat_of_nonneg hu] at this; exact this
theorem Mx.low {H G0 G : GH} {bO n m : Nat} {B : Nat → Nat} {f : Int → Int → Int} (h : Mx G0 G bO B n m f) (s : Sub H G0) : Mx H G bO B n m f := ⟨s.trans h.sub, s.none h.nO, h.o, fun i hi => s.none (h.nB i hi), h.b, h.inj, h.ne⟩
theorem Mx.box {G0 G : GH} {bO n m x : Nat} {B : Nat → Nat} {f : Int → Int → Int} (h : Mx G0 G bO B n m f) (hx : G x = none) (e : Ent) : Mx (put G0 x e) (put G x e) bO B n m f := by
  have hO : bO ≠ x := blk_ne h.o hx
  have hB : ∀ i, i < m → B i ≠ x := fun i hi => blk_ne (h.b i hi) hx
  exact ⟨h.sub.both, by rw [put_ne _ _ hO]; exact h.nO, by rw [put_ne _ _ hO]; exact h.o, fun i hi => by rw [put_ne _ _ (hB i hi)]; exact h.nB i hi, fun i hi => by rw [put_ne _ _ (hB i hi)]; exact h.b i hi, h.inj, h.ne⟩
theorem Mx.store {G0 G : GH} {bO n m : Nat} {B : Nat → Nat} {f : Int → Int → Int} (h : Mx G0 G bO B n m f) {u v x : Int} (hu : 0 ≤ u) (hi : u < m) (h0 : 0 ≤ v) (h1 : v < n) {K : Value → GH → Prop} (hk : ∀ G', Mx G0 G' bO B n m (upd2 f u v x) → K undef G') : gSt 1 (.pointer (some ⟨B u.toNat, v.toNat, none⟩)) (.int .i64 x) G K := by
  have hu' : ((u.toNat : Nat) : Int) = u := Int.toNat_of_nonneg hu
  refine st_fcells (h.b u.toNat (by omega)) h0 h1 fun G' hF hK => hk G' ?_
  refine ⟨sub_keep hK (h.nB _ (by omega)) h.sub, h.nO, by rw [hK _ (h.ne _ (by omega)).symm]; exact h.o, h.nB, fun i hi' => ?_, h.inj, h.ne⟩
  by_cases e : i = u.toNat
  · subst e
    rw [hF, hu']
    congr 3
    funext b
    simp [updAt, upd2]
  · rw [hK _ (fun x => e (h.inj _ _ hi' (by omega) x)), h.b i hi']
    congr 3
    funext b
    unfold upd2; rw [if_neg (by omega)]
theorem Mx.add {G0 G : GH} {bO n m b : Nat} {B : Nat → Nat} (h : Mx G0 G bO B n m (fun _ _ => 0)) (hm : m < n) (hb : G b = none) :
    Mx G0 (put (put G b ⟨fcells n (fun _ => 0), true⟩) bO ⟨(mxO B n m).set m (.slice (some ⟨b, 0, none⟩) n n), true⟩) bO (fun i => if i = m then b else B i) n (m + 1) (fun _ _ => 0) := by
  have hO : bO ≠ b := blk_ne h.o hb
  have hB : ∀ i, i < m → B i ≠ b := fun i hi => blk_ne (h.b i hi) hb
  refine ⟨?_, h.nO, ?_, fun i hi => ?_, fun i hi => ?_, fun i j hi hj e => ?_, fun i hi => ?_⟩
  · exact (h.sub.skip (h.sub.none hb)).skip h.nO
  · rw [put_same]
    congr 2
    unfold mxO
    rw [range_set]
    refine range_cong fun i hi => ?_
    by_cases e : i = m
    · subst e; simp
    · by_cases e2 : i < m
      · rw [if_neg e, if_pos e2, if_pos (by omega)]; simp only [if_neg e]
      · rw [if_neg e, if_neg e2, if_neg (by omega)]
  · by_cases e : i = m
    · subst e; simp only [if_pos]; exact h.sub.none hb
    · simp only [if_neg e]; exact h.nB i (by omega)
  · by_cases e : i = m
    · subst e; simp only [if_pos]; rw [put_ne _ _ hO.symm, put_same]
    · simp only [if_neg e]; rw [put_ne _ _ (h.ne i (by omega)), put_ne _ _ (hB i (by omega))]; exact h.b i (by omega)
  · try dsimp only at e
    by_cases e1 : i = m
    · by_cases e2 : j = m
      · omega
      · rw [if_pos e1, if_neg e2] at e; exact absurd e.symm (hB j (by omega))
    · by_cases e2 : j = m
      · rw [if_neg e1, if_pos e2] at e; exact absurd e (hB i (by omega))
      · rw [if_neg e1, if_neg e2] at e; exact h.inj i j (by omega) (by omega) e
  · by_cases e : i = m
    · subst e; simp only [if_pos]; exact hO.symm
    · simp only [if_neg e]; exact h.ne i (by omega)
theorem Mx.new {G : GH} {bO n : Nat} (hb : G bO = none) (f : Int → Int → Int) : Mx G (put G bO ⟨List.replicate n (.slice none 0 0), true⟩) bO (fun _ => 0) n 0 f :=
  ⟨Sub.put hb _, hb, by rw [put_same, rep_range]; rfl, fun i hi => by omega, fun i hi => by omega, fun i j hi hj => by omega, fun i hi => by omega⟩
theorem impl_laplacian_ok {G : GH} {N : Gra} {A : Option Addr} {c : Nat} (h : T3S G A c N.edges) (hn : GraOk N) {K : Value → GH → Prop}
    (hk : ∀ G' bO B, Mx G G' bO B N.n.toNat N.n.toNat (lapK N.edges N.edges.length) → K (.slice (some ⟨bO, 0, none⟩) N.n.toNat N.n.toNat) G') : GC Try.prog 148 [graV N A c] G K := by
  refine GC_drop (c_impl_laplacian_i (by simp) ?_)
  have hn1 := hn.1
  have hn4 := hn.2.2.2
  unfold graV graC
  simp (maxSteps := 300000) (disch := omega) only [gs, gs2, gs3, gs4, ↓reduceIte, Nat.reduceEqDiff, Int.reduceToNat, Nat.reduceMul, Nat.reduceAdd, Nat.reduceBEq, isLd]
  intro b1 hb1
  have s1 := Sub.put hb1 ⟨[.int .i64 N.n, .slice A N.edges.length c], true⟩
  have f0 : rd (put G b1 ⟨[.int .i64 N.n, .slice A N.edges.length c], true⟩) (some ⟨b1, 0, none⟩) = some (.int .i64 N.n) := rd_box _ _ _ 0 _ rfl
  have f1 : rd (put G b1 ⟨[.int .i64 N.n, .slice A N.edges.length c], true⟩) (some ⟨b1, 1, none⟩) = some (.slice A N.edges.length c) := rd_box _ _ _ 1 _ rfl
  revert s1 f0 f1
  generalize put G b1 ⟨[.int .i64 N.n, .slice A N.edges.length c], true⟩ = G1
  intro s1 f0 f1
  simp (maxSteps := 300000) (disch := omega) only [gs, gs2, gs3, gs4, ↓reduceIte, Nat.reduceEqDiff, Int.reduceToNat, Nat.reduceMul, Nat.reduceAdd, Nat.reduceBEq, isLd, f0, f1]
  refine ⟨N.n.toNat, N.n.toNat, by rw [Int.toNat_of_nonneg (by omega)], by rw [Int.toNat_of_nonneg (by omega)], Nat.le_refl _, by omega, by omega, fun bO hbO => ?_⟩
  rw [zc_one]
  have hM0 := Mx.new (n := N.n.toNat) hbO (fun _ _ => 0)
  revert hM0
  generalize put G1 bO ⟨List.replicate N.n.toNat (.slice none 0 0), true⟩ = G2
  intro hM0
  simp (maxSteps := 300000) (disch := omega) only [gs, gs2, gs3, gs4, ↓reduceIte, Nat.reduceEqDiff, Int.reduceToNat, Nat.reduceMul, Nat.reduceAdd, Nat.reduceBEq, isLd]
  refine gLoop_intro (fun m T G' => ∃ (k : Nat) (B : Nat → Nat), T 1 = .pointer (some ⟨b1, 0, none⟩) ∧ T 3 = .slice (some ⟨bO, 0, none⟩) N.n.toNat N.n.toNat ∧ T 11 = .int .i64 N.n ∧ T 12 = .int .i64 k ∧ m + k = N.n.toNat ∧ k ≤ N.n.toNat ∧ Mx G1 G' bO B N.n.toNat k (fun _ _ => 0))
    N.n.toNat ⟨0, _, by simp (maxSteps := 300000) (disch := omega) only [gs, gs2, gs3, gs4, ↓reduceIte, Nat.reduceEqDiff, Int.reduceToNat, Nat.reduceMul, Nat.reduceAdd, Nat.reduceBEq, isLd], by simp (maxSteps := 300000) (disch := omega) only [gs, gs2, gs3, gs4, ↓reduceIte, Nat.reduceEqDiff, Int.reduceToNat, Nat.reduceMul, Nat.reduceAdd, Nat.reduceBEq, isLd], by simp (maxSteps := 300000) (disch := omega) only [gs, gs2, gs3, gs4, ↓reduceIte, Nat.reduceEqDiff, Int.reduceToNat, Nat.reduceMul, Nat.reduceAdd, Nat.reduceBEq, isLd] <;> rw [Int.toNat_of_nonneg (by omega)], by simp (maxSteps := 300000) (disch := omega) only [gs, gs2, gs3, gs4, ↓reduceIte, Nat.reduceEqDiff, Int.reduceToNat, Nat.reduceMul, Nat.reduceAdd, Nat.reduceBEq, isLd] <;> rfl, by omega, by omega, hM0⟩ ?_
  clear hM0
  rintro m T G' ⟨k, B, e1, e3, e11, e12, hm, hkm, hM⟩
  have g0 := rd_sub hM.sub f0
  have g1 := rd_sub hM.sub f1
  simp (maxSteps := 300000) (disch := omega) only [gs, gs2, gs3, gs4, ↓reduceIte, Nat.reduceEqDiff, Int.reduceToNat, Nat.reduceMul, Nat.reduceAdd, Nat.reduceBEq, isLd, e1, e3, e11, e12]
  by_cases hkk : (k : Int) < N.n
  · simp (maxSteps := 300000) (disch := omega) only [gs, gs2, gs3, gs4, ↓reduceIte, Nat.reduceEqDiff, Int.reduceToNat, Nat.reduceMul, Nat.reduceAdd, Nat.reduceBEq, isLd, e1, e3, e11, e12, hkk, g0]
    refine ⟨N.n.toNat, N.n.toNat, by rw [Int.toNat_of_nonneg (by omega)], by rw [Int.toNat_of_nonneg (by omega)], Nat.le_refl _, by omega, by omega, fun b hb => ?_⟩
    have hz : zc [.int .i64 0] N.n.toNat = fcells N.n.toNat (fun _ => 0) := by rw [zc_one, rep_range]; rfl
    rw [hz]
    simp (maxSteps := 300000) (disch := omega) only [gs, gs2, gs3, gs4, ↓reduceIte, Nat.reduceEqDiff, Int.reduceToNat, Nat.reduceMul, Nat.reduceAdd, Nat.reduceBEq, isLd, e1, e3, e11, e12]
    have hO : bO ≠ b := blk_ne hM.o hb
    refine st_one (cs := mxO B N.n.toNat k) (by rw [put_ne _ _ hO]; exact hM.o) (by rw [mxO_len]; omega) rfl ?_
    have hM2 := hM.add (by omega) hb
    simp (maxSteps := 300000) (disch := omega) only [gs, gs2, gs3, gs4, ↓reduceIte, Nat.reduceEqDiff, Int.reduceToNat, Nat.reduceMul, Nat.reduceAdd, Nat.reduceBEq, isLd, e1, e3, e11, e12]
    exact ⟨m - 1, by omega, _, Sub.refl _, k + 1, _, rfl, by omega, by omega, hM2⟩
  · simp (maxSteps := 300000) (disch := omega) only [gs, gs2, gs3, gs4, ↓reduceIte, Nat.reduceEqDiff, Int.reduceToNat, Nat.reduceMul, Nat.reduceAdd, Nat.reduceBEq, isLd, e1, e3, e11, e12, hkk, g1]
    obtain rfl : k = N.n.toNat := by omega
    refine gLoop_intro (fun m T G' => ∃ (k : Nat), T 3 = .slice (some ⟨bO, 0, none⟩) N.n.toNat N.n.toNat ∧ T 23 = .slice A N.edges.length c ∧ T 24 = .int .i64 N.edges.length ∧ T 25 = .int .i64 k ∧ m + k = N.edges.length ∧ k ≤ N.edges.length ∧ Mx G1 G' bO B N.n.toNat N.n.toNat (lapK N.edges k))
      N.edges.length ⟨0, by simp (maxSteps := 300000) (disch := omega) only [gs, gs2, gs3, gs4, ↓reduceIte, Nat.reduceEqDiff, Int.reduceToNat, Nat.reduceMul, Nat.reduceAdd, Nat.reduceBEq, isLd, e3], by simp (maxSteps := 300000) (disch := omega) only [gs, gs2, gs3, gs4, ↓reduceIte, Nat.reduceEqDiff, Int.reduceToNat, Nat.reduceMul, Nat.reduceAdd, Nat.reduceBEq, isLd], by simp (maxSteps := 300000) (disch := omega) only [gs, gs2, gs3, gs4, ↓reduceIte, Nat.reduceEqDiff, Int.reduceToNat, Nat.reduceMul, Nat.reduceAdd, Nat.reduceBEq, isLd], by simp (maxSteps := 300000) (disch := omega) only [gs, gs2, gs3, gs4, ↓reduceIte, Nat.reduceEqDiff, Int.reduceToNat, Nat.reduceMul, Nat.reduceAdd, Nat.reduceBEq, isLd] <;> rfl, by omega, by omega, hM⟩ ?_
    clear e1 e3 e11 e12 hkk hm hM g0 g1
    rintro m T G' ⟨k, e3, e23, e24, e25, hm, hkm, hM⟩
    have hh := (h.sub s1).sub hM.sub
    have hsn := hh.sn
    have p0 := hh.r0
    have p1 := hh.r1
    have p2 := hh.r2
    simp (maxSteps := 300000) (disch := omega) only [gs, gs2, gs3, gs4, ↓reduceIte, Nat.reduceEqDiff, Int.reduceToNat, Nat.reduceMul, Nat.reduceAdd, Nat.reduceBEq, isLd, e3, e23, e24, e25]
    by_cases hkk : (k : Int) < N.edges.length
    · simp (maxSteps := 300000) (disch := omega) only [gs, gs2, gs3, gs4, ↓reduceIte, Nat.reduceEqDiff, Int.reduceToNat, Nat.reduceMul, Nat.reduceAdd, Nat.reduceBEq, isLd, e3, e23, e24, e25, hkk, p0, p1, p2]
      intro b6 hb6
      simp (maxSteps := 300000) (disch := omega) only [gs, gs2, gs3, gs4, ↓reduceIte, Nat.reduceEqDiff, Int.reduceToNat, Nat.reduceMul, Nat.reduceAdd, Nat.reduceBEq, isLd, e3, e23, e24, e25]
      refine st_fresh (vs := c3 (N.edges.getD k z3)) rfl rfl rfl (c3_one _) ?_
      have hM1 := hM.box hb6 ⟨c3 (N.edges.getD k z3), true⟩
      have hsub : Sub G1 (put G1 b6 ⟨c3 (N.edges.getD k z3), true⟩) := Sub.put (hM.sub.none hb6) _
      have q0 : rd (put G1 b6 ⟨c3 (N.edges.getD k z3), true⟩) (some ⟨b6, 0, none⟩) = some (.int .i64 (N.edges.getD k z3).1) := rd_box _ _ _ 0 _ rfl
      have q1 : rd (put G1 b6 ⟨c3 (N.edges.getD k z3), true⟩) (some ⟨b6, 1, none⟩) = some (.int .i64 (N.edges.getD k z3).2.1) := rd_box _ _ _ 1 _ rfl
      have q2 : rd (put G1 b6 ⟨c3 (N.edges.getD k z3), true⟩) (some ⟨b6, 2, none⟩) = some (.int .i64 (N.edges.getD k z3).2.2) := rd_box _ _ _ 2 _ rfl
      obtain ⟨o1, o2, o3, o4⟩ := hn.2.1 k (by omega)
      have hl : ∀ i j, -216 ≤ lapK N.edges k i j ∧ lapK N.edges k i j ≤ 216 := fun i j => by
        have := lapK_bd hn.okE (fun i hi => by have := hn.2.1 i hi; unfold okEdge at this; omega) i j k hkm
        omega
      have hlap : lapK N.edges (k + 1) = upd2 (upd2 (upd2 (upd2 (lapK N.edges k) (N.edges.getD k z3).1 (N.edges.getD k z3).1 (lapK N.edges k (N.edges.getD k z3).1 (N.edges.getD k z3).1 + (N.edges.getD k z3).2.2)) (N.edges.getD k z3).2.1 (N.edges.getD k z3).2.1 (upd2 (lapK N.edges k) (N.edges.getD k z3).1 (N.edges.getD k z3).1 (lapK N.edges k (N.edges.getD k z3).1 (N.edges.getD k z3).1 + (N.edges.getD k z3).2.2) (N.edges.getD k z3).2.1 (N.edges.getD k z3).2.1 + (N.edges.getD k z3).2.2)) (N.edges.getD k z3).1 (N.edges.getD k z3).2.1 (-(N.edges.getD k z3).2.2)) (N.edges.getD k z3).2.1 (N.edges.getD k z3).1 (-(N.edges.getD k z3).2.2) := rfl
      clear hM p0 p1 p2 hh hsn
      revert hM1 hsub q0 q1 q2
      generalize put G' b6 ⟨c3 (N.edges.getD k z3), true⟩ = H
      generalize put G1 b6 ⟨c3 (N.edges.getD k z3), true⟩ = H0
      intro hM1 hsub q0 q1 q2
      generalize (N.edges.getD k z3).1 = u at *
      generalize (N.edges.getD k z3).2.1 = w at *
      generalize (N.edges.getD k z3).2.2 = z at *
      generalize lapK N.edges k = L at *
      have r0 := rd_sub hM1.sub q0
      have r1 := rd_sub hM1.sub q1
      have r2 := rd_sub hM1.sub q2
      have ru := hM1.row (i := u.toNat) (by omega) (by omega)
      have hg := hM1.get (u := u) (v := u) (by omega) (by omega) (by omega) (by omega)
      have hl1 := hl u u
      have hl2 := hl w w
      simp (maxSteps := 300000) (disch := omega) only [gs, gs2, gs3, gs4, ↓reduceIte, Nat.reduceEqDiff, Int.reduceToNat, Nat.reduceMul, Nat.reduceAdd, Nat.reduceBEq, isLd, e3, e23, e24, e25, r0, r1, r2, ru, hg]
      refine hM1.store (u := u) (v := u) (by omega) (by omega) (by omega) (by omega) fun H2 hM2 => ?_
      have r0 := rd_sub hM2.sub q0
      have r1 := rd_sub hM2.sub q1
      have r2 := rd_sub hM2.sub q2
      have rw2 := hM2.row (i := w.toNat) (by omega) (by omega)
      have hg := hM2.get (u := w) (v := w) (by omega) (by omega) (by omega) (by omega)
      have e5 : upd2 L u u (L u u + z) w w = L w w := if_neg (by omega)
      rw [e5] at hg hlap
      simp (maxSteps := 300000) (disch := omega) only [gs, gs2, gs3, gs4, ↓reduceIte, Nat.reduceEqDiff, Int.reduceToNat, Nat.reduceMul, Nat.reduceAdd, Nat.reduceBEq, isLd, e3, e23, e24, e25, r0, r1, r2, rw2, hg]
      refine hM2.store (u := w) (v := w) (by omega) (by omega) (by omega) (by omega) fun H3 hM3 => ?_
      have r0 := rd_sub hM3.sub q0
      have r1 := rd_sub hM3.sub q1
      have r2 := rd_sub hM3.sub q2
      have ru := hM3.row (i := u.toNat) (by omega) (by omega)
      simp (maxSteps := 300000) (disch := omega) only [gs, gs2, gs3, gs4, ↓reduceIte, Nat.reduceEqDiff, Int.reduceToNat, Nat.reduceMul, Nat.reduceAdd, Nat.reduceBEq, isLd, e3, e23, e24, e25, r0, r1, r2, ru]
      refine hM3.store (u := u) (v := w) (by omega) (by omega) (by omega) (by omega) fun H4 hM4 => ?_
      have r0 := rd_sub hM4.sub q0
      have r1 := rd_sub hM4.sub q1
      have r2 := rd_sub hM4.sub q2
      have rw4 := hM4.row (i := w.toNat) (by omega) (by omega)
      simp (maxSteps := 300000) (disch := omega) only [gs, gs2, gs3, gs4, ↓reduceIte, Nat.reduceEqDiff, Int.reduceToNat, Nat.reduceMul, Nat.reduceAdd, Nat.reduceBEq, isLd, e3, e23, e24, e25, r0, r1, r2, rw4]
      refine hM4.store (u := w) (v := u) (by omega) (by omega) (by omega) (by omega) fun H5 hM5 => ?_
      simp (maxSteps := 300000) (disch := omega) only [gs, gs2, gs3, gs4, ↓reduceIte, Nat.reduceEqDiff, Int.reduceToNat, Nat.reduceMul, Nat.reduceAdd, Nat.reduceBEq, isLd, e3, e23, e24, e25]
      rw [Int.zero_sub, ← hlap] at hM5
      exact ⟨m - 1, by omega, _, Sub.refl _, k + 1, rfl, by omega, by omega, hM5.low hsub⟩
    · simp (maxSteps := 300000) (disch := omega) only [gs, gs2, gs3, gs4, ↓reduceIte, Nat.reduceEqDiff, Int.reduceToNat, Nat.reduceMul, Nat.reduceAdd, Nat.reduceBEq, isLd, e3, e23, e24, e25, hkk]
      obtain rfl : k = N.edges.length := by omega
      exact ⟨_, Sub.refl _, hk _ _ _ (hM.low s1)⟩
/-- the first row from t on that has something in a column. -/
def fstRow (f : Int → Int → Int) (c : Int) (t R : Nat) : Option Nat := (List.range' t (R - t)).find? fun i => f i c != 0
theorem fstRow_some {f : Int → Int → Int} {c : Int} {t R i : Nat} (h0 : t ≤ i) (h1 : i < R) (h2 : f i c ≠ 0) (h3 : ∀ j, t ≤ j → j < i → f j c = 0) : fstRow f c t R = some i := by
  unfold fstRow
  rw [show R - t = (i - t) + ((R - i - 1) + 1) by omega, ← List.range'_append_1, List.find?_append, List.find?_eq_none.2]
  · rw [Option.none_or, show t + (i - t) = i by omega, List.range'_succ, List.find?_cons_of_pos (by simpa using h2)]
  · intro j hj
    rw [List.mem_range'_1] at hj
    simp [h3 j hj.1 (by omega)]
theorem fstRow_none {f : Int → Int → Int} {c : Int} {t R : Nat} (h : ∀ j : Nat, t ≤ j → j < R → f j c = 0) : fstRow f c t R = none := by
  unfold fstRow
  rw [List.find?_eq_none]
  intro j hj
  rw [List.mem_range'_1] at hj
  simp [h j hj.1 (by omega)]
theorem fstRow_spec {f : Int → Int → Int} {c : Int} {t R i : Nat} (h : fstRow f c t R = some i) : t ≤ i ∧ i < R ∧ f i c ≠ 0 := by
  unfold fstRow at h
  have h1 := List.mem_of_find?_eq_some h
  have h2 := List.find?_some h
  rw [List.mem_range'_1] at h1
  exact ⟨h1.1, by omega, by simpa using h2⟩
def swp (f : Int → Int → Int) (a b : Int) : Int → Int → Int := fun i => if i = a then f b else if i = b then f a else f i
def scl (f : Int → Int → Int) (t k p : Int) : Int → Int → Int := fun i j => if i = t then (f t j * k) % p else f i j
def clr (f : Int → Int → Int) (t c p : Int) : Int → Int → Int := fun i j => if i = t then f i j else (f i j + (p - f i c) * f t j) % p
/-- a power modulo p. -/
def pw (a : Int) (p : Int) : Nat → Int
  | 0 => 1
  | n + 1 => pw a p n * a % p
def invF (a p : Int) : Int := pw a p (p - 2).toNat
structure ElS where
  f : Int → Int → Int
  piv : List Int
  det : Int
noncomputable def elS (p : Int) (R : Nat) (s : ElS) (c : Nat) : ElS :=
  match fstRow s.f c s.piv.length R with
  | none => ⟨s.f, s.piv, 0⟩
  | some i =>
    let g := swp s.f s.piv.length i
    let h := scl g s.piv.length (invF (g s.piv.length c) p) p
    ⟨clr h s.piv.length c p, s.piv ++ [(c : Int)], (if i = s.piv.length then s.det else (-s.det) % p) * g s.piv.length c % p⟩
noncomputable def elF (p : Int) (R : Nat) (f : Int → Int → Int) : Nat → ElS
  | 0 => ⟨f, [], 1⟩
  | c + 1 => elS p R (elF p R f c) c
/-- all cells are numbers modulo p. -/
def Rng (f : Int → Int → Int) (p : Int) : Prop := ∀ i j, 0 ≤ f i j ∧ f i j < p
theorem Rng.swp {f : Int → Int → Int} {p : Int} (h : Rng f p) (a b : Int) : Rng (Gh.swp f a b) p := fun i j => by
  unfold Gh.swp; split
  · exact h b j
  · split
    · exact h a j
    · exact h i j
theorem Rng.scl {f : Int → Int → Int} {p : Int} (h : Rng f p) (hp : 0 < p) (t k : Int) : Rng (Gh.scl f t k p) p := fun i j => by
  unfold Gh.scl; split
  · exact ⟨Int.emod_nonneg _ (by omega), Int.emod_lt_of_pos _ hp⟩
  · exact h i j
theorem Rng.clr {f : Int → Int → Int} {p : Int} (h : Rng f p) (hp : 0 < p) (t c : Int) : Rng (Gh.clr f t c p) p := fun i j => by
  unfold Gh.clr; split
  · exact h i j
  · exact ⟨Int.emod_nonneg _ (by omega), Int.emod_lt_of_pos _ hp⟩
theorem elS_rng {p : Int} {R : Nat} (hp : 0 < p) {s : ElS} (h : Rng s.f p) (c : Nat) : Rng (elS p R s c).f p := by
  unfold elS; split
  · exact h
  · exact ((h.swp _ _).scl hp _ _).clr hp _ _
theorem elF_rng {p : Int} {R : Nat} (hp : 0 < p) {f : Int → Int → Int} (h : Rng f p) : ∀ c, Rng (elF p R f c).f p
  | 0 => h
  | c + 1 => elS_rng hp (elF_rng hp h c) c
theorem elS_len {p : Int} {R : Nat} {s : ElS} (h : s.piv.length ≤ R) (c : Nat) : (elS p R s c).piv.length ≤ R ∧ s.piv.length ≤ (elS p R s c).piv.length ∧ (elS p R s c).piv.length ≤ s.piv.length + 1 := by
  unfold elS; split
  · exact ⟨h, Nat.le_refl _, Nat.le_succ _⟩
  · rename_i i hi
    have := fstRow_spec hi
    simp; omega
theorem elF_len (p : Int) (R : Nat) (f : Int → Int → Int) : ∀ c, (elF p R f c).piv.length ≤ R ∧ (elF p R f c).piv.length ≤ c
  | 0 => ⟨by simp [elF], by simp [elF]⟩
  | c + 1 => by
    have ih := elF_len p R f c
    have := elS_len (p := p) ih.1 c
    exact ⟨this.1, by have := this.2.2; show (elS p R (elF p R f c) c).piv.length ≤ _; omega⟩
theorem elF_det {p : Int} (hp : 1 < p) (R : Nat) (f : Int → Int → Int) : ∀ c, 0 ≤ (elF p R f c).det ∧ (elF p R f c).det < p
  | 0 => by simp [elF]; omega
  | c + 1 => by
    show 0 ≤ (elS p R (elF p R f c) c).det ∧ (elS p R (elF p R f c) c).det < p
    unfold elS; split
    · exact ⟨Int.le_refl _, show (0 : Int) < p by omega⟩
    · exact ⟨Int.emod_nonneg _ (by omega), Int.emod_lt_of_pos _ (by omega)⟩
theorem pw_rng {a p : Int} (hp : 1 < p) : ∀ n, 0 ≤ pw a p n ∧ pw a p n < p
  | 0 => by show (0 : Int) ≤ 1 ∧ (1 : Int) < p; omega
  | n + 1 => ⟨Int.emod_nonneg (pw a p n * a) (by omega), Int.emod_lt_of_pos (pw a p n * a) (by omega)⟩
theorem pw_sq {a p : Int} : ∀ n, pw (a * a % p) p n % p = pw a p (2 * n) % p
  | 0 => rfl
  | n + 1 => by
    show pw (a * a % p) p n * (a * a % p) % p % p = pw a p (2 * n + 1) * a % p % p
    have e : pw a p (2 * n + 1) = pw a p (2 * n) * a % p := rfl
    rw [e, Int.emod_emod_of_dvd _ (Int.dvd_refl p), Int.emod_emod_of_dvd _ (Int.dvd_refl p), Int.mul_emod (pw (a * a % p) p n), pw_sq n, Int.mul_emod (pw a p (2 * n) * a % p), Int.emod_emod_of_dvd _ (Int.dvd_refl p), Int.emod_emod_of_dvd _ (Int.dvd_refl p), ← Int.mul_emod, ← Int.mul_emod, Int.mul_assoc]
/-- every number but 0 has the inverse that is used. -/
def HasInv (p : Int) : Prop := ∀ a : Int, 0 < a → a < p → a * invF a p % p = 1
/-- the columns of the pivots are those of the unit. -/
def UnC (s : ElS) (R c : Nat) : Prop := (∀ m, m < s.piv.length → (0 ≤ s.piv.getD m 0 ∧ s.piv.getD m 0 < c) ∧ ∀ i : Nat, i < R → s.f i (s.piv.getD m 0) = if i = m then 1 else 0) ∧ Rise s.piv
theorem elS_unc {p : Int} (hp : 1 < p) (hI : HasInv p) {R c : Nat} {s : ElS} (hr : Rng s.f p) (h : UnC s R c) : UnC (elS p R s c) R (c + 1) := by
  unfold elS
  split
  · exact ⟨fun m hm => ⟨by have := (h.1 m hm).1; dsimp only; omega, (h.1 m hm).2⟩, h.2⟩
  · rename_i i hi
    have hs := fstRow_spec hi
    have h0 := hr i c
    have hg : swp s.f s.piv.length i s.piv.length c = s.f i c := by unfold swp; rw [if_pos rfl]
    have hinv := hI _ (by omega : 0 < s.f i c) h0.2
    dsimp only
    rw [hg]
    generalize hG : swp s.f s.piv.length i = g at *
    have hrg : Rng g p := hG ▸ hr.swp _ _
    constructor
    · intro m hm
      rw [List.length_append, List.length_singleton] at hm
      dsimp only
      by_cases hmt : m < s.piv.length
      · have e : (s.piv ++ [(c : Int)]).getD m 0 = s.piv.getD m 0 := by simp only [List.getD]; rw [List.getElem?_append_left hmt]
        rw [e]
        obtain ⟨hb, hu⟩ := h.1 m hmt
        refine ⟨by omega, ?_⟩
        have hgu : ∀ j : Nat, j < R → g j (s.piv.getD m 0) = if j = m then 1 else 0 := by
          intro j hj
          rw [← hG]; unfold swp
          by_cases c1 : (j : Int) = s.piv.length
          · rw [if_pos c1, hu i (by omega), if_neg (by omega), if_neg (by omega)]
          · rw [if_neg c1]
            by_cases c2 : (j : Int) = i
            · rw [if_pos c2, hu s.piv.length (by omega), if_neg (by omega), if_neg (by omega)]
            · rw [if_neg c2, hu j hj]
        have ht : g s.piv.length (s.piv.getD m 0) = 0 := by rw [hgu _ (by omega), if_neg (by omega)]
        intro j hj
        unfold clr
        by_cases c1 : (j : Int) = s.piv.length
        · rw [if_pos c1]; unfold scl; rw [if_pos c1, ht, Int.zero_mul, Int.zero_emod, if_neg (by omega)]
        · rw [if_neg c1]
          have e1 : scl g s.piv.length (invF (s.f i c) p) p s.piv.length (s.piv.getD m 0) = 0 := by unfold scl; rw [if_pos rfl, ht, Int.zero_mul, Int.zero_emod]
          have e2 : scl g s.piv.length (invF (s.f i c) p) p j (s.piv.getD m 0) = g j (s.piv.getD m 0) := by unfold scl; rw [if_neg c1]
          rw [e1, e2, Int.mul_zero, Int.add_zero, hgu j hj]
          split
          · exact Int.emod_eq_of_lt (by omega) hp
          · exact Int.zero_emod p
      · obtain rfl : m = s.piv.length := by omega
        have e : (s.piv ++ [(c : Int)]).getD s.piv.length 0 = c := by simp [List.getD]
        rw [e]
        refine ⟨by omega, ?_⟩
        have ht : scl g s.piv.length (invF (s.f i c) p) p s.piv.length c = 1 := by
          unfold scl; rw [if_pos rfl, hg]; exact hinv
        intro j hj
        unfold clr
        by_cases c1 : (j : Int) = s.piv.length
        · rw [if_pos c1, if_pos (by omega), c1]; exact ht
        · rw [if_neg c1, if_neg (by omega), ht, Int.mul_one]
          rw [show ∀ a : Int, a + (p - a) = p from fun a => by omega, Int.emod_self]
    · intro m hm
      rw [List.length_append, List.length_singleton] at hm
      dsimp only
      have e : (s.piv ++ [(c : Int)]).getD m 0 = s.piv.getD m 0 := by simp only [List.getD]; rw [List.getElem?_append_left (by omega)]
      rw [e]
      by_cases hmt : m + 1 < s.piv.length
      · have e : (s.piv ++ [(c : Int)]).getD (m + 1) 0 = s.piv.getD (m + 1) 0 := by simp only [List.getD]; rw [List.getElem?_append_left hmt]
        rw [e]; exact h.2 m hmt
      · have e : (s.piv ++ [(c : Int)]).getD (m + 1) 0 = c := by rw [show m + 1 = s.piv.length by omega]; simp [List.getD]
        rw [e]; exact (h.1 m (by omega)).1.2
theorem elF_unc {p : Int} (hp : 1 < p) (hI : HasInv p) {R : Nat} {f : Int → Int → Int} (hr : Rng f p) : ∀ c, UnC (elF p R f c) R c
  | 0 => ⟨fun m hm => by simp [elF] at hm, fun m hm => by simp [elF] at hm⟩
  | c + 1 => elS_unc hp hI (elF_rng (by omega) hr c) (elF_unc hp hI hr c)
/-- as many pivots as columns: each column has its own. -/
theorem piv_all {s : ElS} {R n : Nat} (h : UnC s R n) (hl : s.piv.length = n) : ∀ m, m < n → s.piv.getD m 0 = m := by
  have lo : ∀ m, m < n → (m : Int) ≤ s.piv.getD m 0 := by
    intro m
    induction m with
    | zero => intro hm; exact (h.1 0 (by omega)).1.1
    | succ m ih =>
      intro hm
      have := ih (by omega)
      have := h.2 m (by omega)
      omega
  have hi : ∀ d m, m + d + 1 = n → s.piv.getD m 0 ≤ m := by
    intro d
    induction d with
    | zero => intro m hm; have := (h.1 m (by omega)).1.2; omega
    | succ d ih =>
      intro m hm
      have := ih (m + 1) (by omega)
      have := h.2 m (by omega)
      omega
  intro m hm
  have h1 := lo m hm
  have h2 := hi (n - m - 1) m (by omega)
  omega
theorem mul_mod_r (a b p : Int) : a * (b % p) % p = a * b % p := by rw [Int.mul_emod, Int.emod_emod_of_dvd _ (Int.dvd_refl p), ← Int.mul_emod]
theorem mul_mod_l (a b p : Int) : a % p * b % p = a * b % p := by rw [Int.mul_emod, Int.emod_emod_of_dvd _ (Int.dvd_refl p), ← Int.mul_emod]
theorem pw_half (acc a p : Int) (n : Nat) : (if n % 2 = 1 then acc * a % p else acc) * pw (a * a % p) p (n / 2) % p = acc * pw a p n % p := by
  by_cases h : n % 2 = 1
  · rw [if_pos h]
    have e : n = 2 * (n / 2) + 1 := by omega
    generalize n / 2 = m at *
    subst e
    rw [mul_mod_l, ← mul_mod_r, pw_sq, mul_mod_r]
    show _ = acc * (pw a p (2 * m) * a % p) % p
    rw [mul_mod_r, Int.mul_assoc, Int.mul_comm a]
  · rw [if_neg h]
    have e : n = 2 * (n / 2) := by omega
    generalize n / 2 = m at *
    subst e
    rw [← mul_mod_r, pw_sq, mul_mod_r]
def fp (p : Nat) : Nat → Nat → Nat → Nat → Nat
  | 0, _, _, acc => acc
  | f + 1, a, n, acc => fp p f (a * a % p) (n / 2) (if n % 2 = 1 then acc * a % p else acc)
theorem fp_ok (p : Nat) : ∀ (f a n acc : Nat), n < 2 ^ f → ((fp p f a n acc : Nat) : Int) % p = (acc : Int) * pw a p n % p
  | 0, a, n, acc, h => by
    obtain rfl : n = 0 := by simpa using h
    simp [fp, pw]
  | f + 1, a, n, acc, h => by
    have ih := fp_ok p f (a * a % p) (n / 2) (if n % 2 = 1 then acc * a % p else acc) (by rw [Nat.pow_succ] at h; omega)
    have hh := pw_half acc a p n
    show ((fp p f (a * a % p) (n / 2) (if n % 2 = 1 then acc * a % p else acc) : Nat) : Int) % p = _
    rw [ih, ← hh]
    split <;> push_cast <;> rfl
def primeN (p : Nat) : Bool := decide (2 ≤ p) && (List.range 16).all fun k => decide (k < 2) || decide (p < k * k) || p % k != 0
def invChk : Bool := (List.range 252).all fun p => !(primeN p) || (List.range p).all fun a => a == 0 || a * fp p 8 a (p - 2) 1 % p == 1
theorem invChk_ok : invChk = true := by decide +kernel
theorem hasInv_small {p : Int} (h2 : 2 ≤ p) (h3 : p ≤ 251) (hp : ∀ k : Int, 2 ≤ k → k * k ≤ p → p % k ≠ 0) : HasInv p := by
  obtain ⟨q, rfl⟩ : ∃ q : Nat, p = q := ⟨p.toNat, by omega⟩
  intro a h0 h1
  obtain ⟨b, rfl⟩ : ∃ b : Nat, a = b := ⟨a.toNat, by omega⟩
  have hc := invChk_ok
  unfold invChk at hc
  rw [List.all_eq_true] at hc
  have hq := hc q (List.mem_range.2 (by omega))
  have hpn : primeN q = true := by
    unfold primeN
    rw [Bool.and_eq_true, List.all_eq_true]
    refine ⟨by simp; omega, fun k hk => ?_⟩
    by_cases c1 : k < 2
    · simp [c1]
    · by_cases c2 : q < k * k
      · simp [c2]
      · have := hp k (by omega) (by have : (k * k : Nat) ≤ q := by omega
                                    exact_mod_cast this)
        have : q % k ≠ 0 := fun e => this (by exact_mod_cast congrArg (Nat.cast (R := Int)) e)
        simp [this]
  rw [hpn] at hq
  simp only [Bool.not_true, Bool.false_or, List.all_eq_true] at hq
  have hb := hq b (List.mem_range.2 (by omega))
  have hb0 : (b == 0) = false := by simp; omega
  rw [hb0, Bool.false_or, beq_iff_eq] at hb
  have hf := fp_ok q 8 b (q - 2) 1 (by omega)
  unfold invF
  rw [show ((q : Int) - 2).toNat = q - 2 by omega, ← mul_mod_r]
  rw [Int.natCast_one, Int.one_mul] at hf
  rw [← hf, mul_mod_r]
  exact_mod_cast congrArg (Nat.cast (R := Int)) hb
def sg (i : Nat) : Int := if i % 2 = 0 then 1 else -1
def setr (f : Int → Int → Int) (r : Int) (v : Int → Int) : Int → Int → Int := fun i => if i = r then v else f i
def del (G : GH) (b : Nat) : GH := fun x => if x = b then none else G x
theorem del_none (G : GH) (b : Nat) : del G b b = none := if_pos rfl
theorem Sub.del (G : GH) (b : Nat) : Sub (Gh.del G b) G := fun x e h => by
  unfold Gh.del at h; split at h
  · cases h
  · exact h
theorem Sub.in_del {K G : GH} {b : Nat} (s : Sub K G) (h : K b = Option.none) : Sub K (Gh.del G b) := fun x e hx => by
  have hxb : x ≠ b := fun e' => by rw [e', h] at hx; cases hx
  unfold Gh.del; rw [if_neg hxb]; exact s x e hx
theorem del_ne (G : GH) {b x : Nat} (h : x ≠ b) : del G b x = G x := if_neg h
/-- bytes in memory. -/
structure BytS (G : GH) (A : Option Addr) (L c : Nat) : Prop where
  cap : L ≤ c
  rd : ∀ i, i < L → ∃ z : Int, 0 ≤ z ∧ z ≤ 255 ∧ rd G (pa A i) = some (.int .u8 z)
theorem BytS.sub {G G' : GH} {A : Option Addr} {L c : Nat} (h : BytS G A L c) (s : Sub G G') : BytS G' A L c := ⟨h.cap, fun i hi => by
  obtain ⟨z, h0, h1, h2⟩ := h.rd i hi
  exact ⟨z, h0, h1, rd_sub s h2⟩⟩
theorem rd_some' {G : GH} {A : Option Addr} {k : Nat} {v : Value} (h : rd G (pa A k) = some v) : 0 < sn A := by
  cases A with
  | none => cases h
  | some a => simp [sn]
theorem st_src {G : GH} {b o : Nat} {cs : List Value} {v : Value} {K : Value → GH → Prop} (h : G b = some ⟨cs, true⟩) (h1 : oneB v = true) (ho : o < cs.length) (hk : ∀ G', Keep b G G' → G' b = some ⟨cs.set o v, true⟩ → K undef G') : gSt 1 (.pointer (some ⟨b, o, none⟩)) v G K :=
  st_one h ho h1 (hk _ (fun y hy => put_ne _ _ hy) (put_same _ _ _))
theorem T3S.cells {G : GH} {A : Option Addr} {c : Nat} {es : List T3} (h : T3S G A c es) : Cells G A (flat3 es) := fun i v hv => by
  have hl : i < (flat3 es).length := by
    rcases Nat.lt_or_ge i (flat3 es).length with h | h
    · exact h
    · rw [List.getElem?_eq_none h] at hv; cases hv
  rw [flat3_len] at hl
  have hi : i / 3 < es.length := by omega
  obtain ⟨g0, g1, g2⟩ := flat3_get es (i / 3) hi
  have h3 : i % 3 = 0 ∨ i % 3 = 1 ∨ i % 3 = 2 := by omega
  rcases h3 with h3 | h3 | h3
  · rw [show i = i / 3 * 3 by omega] at hv ⊢
    rw [g0] at hv; cases hv
    exact h.r0 _ hi
  · have e : i = i / 3 * 3 + 1 := by omega
    rw [e] at hv ⊢
    rw [g1] at hv; cases hv
    exact h.r1 _ hi
  · have e : i = i / 3 * 3 + 2 := by omega
    rw [e] at hv ⊢
    rw [g2] at hv; cases hv
    exact h.r2 _ hi
theorem Own.del {G : GH} {A : Option Addr} {c sz n b : Nat} {cs : List Value} (h : Own G A c cs sz n) (hb : ∀ a, A = some a → a.block ≠ b) : Own (Gh.del G b) A c cs sz n := by
  rcases h with h | ⟨x, r, rfl, h2, h3⟩
  · exact .inl h
  · exact .inr ⟨x, r, rfl, by rw [del_ne _ (hb _ rfl)]; exact h2, h3⟩
/-- the heap without the block of a list. -/
def wo (G : GH) (A : Option Addr) : GH := fun x => if A.map (·.block) = some x then none else G x
theorem Sub.wo (G : GH) (A : Option Addr) : Sub (Gh.wo G A) G := fun x e h => by
  unfold Gh.wo at h; split at h
  · cases h
  · exact h
theorem Off.wo (G : GH) (A : Option Addr) : Off (Gh.wo G A) A := fun a ha => by unfold Gh.wo; rw [if_pos (by rw [ha]; rfl)]
theorem wo_ne {G : GH} {A : Option Addr} {x : Nat} (h : ∀ a, A = some a → a.block ≠ x) : wo G A x = G x := by
  unfold wo; rw [if_neg]
  cases A with
  | none => simp
  | some a => simp; exact h a rfl
def rowL (C : Nat) (g : Int → Int) : List Int := (List.range C).map fun j : Nat => g j
theorem rowL_len (C : Nat) (g : Int → Int) : (rowL C g).length = C := by simp [rowL]
theorem rowL_get {C : Nat} (g : Int → Int) {j : Nat} (h : j < C) : (rowL C g).getD j 0 = g j := by simp [rowL, List.getD, h]
theorem rowL_succ (C : Nat) (g : Int → Int) : rowL (C + 1) g = rowL C g ++ [g C] := by simp [rowL, List.range_succ]
theorem rowL_congr {C : Nat} {f g : Int → Int} (h : ∀ j : Nat, j < C → f j = g j) : rowL C f = rowL C g := by
  unfold rowL
  exact List.map_congr_left fun j hj => h j (List.mem_range.1 hj)
def rowsC (A : Nat → Option Addr) (c : Nat → Nat) (R C : Nat) : List Value := (List.range R).map fun i => .slice (A i) C (c i)
theorem rowsC_len (A : Nat → Option Addr) (c : Nat → Nat) (R C : Nat) : (rowsC A c R C).length = R := by simp [rowsC]
theorem rowsC_get {A : Nat → Option Addr} {c : Nat → Nat} {R C i : Nat} (h : i < R) : (rowsC A c R C)[i]? = some (.slice (A i) C (c i)) := by simp [rowsC, h]
theorem rowsC_set {A : Nat → Option Addr} {c : Nat → Nat} {R C i : Nat} (A' : Option Addr) (c' : Nat) : (rowsC A c R C).set i (.slice A' C c') = rowsC (fun k => if k = i then A' else A k) (fun k => if k = i then c' else c k) R C := by
  unfold rowsC
  apply List.ext_getElem
  · simp
  · intro k h1 h2
    simp only [List.length_set, List.length_map, List.length_range] at h1
    by_cases e : i = k
    · subst e; simp
    · have e' : k ≠ i := fun x => e x.symm
      simp [List.getElem_set, e, e']
theorem Sub.del2 {G G' : GH} (s : Sub G G') (b : Nat) : Sub (Gh.del G b) (Gh.del G' b) := fun x e h => by
  unfold Gh.del at h ⊢
  split at h
  · cases h
  · rename_i hne; rw [if_neg hne]; exact s x e h
theorem wo_mono {G G' : GH} (s : Sub G G') (Z : Option Addr) : Sub (wo G Z) (wo G' Z) := fun x e h => by
  unfold wo at h ⊢
  split at h
  · cases h
  · rename_i hne; rw [if_neg hne]; exact s x e h
/-- what is known of rows: the outer block b is one's own; the rows lie elsewhere than at Z. -/
structure Rw (H G : GH) (b : Nat) (A : Nat → Option Addr) (c : Nat → Nat) (R C : Nat) (f : Int → Int → Int) (rest : List Value) (Z : Option Addr) : Prop where
  sub : Sub H G
  nb : H b = none
  blk : G b = some ⟨rowsC A c R C ++ rest, true⟩
  row : ∀ i : Nat, i < R → IntS (del (wo G Z) b) (A i) (c i) (rowL C (f i))
theorem Rw.get {H G : GH} {b : Nat} {A : Nat → Option Addr} {c : Nat → Nat} {R C : Nat} {f : Int → Int → Int} {rest : List Value} {Z : Option Addr} (h : Rw H G b A c R C f rest Z) {i : Nat} (hi : i < R) : rd G (some ⟨b, i, none⟩) = some (.slice (A i) C (c i)) := by
  simp only [rd, h.blk, Option.bind_some]
  rw [List.getElem?_append_left (by rw [rowsC_len]; exact hi), rowsC_get hi]
theorem Rw.ints {H G : GH} {b : Nat} {A : Nat → Option Addr} {c : Nat → Nat} {R C : Nat} {f : Int → Int → Int} {rest : List Value} {Z : Option Addr} (h : Rw H G b A c R C f rest Z) {i : Nat} (hi : i < R) : IntS G (A i) (c i) (rowL C (f i)) := (h.row i hi).sub ((Gh.Sub.del _ _).trans (Gh.Sub.wo _ _))
theorem Rw.cell {H G : GH} {b : Nat} {A : Nat → Option Addr} {c : Nat → Nat} {R C : Nat} {f : Int → Int → Int} {rest : List Value} {Z : Option Addr} (h : Rw H G b A c R C f rest Z) {i j : Nat} (hi : i < R) (hj : j < C) : rd G (pa (A i) j) = some (.int .i64 (f i j)) := by
  have := (h.ints hi).rd j (by rw [rowL_len]; exact hj)
  rwa [rowL_get _ hj] at this
theorem Rw.sn {H G : GH} {b : Nat} {A : Nat → Option Addr} {c : Nat → Nat} {R C : Nat} {f : Int → Int → Int} {rest : List Value} {Z : Option Addr} (h : Rw H G b A c R C f rest Z) {i : Nat} (hi : i < R) (hC : 0 < C) : 0 < sn (A i) := (h.ints hi).sn (by rw [rowL_len]; exact hC)
theorem Rw.up {H G : GH} {b : Nat} {A : Nat → Option Addr} {c : Nat → Nat} {R C : Nat} {f : Int → Int → Int} {rest : List Value} {Z : Option Addr} {G' : GH} (h : Rw H G b A c R C f rest Z) (s : Sub G G') : Rw H G' b A c R C f rest Z :=
  ⟨h.sub.trans s, h.nb, s _ _ h.blk, fun i hi => (h.row i hi).sub ((wo_mono s Z).del2 b)⟩
theorem Rw.low {H G : GH} {b : Nat} {A : Nat → Option Addr} {c : Nat → Nat} {R C : Nat} {f : Int → Int → Int} {rest : List Value} {Z : Option Addr} {H' : GH} (h : Rw H G b A c R C f rest Z) (s : Sub H' H) : Rw H' G b A c R C f rest Z := ⟨s.trans h.sub, s.none h.nb, h.blk, h.row⟩
theorem Rw.cong {H G : GH} {b : Nat} {A : Nat → Option Addr} {c : Nat → Nat} {R C : Nat} {f : Int → Int → Int} {rest : List Value} {Z : Option Addr} {g : Int → Int → Int} (h : Rw H G b A c R C f rest Z) (e : ∀ i j : Nat, i < R → j < C → f i j = g i j) : Rw H G b A c R C g rest Z :=
  ⟨h.sub, h.nb, h.blk, fun i hi => by rw [← rowL_congr fun j hj => e i j hi hj]; exact h.row i hi⟩
theorem Rw.all {H G : GH} {b : Nat} {A : Nat → Option Addr} {c : Nat → Nat} {R C : Nat} {f : Int → Int → Int} {rest : List Value} {Z : Option Addr} (h : Rw H G b A c R C f rest Z) : Rw (Gh.del G b) G b A c R C f rest Z := ⟨Gh.Sub.del _ _, del_none _ _, h.blk, h.row⟩
/-- a new list is apart from the outer block and from another one. -/
theorem New.del {G G' : GH} {A Z : Option Addr} {c b : Nat} {xs : List Int} {e : Ent} (h : New G G' A c (xs.map I64) 1 xs.length) (hb : G b = some e) (hZ : ∀ a, Z = some a → ∃ e, G a.block = some e) : IntS (Gh.del (wo G' Z) b) A c xs := by
  have hi := h.ints
  rcases h with ⟨_, _, h0, _, _⟩ | ⟨x, r, rfl, hx, rfl, _⟩
  · exact ⟨hi.cap, fun i hlt => by omega⟩
  · have hne : x ≠ b := fun e' => by rw [e', hb] at hx; cases hx
    have hnz : ∀ a, Z = some a → a.block ≠ x := fun a ha e' => by
      obtain ⟨e2, h2⟩ := hZ a ha
      rw [e', hx] at h2; cases h2
    refine ⟨hi.cap, fun i hlt => ?_⟩
    have := hi.rd i hlt
    simp only [pa_mk, rd] at this ⊢
    unfold Gh.del
    rw [if_neg hne, wo_ne hnz]; exact this
/-- a row is written. -/
theorem Rw.st {H G : GH} {b : Nat} {A : Nat → Option Addr} {c : Nat → Nat} {R C : Nat} {f : Int → Int → Int} {rest : List Value} {Z : Option Addr} (h : Rw H G b A c R C f rest Z) {i : Nat} (hi : i < R) (hbz : ∀ a, Z = some a → a.block ≠ b) {A' : Option Addr} {c' : Nat} {g : Int → Int} (hg : IntS (Gh.del (wo G Z) b) A' c' (rowL C g)) {K : Value → GH → Prop}
    (hk : ∀ G', Rw H G' b (fun k => if k = i then A' else A k) (fun k => if k = i then c' else c k) R C (setr f i g) rest Z → Gh.del G' b = Gh.del G b → Gh.del (wo G' Z) b = Gh.del (wo G Z) b → K undef G') : gSt 1 (.pointer (some ⟨b, i, none⟩)) (.slice A' C c') G K := by
  refine st_src h.blk rfl (by rw [List.length_append, rowsC_len]; omega) fun G' hK hb => ?_
  have hd : Gh.del G' b = Gh.del G b := by
    funext x
    unfold Gh.del
    by_cases e : x = b
    · rw [if_pos e, if_pos e]
    · rw [if_neg e, if_neg e, hK x e]
  have hd2 : Gh.del (wo G' Z) b = Gh.del (wo G Z) b := by
    funext x
    unfold Gh.del wo
    by_cases e : x = b
    · rw [if_pos e, if_pos e]
    · rw [if_neg e, if_neg e, hK x e]
  refine hk G' ⟨sub_keep hK h.nb h.sub, h.nb, ?_, fun k hk' => ?_⟩ hd hd2
  · rw [hb, List.set_append_left _ _ (by rw [rowsC_len]; exact hi), rowsC_set]
  · rw [hd2]
    by_cases e : k = i
    · subst e
      simp only [if_true]
      have : setr f k g k = g := by unfold setr; rw [if_pos rfl]
      rw [this]; exact hg
    · simp only [if_neg e]
      have : setr f i g k = f k := by unfold setr; rw [if_neg (by omega)]
      rw [this]; exact h.row k hk'
/-- the list at Z grows. -/
theorem Rw.rez {H G : GH} {b : Nat} {A : Nat → Option Addr} {c : Nat → Nat} {R C : Nat} {f : Int → Int → Int} {rest : List Value} {Z : Option Addr} {G' : GH} {Z' : Option Addr} (h : Rw H G b A c R C f rest Z) (hbz : ∀ a, Z = some a → a.block ≠ b) (oH : Off H Z) (s : Sub (wo G Z) G') (o : Off (wo G Z) Z') : Rw H G' b A c R C f rest Z' ∧ Off H Z' ∧ ∀ a, Z' = some a → a.block ≠ b := by
  have hwb : wo G Z b = some ⟨rowsC A c R C ++ rest, true⟩ := by rw [wo_ne hbz]; exact h.blk
  have s0 : Sub H (wo G Z) := fun x e hx => by
    rw [wo_ne fun a ha e' => by have := oH a ha; rw [e', hx] at this; cases this]
    exact h.sub _ _ hx
  have s1 : Sub (wo G Z) (wo G' Z') := fun x e hx => by
    rw [wo_ne fun a ha e' => by have := o a ha; rw [e', hx] at this; cases this]
    exact s _ _ hx
  exact ⟨⟨s0.trans s, h.nb, s _ _ hwb, fun i hi => (h.row i hi).sub (s1.del2 b)⟩, o.mono s0, fun a ha e => by have := o a ha; rw [e, hwb] at this; cases this⟩
/-- flat cells of one's own. -/
def Fl (G : GH) (b R w : Nat) (f : Int → Int → Int) : Prop := ∃ (g : Int → Int) (rs : List Value), G b = some ⟨fcells (R * w) g ++ rs, true⟩ ∧ ∀ i j : Nat, i < R → j < w → g ((i : Int) * w + j) = f i j
theorem flat_lt {i j R w : Nat} (hi : i < R) (hj : j < w) : (i : Int) * w + j < ((R * w : Nat) : Int) := by
  have h : i * w + j < R * w := by
    have : (i + 1) * w ≤ R * w := Nat.mul_le_mul_right w hi
    rw [Nat.add_mul, Nat.one_mul] at this
    omega
  have e : ((i * w + j : Nat) : Int) = (i : Int) * w + j := by push_cast; rfl
  omega
theorem flat_nn (i j w : Nat) : 0 ≤ (i : Int) * w + j := by
  have e : ((i * w + j : Nat) : Int) = (i : Int) * w + j := by push_cast; rfl
  omega
theorem flat_inj {i j i' j' w : Nat} (hj : j < w) (hj' : j' < w) (h : (i : Int) * w + j = (i' : Int) * w + j') : i = i' ∧ j = j' := by
  have e : i * w + j = i' * w + j' := by exact_mod_cast h
  have h1 : (i * w + j) / w = i := by rw [Nat.mul_comm, Nat.mul_add_div (by omega), Nat.div_eq_of_lt hj, Nat.add_zero]
  have h2 : (i' * w + j') / w = i' := by rw [Nat.mul_comm, Nat.mul_add_div (by omega), Nat.div_eq_of_lt hj', Nat.add_zero]
  rw [e, h2] at h1
  subst h1
  exact ⟨rfl, by omega⟩
theorem Fl.rd {G : GH} {b R w : Nat} {f : Int → Int → Int} (h : Fl G b R w f) {i j : Nat} (hi : i < R) (hj : j < w) : rd G (some ⟨b, ((i : Int) * w + j).toNat, none⟩) = some (.int .i64 (f i j)) := by
  obtain ⟨g, rs, h1, h2⟩ := h
  simp only [Gh.rd, h1, Option.bind_some]
  have := fcells_get (b := g) (rest := rs) (flat_nn i j w) (flat_lt hi hj)
  rwa [h2 i j hi hj] at this
theorem Fl.st {G : GH} {b R w : Nat} {f : Int → Int → Int} (h : Fl G b R w f) {i j : Nat} (hi : i < R) (hj : j < w) {x : Int} {K : Value → GH → Prop} (hk : ∀ G', Fl G' b R w (upd2 f i j x) → Keep b G G' → K undef G') : gSt 1 (.pointer (some ⟨b, ((i : Int) * w + j).toNat, none⟩)) (.int .i64 x) G K := by
  obtain ⟨g, rs, h1, h2⟩ := h
  have hl := flat_lt hi hj
  have hn := flat_nn i j w
  refine st_one h1 (by rw [List.length_append, fcells_len]; omega) rfl (hk _ ⟨fun v => if v = (i : Int) * w + j then x else g v, rs, ?_, fun i' j' hi' hj' => ?_⟩ fun y hy => put_ne _ _ hy)
  · rw [put_same, fcells_set hn hl]
  · dsimp only
    unfold upd2
    by_cases e : (i' : Int) * w + j' = (i : Int) * w + j
    · obtain ⟨rfl, rfl⟩ := flat_inj hj' hj e
      rw [if_pos rfl, if_pos ⟨rfl, rfl⟩]
    · rw [if_neg e, if_neg (by rintro ⟨e1, e2⟩; exact e (by rw [e1, e2])), h2 i' j' hi' hj']
theorem Fl.cong {G : GH} {b R w : Nat} {f g : Int → Int → Int} (h : Fl G b R w f) (e : ∀ i j : Nat, i < R → j < w → f i j = g i j) : Fl G b R w g := by
  obtain ⟨k, rs, h1, h2⟩ := h
  exact ⟨k, rs, h1, fun i j hi hj => by rw [h2 i j hi hj, e i j hi hj]⟩
theorem red_eq {a p : Int} (hp : 0 < p) : (a.tmod p + p).tmod p = a % p := by
  have h1 := Int.mul_tdiv_add_tmod a p
  have h2 : -p < a.tmod p := by
    have := Int.lt_tmod_of_pos a hp; omega
  rw [Int.tmod_eq_emod_of_nonneg (by omega)]
  have e : a.tmod p + p = a + p * (1 - a.tdiv p) := by rw [Int.mul_sub, Int.mul_one]; omega
  rw [e, Int.add_mul_emod_self_left]
theorem red_bd {a p : Int} (hp : 0 < p) : -p < a.tmod p ∧ a.tmod p < p := ⟨Int.lt_tmod_of_pos a hp, Int.tmod_lt_of_pos a hp⟩
theorem impl_reduce_ok {a p : Int} (hp : 0 < p ∧ p ≤ 2 ^ 31) {G : GH} {K : Value → GH → Prop} (hk : K (.int .i64 (a % p)) G) : GC Try.prog 165 [.int .i64 a, .int .i64 p] G K := by
  refine c_impl_reduce_i (by simp) ?_
  have hb := red_bd (a := a) hp.1
  simp (maxSteps := 300000) (disch := omega) only [gs, gs2, gs3, gs4, ↓reduceIte, Nat.reduceEqDiff, Int.reduceToNat, Nat.reduceMul, Nat.reduceAdd, Nat.reduceBEq, isLd, bin_rem .i64 a p (by omega), fun x : Int => bin_rem .i64 x p (by omega)]
  rw [red_eq hp.1]; exact hk
theorem spec_l02Mod_ok {a p : Int} (hp : 0 < p ∧ p ≤ 2 ^ 31) {G : GH} {K : Value → GH → Prop} (hk : K (.int .i64 (a % p)) G) : GC Try.prog 161 [.int .i64 a, .int .i64 p] G K := by
  refine c_spec_l02Mod_i (by simp) ?_
  have hb := red_bd (a := a) hp.1
  simp (maxSteps := 300000) (disch := omega) only [gs, gs2, gs3, gs4, ↓reduceIte, Nat.reduceEqDiff, Int.reduceToNat, Nat.reduceMul, Nat.reduceAdd, Nat.reduceBEq, isLd, bin_rem .i64 a p (by omega), fun x : Int => bin_rem .i64 x p (by omega)]
  rw [red_eq hp.1]; exact hk
theorem impl_powerOf_ok {a p : Int} {n : Nat} (ha : 0 ≤ a ∧ a ≤ 2 ^ 31) (hp : 1 < p ∧ p ≤ 2 ^ 31) (hn : n < 2 ^ 40) {G : GH} {K : Value → GH → Prop} (hk : K (.int .i64 (pw a p n)) G) : GC Try.prog 256 [.int .i64 a, .int .i64 n, .int .i64 p] G K := by
  refine c_impl_powerOf_i (by simp) ?_
  simp (maxSteps := 300000) (disch := omega) only [gs, gs2, gs3, gs4, ↓reduceIte, Nat.reduceEqDiff, Int.reduceToNat, Nat.reduceMul, Nat.reduceAdd, Nat.reduceBEq, isLd]
  refine gLoop_intro (fun m T G' => ∃ (k : Nat) (b acc : Int), T 0 = .int .i64 b ∧ T 1 = .int .i64 k ∧ T 2 = .int .i64 p ∧ T 7 = .int .i64 acc ∧ m = k ∧ k < 2 ^ 40 ∧ G = G' ∧ (0 ≤ b ∧ b ≤ 2 ^ 31) ∧ (0 ≤ acc ∧ acc < p) ∧ acc * pw b p k % p = pw a p n % p)
    n ⟨n, a, 1, by simp (maxSteps := 300000) (disch := omega) only [gs, gs2, gs3, gs4, ↓reduceIte, Nat.reduceEqDiff, Int.reduceToNat, Nat.reduceMul, Nat.reduceAdd, Nat.reduceBEq, isLd], by simp (maxSteps := 300000) (disch := omega) only [gs, gs2, gs3, gs4, ↓reduceIte, Nat.reduceEqDiff, Int.reduceToNat, Nat.reduceMul, Nat.reduceAdd, Nat.reduceBEq, isLd], by simp (maxSteps := 300000) (disch := omega) only [gs, gs2, gs3, gs4, ↓reduceIte, Nat.reduceEqDiff, Int.reduceToNat, Nat.reduceMul, Nat.reduceAdd, Nat.reduceBEq, isLd], by simp (maxSteps := 300000) (disch := omega) only [gs, gs2, gs3, gs4, ↓reduceIte, Nat.reduceEqDiff, Int.reduceToNat, Nat.reduceMul, Nat.reduceAdd, Nat.reduceBEq, isLd], rfl, hn, rfl, ha, by omega, by rw [Int.one_mul]⟩ ?_
  rintro k T G' ⟨_, b, acc, e0, e1, e2, e7, rfl, hk2, rfl, hb, hacc, he⟩
  simp (maxSteps := 300000) (disch := omega) only [gs, gs2, gs3, gs4, ↓reduceIte, Nat.reduceEqDiff, Int.reduceToNat, Nat.reduceMul, Nat.reduceAdd, Nat.reduceBEq, isLd, e0, e1, e2, e7]
  have hrem := fun x : Int => bin_rem .i64 x p (by omega)
  have hm1 := mulB (a := acc) (b := b) (A := 2 ^ 31) (B := 2 ^ 31) (by omega) (by omega)
  have hm2 := mulB (a := b) (b := b) (A := 2 ^ 31) (B := 2 ^ 31) (by omega) (by omega)
  have hn1 : 0 ≤ acc * b := Int.mul_nonneg hacc.1 hb.1
  have hn2 : 0 ≤ b * b := Int.mul_nonneg hb.1 hb.1
  have w1 := w64 (acc * b) (by omega) (by omega)
  have w2 := w64 (b * b) (by omega) (by omega)
  have r1 : (acc * b).tmod p = acc * b % p := Int.tmod_eq_emod_of_nonneg hn1
  have r2 : (b * b).tmod p = b * b % p := Int.tmod_eq_emod_of_nonneg hn2
  have q1 := Int.emod_nonneg (acc * b) (show p ≠ 0 by omega)
  have q2 := Int.emod_lt_of_pos (acc * b) (show 0 < p by omega)
  have q3 := Int.emod_nonneg (b * b) (show p ≠ 0 by omega)
  have q4 := Int.emod_lt_of_pos (b * b) (show 0 < p by omega)
  by_cases hk0 : (0 : Int) < k
  · have hh := pw_half acc b p k
    have d2 : ((k : Int)).tdiv 2 = ((k / 2 : Nat) : Int) := by rw [Int.tdiv_eq_ediv_of_nonneg (by omega)]; rfl
    have hq := w64 ((k / 2 : Nat) : Int) (by omega) (by omega)
    have hquo : binV .quo (.int .i64 (k : Int)) (.int .i64 2) = some (.int .i64 ((k / 2 : Nat) : Int)) := by
      rw [bin_quo _ _ _ (by omega), d2, hq]
    have hrem2 : binV .rem (.int .i64 (k : Int)) (.int .i64 2) = some (.int .i64 ((k % 2 : Nat) : Int)) := by
      rw [bin_rem _ _ _ (by omega), Int.tmod_eq_emod_of_nonneg (by omega)]; rfl
    simp (maxSteps := 300000) (disch := omega) only [gs, gs2, gs3, gs4, ↓reduceIte, Nat.reduceEqDiff, Int.reduceToNat, Nat.reduceMul, Nat.reduceAdd, Nat.reduceBEq, isLd, e0, e1, e2, e7, hk0, hrem2]
    by_cases ho : k % 2 = 1
    · rw [if_pos ho] at hh
      simp (maxSteps := 300000) (disch := omega) only [gs, gs2, gs3, gs4, ↓reduceIte, Nat.reduceEqDiff, Int.reduceToNat, Nat.reduceMul, Nat.reduceAdd, Nat.reduceBEq, isLd, e0, e1, e2, e7, show (((k % 2 : Nat) : Int) = 1) = True from eq_true (by omega), w1, w2, hrem, r1, r2, hquo]
      exact ⟨k / 2, by omega, G, Sub.refl _, k / 2, b * b % p, acc * b % p, rfl, rfl, rfl, rfl, by omega, rfl, ⟨by omega, by omega⟩, ⟨by omega, by omega⟩, hh.trans he⟩
    · rw [if_neg ho] at hh
      simp (maxSteps := 300000) (disch := omega) only [gs, gs2, gs3, gs4, ↓reduceIte, Nat.reduceEqDiff, Int.reduceToNat, Nat.reduceMul, Nat.reduceAdd, Nat.reduceBEq, isLd, e0, e1, e2, e7, show (((k % 2 : Nat) : Int) = 1) = False from eq_false (by omega), w1, w2, hrem, r1, r2, hquo]
      exact ⟨k / 2, by omega, G, Sub.refl _, k / 2, b * b % p, acc, rfl, rfl, rfl, rfl, by omega, rfl, ⟨by omega, by omega⟩, ⟨by omega, by omega⟩, hh.trans he⟩
  · simp (maxSteps := 300000) (disch := omega) only [gs, gs2, gs3, gs4, ↓reduceIte, Nat.reduceEqDiff, Int.reduceToNat, Nat.reduceMul, Nat.reduceAdd, Nat.reduceBEq, isLd, e0, e1, e2, e7, hk0]
    obtain rfl : k = 0 := by omega
    have hr := pw_rng (a := a) (p := p) hp.1 n
    have e : acc = pw a p n := by
      rw [show pw b p 0 = 1 from rfl, Int.mul_one, Int.emod_eq_of_lt hacc.1 hacc.2, Int.emod_eq_of_lt hr.1 hr.2] at he
      exact he
    rw [e]; exact hk
theorem impl_inverseOf_ok {a p : Int} (ha : 0 ≤ a ∧ a ≤ 2 ^ 31) (hp : 1 < p ∧ p ≤ 2 ^ 31) {G : GH} {K : Value → GH → Prop} (hk : K (.int .i64 (invF a p)) G) : GC Try.prog 236 [.int .i64 a, .int .i64 p] G K := by
  refine c_impl_inverseOf_i (by simp) ?_
  simp (maxSteps := 300000) (disch := omega) only [gs, gs2, gs3, gs4, ↓reduceIte, Nat.reduceEqDiff, Int.reduceToNat, Nat.reduceMul, Nat.reduceAdd, Nat.reduceBEq, isLd]
  have e : p - 2 = ((p - 2).toNat : Int) := by omega
  rw [e]
  refine impl_powerOf_ok ha hp (by omega) ?_
  simp (maxSteps := 300000) (disch := omega) only [gs, gs2, gs3, gs4, ↓reduceIte, Nat.reduceEqDiff, Int.reduceToNat, Nat.reduceMul, Nat.reduceAdd, Nat.reduceBEq, isLd]
  exact hk
theorem impl_addTimes_ok {G : GH} {A B : Option Addr} {ca cb C : Nat} {f g : Int → Int} {k p : Int} (h : IntS G A ca (rowL C f)) (h' : IntS G B cb (rowL C g)) (hp : 1 < p ∧ p ≤ 2 ^ 30) (hk0 : 0 ≤ k ∧ k ≤ p) (hf : ∀ j : Nat, j < C → 0 ≤ f j ∧ f j < p) (hg : ∀ j : Nat, j < C → 0 ≤ g j ∧ g j < p) (hC : C < 2 ^ 20) {K : Value → GH → Prop}
    (hk : ∀ G' A' c', New G G' A' c' ((rowL C fun j => (f j + k * g j) % p).map I64) 1 C → K (.slice A' C c') G') : GC Try.prog 255 [.slice A C ca, .slice B C cb, .int .i64 k, .int .i64 p] G K := by
  refine c_impl_addTimes_i (by simp) ?_
  simp (maxSteps := 300000) (disch := omega) only [gs, gs2, gs3, gs4, ↓reduceIte, Nat.reduceEqDiff, Int.reduceToNat, Nat.reduceMul, Nat.reduceAdd, Nat.reduceBEq, isLd]
  refine gLoop_intro (fun m T G' => ∃ (j : Nat) (As : Option Addr) (cs : Nat), T 0 = .slice A C ca ∧ T 1 = .slice B C cb ∧ T 2 = .int .i64 k ∧ T 3 = .int .i64 p ∧ T 9 = .slice As j cs ∧ T 12 = .int .i64 C ∧ T 13 = .int .i64 j ∧ m + j = C ∧ j ≤ C ∧ New G G' As cs ((rowL j fun j => (f j + k * g j) % p).map I64) 1 j)
    C ⟨0, none, 0, by simp (maxSteps := 300000) (disch := omega) only [gs, gs2, gs3, gs4, ↓reduceIte, Nat.reduceEqDiff, Int.reduceToNat, Nat.reduceMul, Nat.reduceAdd, Nat.reduceBEq, isLd], by simp (maxSteps := 300000) (disch := omega) only [gs, gs2, gs3, gs4, ↓reduceIte, Nat.reduceEqDiff, Int.reduceToNat, Nat.reduceMul, Nat.reduceAdd, Nat.reduceBEq, isLd], by simp (maxSteps := 300000) (disch := omega) only [gs, gs2, gs3, gs4, ↓reduceIte, Nat.reduceEqDiff, Int.reduceToNat, Nat.reduceMul, Nat.reduceAdd, Nat.reduceBEq, isLd], by simp (maxSteps := 300000) (disch := omega) only [gs, gs2, gs3, gs4, ↓reduceIte, Nat.reduceEqDiff, Int.reduceToNat, Nat.reduceMul, Nat.reduceAdd, Nat.reduceBEq, isLd], by simp (maxSteps := 300000) (disch := omega) only [gs, gs2, gs3, gs4, ↓reduceIte, Nat.reduceEqDiff, Int.reduceToNat, Nat.reduceMul, Nat.reduceAdd, Nat.reduceBEq, isLd], by simp (maxSteps := 300000) (disch := omega) only [gs, gs2, gs3, gs4, ↓reduceIte, Nat.reduceEqDiff, Int.reduceToNat, Nat.reduceMul, Nat.reduceAdd, Nat.reduceBEq, isLd], by simp (maxSteps := 300000) (disch := omega) only [gs, gs2, gs3, gs4, ↓reduceIte, Nat.reduceEqDiff, Int.reduceToNat, Nat.reduceMul, Nat.reduceAdd, Nat.reduceBEq, isLd] <;> rfl, by omega, by omega, New.nil _ _⟩ ?_
  rintro m T G' ⟨j, As, cs, e0, e1, e2, e3, e9, e12, e13, hm, hj, hN⟩
  simp (maxSteps := 300000) (disch := omega) only [gs, gs2, gs3, gs4, ↓reduceIte, Nat.reduceEqDiff, Int.reduceToNat, Nat.reduceMul, Nat.reduceAdd, Nat.reduceBEq, isLd, e0, e1, e2, e3, e9, e12, e13]
  by_cases hjj : (j : Int) < C
  · have r1 := (h.sub hN.sub).rd j (by rw [rowL_len]; omega)
    have r2 := (h'.sub hN.sub).rd j (by rw [rowL_len]; omega)
    have sA := h.sn (by rw [rowL_len]; omega)
    have sB := h'.sn (by rw [rowL_len]; omega)
    rw [rowL_get _ (by omega)] at r1 r2
    have b1 := hf j (by omega)
    have b2 := hg j (by omega)
    have hmm := mulB (a := k) (b := g j) (A := 2 ^ 30) (B := 2 ^ 30) (by omega) (by omega)
    have hnn : 0 ≤ k * g j := Int.mul_nonneg hk0.1 b2.1
    have w1 := w64 (k * g j) (by omega) (by omega)
    have w2 := w64 (f j + k * g j) (by omega) (by omega)
    have hr : (f j + k * g j).tmod p = (f j + k * g j) % p := Int.tmod_eq_emod_of_nonneg (by omega)
    have q1 := Int.emod_nonneg (f j + k * g j) (show p ≠ 0 by omega)
    have hrem := fun x : Int => bin_rem .i64 x p (by omega)
    simp (maxSteps := 300000) (disch := omega) only [gs, gs2, gs3, gs4, ↓reduceIte, Nat.reduceEqDiff, Int.reduceToNat, Nat.reduceMul, Nat.reduceAdd, Nat.reduceBEq, isLd, e0, e1, e2, e3, e9, e12, e13, hjj, r1, r2, w1, w2, hrem, hr, gBs]
    refine ⟨by intro v hv; simp at hv; subst hv; rfl, fun b hb => ?_⟩
    refine ⟨⟨rd_sub (Sub.put hb _) r2, rd_sub (Sub.put hb _) r1⟩, ?_⟩
    refine ap_new hN (Sub.put hb _) (cells_one [.int .i64 ((f j + k * g j) % p)] true) (by rfl) (by intro v hv; simp at hv; subst hv; rfl) rfl (by omega) (by omega) (by omega) fun G'' A' c' hN' => ?_
    simp (maxSteps := 300000) (disch := omega) only [gs, gs2, gs3, gs4, ↓reduceIte, Nat.reduceEqDiff, Int.reduceToNat, Nat.reduceMul, Nat.reduceAdd, Nat.reduceBEq, isLd, e0, e1, e2, e3, e9, e12, e13]
    have r1' := (h.sub hN'.sub).rd j (by rw [rowL_len]; omega)
    have r2' := (h'.sub hN'.sub).rd j (by rw [rowL_len]; omega)
    rw [rowL_get _ (by omega)] at r1' r2'
    exact ⟨⟨r2', r1'⟩, m - 1, by omega, _, Sub.refl _, j + 1, A', c', rfl, rfl, by omega, by omega, hN'.cast (by rw [rowL_succ]; simp [I64]) rfl⟩
  · simp (maxSteps := 300000) (disch := omega) only [gs, gs2, gs3, gs4, ↓reduceIte, Nat.reduceEqDiff, Int.reduceToNat, Nat.reduceMul, Nat.reduceAdd, Nat.reduceBEq, isLd, e0, e1, e2, e3, e9, e12, e13, hjj]
    obtain rfl : j = C := by omega
    exact hk _ _ _ hN
theorem slices_IndexFuncS_ok {H G : GH} {b : Nat} {A : Nat → Option Addr} {c : Nat → Nat} {R C : Nat} {f : Int → Int → Int} {rest : List Value} {Z : Option Addr} {F : Value} {Y : Option Addr} {t d : Nat} {col : Int} (h : Rw H G b A c R C f rest Z) (hY : t < R → Y = some ⟨b, t, none⟩) (ht : t ≤ R) (hR : R < 2 ^ 20)
    (hF : ∀ i, i < R → ∀ K : Value → GH → Prop, K (.bool (decide (f i col ≠ 0))) G → gCl Try.prog F [.slice (A i) C (c i)] G K) {K : Value → GH → Prop}
    (h0 : (∀ j : Nat, t ≤ j → j < R → f j col = 0) → K (.int .i64 (-1)) G) (h1 : ∀ i : Nat, t ≤ i → i < R → f i col ≠ 0 → (∀ j : Nat, t ≤ j → j < i → f j col = 0) → K (.int .i64 ((i - t : Nat) : Int)) G) :
    GC Try.prog 253 [.slice Y (R - t) d, F] G K := by
  refine c_slices_IndexFunc_SS_int64_int64_i (by simp) ?_
  simp (maxSteps := 300000) (disch := omega) only [gs, gs2, gs3, gs4, ↓reduceIte, Nat.reduceEqDiff, Int.reduceToNat, Nat.reduceMul, Nat.reduceAdd, Nat.reduceBEq, isLd]
  refine gLoop_intro (fun m T G' => ∃ k : Nat, T 0 = .slice Y (R - t) d ∧ T 1 = F ∧ T 7 = .int .i64 ((R - t : Nat) : Int) ∧ T 8 = .int .i64 k ∧ m + k = R - t ∧ k ≤ R - t ∧ G = G' ∧ ∀ j : Nat, t ≤ j → j < t + k → f j col = 0)
    (R - t) ⟨0, by simp (maxSteps := 300000) (disch := omega) only [gs, gs2, gs3, gs4, ↓reduceIte, Nat.reduceEqDiff, Int.reduceToNat, Nat.reduceMul, Nat.reduceAdd, Nat.reduceBEq, isLd], by simp (maxSteps := 300000) (disch := omega) only [gs, gs2, gs3, gs4, ↓reduceIte, Nat.reduceEqDiff, Int.reduceToNat, Nat.reduceMul, Nat.reduceAdd, Nat.reduceBEq, isLd], by simp (maxSteps := 300000) (disch := omega) only [gs, gs2, gs3, gs4, ↓reduceIte, Nat.reduceEqDiff, Int.reduceToNat, Nat.reduceMul, Nat.reduceAdd, Nat.reduceBEq, isLd], by simp (maxSteps := 300000) (disch := omega) only [gs, gs2, gs3, gs4, ↓reduceIte, Nat.reduceEqDiff, Int.reduceToNat, Nat.reduceMul, Nat.reduceAdd, Nat.reduceBEq, isLd] <;> rfl, by omega, by omega, rfl, fun j h1 h2 => by omega⟩ ?_
  rintro m T G' ⟨k, e0, e1, e7, e8, hm, hk, rfl, hz⟩
  simp (maxSteps := 300000) (disch := omega) only [gs, gs2, gs3, gs4, ↓reduceIte, Nat.reduceEqDiff, Int.reduceToNat, Nat.reduceMul, Nat.reduceAdd, Nat.reduceBEq, isLd, e0, e1, e7, e8]
  by_cases hkk : (k : Int) < ((R - t : Nat) : Int)
  · have hr := h.get (i := t + k) (by omega)
    rw [hY (by omega)] at e0
    simp (maxSteps := 300000) (disch := omega) only [gs, gs2, gs3, gs4, ↓reduceIte, Nat.reduceEqDiff, Int.reduceToNat, Nat.reduceMul, Nat.reduceAdd, Nat.reduceBEq, isLd, e0, e1, e7, e8, hkk, hr]
    refine hF (t + k) (by omega) _ ?_
    by_cases g : f ((t + k : Nat) : Int) col = 0
    · rw [decide_eq_false (fun x => x g)]
      simp (maxSteps := 300000) (disch := omega) only [gs, gs2, gs3, gs4, ↓reduceIte, Nat.reduceEqDiff, Int.reduceToNat, Nat.reduceMul, Nat.reduceAdd, Nat.reduceBEq, isLd, e0, e1, e7, e8]
      exact ⟨m - 1, by omega, G, Sub.refl _, k + 1, by rw [hY (by omega)], rfl, by omega, by omega, rfl, fun j a1 a2 => by
        by_cases e : j = t + k
        · rw [e]; exact g
        · exact hz j a1 (by omega)⟩
    · rw [decide_eq_true g]
      simp (maxSteps := 300000) (disch := omega) only [gs, gs2, gs3, gs4, ↓reduceIte, Nat.reduceEqDiff, Int.reduceToNat, Nat.reduceMul, Nat.reduceAdd, Nat.reduceBEq, isLd, e0, e1, e7, e8]
      have := h1 (t + k) (by omega) (by omega) g (fun j a1 a2 => hz j a1 a2)
      rwa [show t + k - t = k by omega] at this
  · simp (maxSteps := 300000) (disch := omega) only [gs, gs2, gs3, gs4, ↓reduceIte, Nat.reduceEqDiff, Int.reduceToNat, Nat.reduceMul, Nat.reduceAdd, Nat.reduceBEq, isLd, e0, e1, e7, e8, hkk]
    exact h0 fun j a1 a2 => hz j a1 (by omega)
theorem setr_scl (f : Int → Int → Int) (t k p : Int) : scl f t k p = setr f t (fun j => (f t j * k) % p) := by
  funext i j; unfold scl setr; by_cases h : i = t
  · rw [if_pos h, if_pos h]
  · rw [if_neg h, if_neg h]
theorem sl_top {b R t cp : Nat} (ht : t ≤ R) (hR : R ≤ cp) : slV 1 (.slice (some ⟨b, 0, none⟩) R cp) (some (.int .i64 (t : Int))) none = some (if cp = t then .slice (some ⟨b, 0, none⟩) (R - t) (cp - t) else .slice (some ⟨b, t, none⟩) (R - t) (cp - t)) := by
  simp only [slV, onSl, bndV, onInt, Option.bind_some]
  rw [if_pos ⟨by omega, by omega⟩]
  simp only [Option.bind_some, Int.toNat_natCast]
  rw [if_pos ht]
  split <;> simp [pa_mk]
/-- some temporaries are as they were. -/
def SameE (T' T : Nat → Value) : Prop := ∀ t, t = 0 ∨ t = 1 ∨ t = 2 ∨ t = 8 ∨ t = 9 ∨ t = 10 ∨ t = 11 ∨ t = 16 ∨ t = 17 → T' t = T t
theorem SameE.upd {T' T : Nat → Value} (h : SameE T' T) {n : Nat} (v : Value) (hn : 17 < n ∨ n = 12 ∨ n = 13 ∨ n = 14 ∨ n = 15) : SameE (Gh.upd T' n v) T := fun t ht => by
  rw [upd_app, if_neg (by omega)]; exact h t ht
/-- the first rows are cleared. -/
def clrN (f : Int → Int → Int) (t k p : Int) (i : Nat) : Int → Int → Int := fun a => if a < i then clr f t k p a else f a
theorem clrN_t (f : Int → Int → Int) (t k p : Int) (i : Nat) : clrN f t k p i t = f t := by
  unfold clrN; split
  · funext j; unfold clr; rw [if_pos rfl]
  · rfl
theorem el_l0 {D G : GH} {b b10 cp t k : Nat} {A : Nat → Option Addr} {c : Nat → Nat} {R C : Nat} {h : Int → Int → Int} {rest : List Value} {Z : Option Addr} {p : Int} {T : Nat → Value} {Q : Cont} (hw : Rw D G b A c R C h rest Z) (hbz : ∀ a, Z = some a → a.block ≠ b) (hZ : ∀ a, Z = some a → ∃ e, D a.block = some e) (hR : R < 2 ^ 10) (hC : C < 2 ^ 10) (hr : Rng h p) (hp : 1 < p ∧ p ≤ 2 ^ 30)
    (ht : t < R) (hk : k < C) (k10 : rd D (some ⟨b10, 0, none⟩) = some (.int .i64 (k : Int)))
    (e0 : T 0 = .slice (some ⟨b, 0, none⟩) R cp) (e2 : T 2 = .int .i64 p) (e10 : T 10 = .pointer (some ⟨b10, 0, none⟩)) (e11 : T 11 = .int .i64 t) (e79 : T 79 = .slice (some ⟨b, 0, none⟩) R cp) (e80 : T 80 = .int .i64 R) (e81 : T 81 = .int .i64 0)
    (hQ : ∀ T' G' A' c', SameE T' T → Rw D G' b A' c' R C (clr h t k p) rest Z → Q (.ex 2) T' G') : gLoop (gW Try.prog c_impl_eliminate_l0) Q T G := by
  refine gLoop_intro (fun m T' G' => ∃ (i : Nat) (A' : Nat → Option Addr) (c' : Nat → Nat), T' 79 = .slice (some ⟨b, 0, none⟩) R cp ∧ T' 80 = .int .i64 R ∧ T' 81 = .int .i64 i ∧ m + i = R ∧ i ≤ R ∧ Rw D G' b A' c' R C (clrN h t k p i) rest Z ∧ SameE T' T)
    R ⟨0, A, c, e79, e80, e81, by omega, by omega, hw.cong fun i j hi hj => by unfold clrN; rw [if_neg (by omega)], fun _ _ => rfl⟩ ?_
  clear e79 e80 e81 hw
  rintro m T' G' ⟨i, A', c', e79, e80, e81, hm, hi, hw, hT⟩
  have e0 : T' 0 = .slice (some ⟨b, 0, none⟩) R cp := (hT 0 (by omega)).trans e0
  have e2 : T' 2 = .int .i64 p := (hT 2 (by omega)).trans e2
  have e10 : T' 10 = .pointer (some ⟨b10, 0, none⟩) := (hT 10 (by omega)).trans e10
  have e11 : T' 11 = .int .i64 t := (hT 11 (by omega)).trans e11
  have q10 := rd_sub hw.sub k10
  simp (maxSteps := 300000) (disch := omega) only [gs, gs2, gs3, gs4, ↓reduceIte, Nat.reduceEqDiff, Int.reduceToNat, Nat.reduceMul, Nat.reduceAdd, Nat.reduceBEq, isLd, e0, e2, e10, e11, e79, e80, e81]
  by_cases hii : (i : Int) < R
  rotate_left
  · simp (maxSteps := 300000) (disch := omega) only [gs, gs2, gs3, gs4, ↓reduceIte, Nat.reduceEqDiff, Int.reduceToNat, Nat.reduceMul, Nat.reduceAdd, Nat.reduceBEq, isLd, e0, e2, e10, e11, e79, e80, e81, hii]
    refine hQ _ _ A' c' ?_ (hw.cong fun a j ha hj => by unfold clrN; rw [if_pos (by omega)])
    repeat (first | exact hT | refine SameE.upd ?_ _ (by omega))
  have hgi := hw.get (i := i) (by omega)
  have hgt := hw.get ht
  have hci := hw.cell (i := i) (by omega) hk
  have hri : clrN h t k p i i = h i := by unfold clrN; rw [if_neg (by omega)]
  rw [hri] at hci
  have hsi := hw.sn (i := i) (by omega) (by omega)
  have hst := hw.sn ht (by omega)
  have hbi := hr i k
  simp (maxSteps := 300000) (disch := omega) only [gs, gs2, gs3, gs4, ↓reduceIte, Nat.reduceEqDiff, Int.reduceToNat, Nat.reduceMul, Nat.reduceAdd, Nat.reduceBEq, isLd, e0, e2, e10, e11, e79, e80, e81, hii, hgi]
  by_cases hit : i = t
  · subst hit
    simp (maxSteps := 300000) (disch := omega) only [gs, gs2, gs3, gs4, ↓reduceIte, Nat.reduceEqDiff, Int.reduceToNat, Nat.reduceMul, Nat.reduceAdd, Nat.reduceBEq, isLd, e0, e2, e10, e11, e79, e80, e81, hgi]
    refine ⟨m - 1, by omega, G', Sub.refl _, i + 1, A', c', rfl, by omega, by omega, hw.cong fun a j ha hj => ?_, ?_⟩
    · unfold clrN
      by_cases e : a = i
      · subst e
        rw [if_neg (by omega), if_pos (by omega)]; unfold clr; rw [if_pos rfl]
      · by_cases e2 : a < i
        · rw [if_pos (by omega), if_pos (by omega)]
        · rw [if_neg (by omega), if_neg (by omega)]
    · repeat (first | exact hT | refine SameE.upd ?_ _ (by omega))
  simp (maxSteps := 300000) (disch := omega) only [gs, gs2, gs3, gs4, ↓reduceIte, Nat.reduceEqDiff, Int.reduceToNat, Nat.reduceMul, Nat.reduceAdd, Nat.reduceBEq, isLd, e0, e2, e10, e11, e79, e80, e81, hgi, show ((i : Int) = t) = False from eq_false (by omega), q10, hci]
  by_cases hz : h i k = 0
  · simp (maxSteps := 300000) (disch := omega) only [gs, gs2, gs3, gs4, ↓reduceIte, Nat.reduceEqDiff, Int.reduceToNat, Nat.reduceMul, Nat.reduceAdd, Nat.reduceBEq, isLd, e0, e2, e10, e11, e79, e80, e81, eq_true hz]
    refine ⟨m - 1, by omega, G', Sub.refl _, i + 1, A', c', rfl, by omega, by omega, hw.cong fun a j ha hj => ?_, ?_⟩
    · unfold clrN
      by_cases e : a = i
      · subst e
        rw [if_neg (by omega), if_pos (by omega)]; unfold clr
        rw [if_neg (by omega), hz, Int.sub_zero, Int.add_mul_emod_self_left, Int.emod_eq_of_lt (hr a j).1 (hr a j).2]
      · by_cases e2 : a < i
        · rw [if_pos (by omega), if_pos (by omega)]
        · rw [if_neg (by omega), if_neg (by omega)]
    · repeat (first | exact hT | refine SameE.upd ?_ _ (by omega))
  simp (maxSteps := 300000) (disch := omega) only [gs, gs2, gs3, gs4, ↓reduceIte, Nat.reduceEqDiff, Int.reduceToNat, Nat.reduceMul, Nat.reduceAdd, Nat.reduceBEq, isLd, e0, e2, e10, e11, e79, e80, e81, eq_false hz, q10, hci, hgi, hgt]
  have hIi := hw.ints (i := i) (by omega)
  have hIt := hw.ints ht
  rw [hri] at hIi
  rw [clrN_t] at hIt
  refine impl_addTimes_ok (f := h i) (g := h t) hIi hIt hp ⟨by omega, by omega⟩ (fun j _ => hr i j) (fun j _ => hr t j) (by omega) fun G3 A3 c3 hN => ?_
  have hw3 := hw.up hN.sub
  have hrow := New.del (xs := rowL C fun j => (h i j + (p - h i k) * h t j) % p) (hN.cast rfl (rowL_len _ _).symm) hw.blk (Z := Z) (fun a ha => by obtain ⟨e, he⟩ := hZ a ha; exact ⟨e, hw.sub _ _ he⟩)
  simp (maxSteps := 300000) (disch := omega) only [gs, gs2, gs3, gs4, ↓reduceIte, Nat.reduceEqDiff, Int.reduceToNat, Nat.reduceMul, Nat.reduceAdd, Nat.reduceBEq, isLd, e0, e2, e10, e11, e79, e80, e81]
  refine ⟨⟨rd_sub hN.sub hci, rd_sub hN.sub q10⟩, ?_⟩
  refine hw3.st (by omega) hbz hrow fun G4 hw4 _ _ => ?_
  simp (maxSteps := 300000) (disch := omega) only [gs, gs2, gs3, gs4, ↓reduceIte, Nat.reduceEqDiff, Int.reduceToNat, Nat.reduceMul, Nat.reduceAdd, Nat.reduceBEq, isLd, e0, e2, e10, e11, e79, e80, e81]
  refine ⟨m - 1, by omega, G4, Sub.refl _, i + 1, _, _, rfl, by omega, by omega, hw4.cong fun a j ha hj => ?_, ?_⟩
  · unfold setr clrN
    by_cases e : a = i
    · subst e
      rw [if_pos rfl, if_pos (by omega)]; unfold clr
      rw [if_neg (by omega)]
    · rw [if_neg (by omega)]
      by_cases e2 : a < i
      · rw [if_pos (by omega), if_pos (by omega)]
      · rw [if_neg (by omega), if_neg (by omega)]
  · repeat (first | exact hT | refine SameE.upd ?_ _ (by omega))
abbrev elTail : GCode := .seq (.dreg c_impl_eliminate_13) (.seq (.reg c_impl_eliminate_14) (.seq (.dtree c_impl_eliminate_15) (.seq (.seq (.reg c_impl_eliminate_16) (.blk 2 (.loop c_impl_eliminate_l0))) (.reg c_impl_eliminate_23))))
theorem el_tail {H G : GH} {b b10 cp cq t k : Nat} {A : Nat → Option Addr} {c : Nat → Nat} {Ap : Option Addr} {R C : Nat} {g : Int → Int → Int} {rest : List Value} {p det : Int} {piv : List Int} {T : Nat → Value} {Q : Cont} (h : Rw H G b A c R C g rest Ap) (hR : R < 2 ^ 10) (hC : C < 2 ^ 10) (hr : Rng g p) (hp : 1 < p ∧ p ≤ 2 ^ 30)
    (ht : t < R) (hk : k < C) (hd : 0 ≤ det ∧ det < p) (hl : g t k ≠ 0) (k10 : rd (del G b) (some ⟨b10, 0, none⟩) = some (.int .i64 (k : Int))) (hO : Own G Ap cq (piv.map I64) 1 piv.length) (hOf : Off H Ap) (hda : ∀ a, Ap = some a → a.block ≠ b) (hpl : piv.length < 2 ^ 10)
    (e0 : T 0 = .slice (some ⟨b, 0, none⟩) R cp) (e1 : T 1 = .int .i64 C) (e2 : T 2 = .int .i64 p) (e8 : T 8 = .slice Ap piv.length cq) (e9 : T 9 = .int .i64 det) (e10 : T 10 = .pointer (some ⟨b10, 0, none⟩)) (e11 : T 11 = .int .i64 t) (e16 : T 16 = .int .i64 C) (e17 : T 17 = .int .i64 k)
    (hQ : ∀ T' G' A' c' Ap' cq', T' 0 = .slice (some ⟨b, 0, none⟩) R cp → T' 1 = .int .i64 C → T' 2 = .int .i64 p → T' 8 = .slice Ap' (piv.length + 1) cq' → T' 9 = .int .i64 (det * g t k % p) → T' 16 = .int .i64 C → T' 17 = .int .i64 k →
      Rw H G' b A' c' R C (clr (scl g t (invF (g t k) p) p) t k p) rest Ap' → Own G' Ap' cq' ((piv ++ [(k : Int)]).map I64) 1 (piv.length + 1) → Off H Ap' → (∀ a, Ap' = some a → a.block ≠ b) → Q .nrm T' G') : gW Try.prog elTail Q T G := by
  have q10 := rd_sub (Sub.del _ _) k10
  have hgt := h.get ht
  have hcl := h.cell ht hk
  have hsn := h.sn ht (by omega)
  have hb := hr t k
  have hmm := mulB (a := det) (b := g t k) (A := 2 ^ 30) (B := 2 ^ 30) (by omega) (by omega)
  have hnn : 0 ≤ det * g t k := Int.mul_nonneg hd.1 hb.1
  have w1 := w64 (det * g t k) (by omega) (by omega)
  have hrm : (det * g t k).tmod p = det * g t k % p := Int.tmod_eq_emod_of_nonneg hnn
  have hrem := fun x : Int => bin_rem .i64 x p (by omega)
  simp (maxSteps := 300000) (disch := omega) only [gs, gs2, gs3, gs4, ↓reduceIte, Nat.reduceEqDiff, Int.reduceToNat, Nat.reduceMul, Nat.reduceAdd, Nat.reduceBEq, isLd, e0, e1, e2, e8, e9, e10, e11, e16, e17, hgt, hcl, q10, w1, hrem, hrm]
  have hz : zc [.int .i64 0] C = (rowL C fun _ => 0).map I64 := by rw [zc_one, rep_range]; unfold rowL; rw [List.map_map]; rfl
  have hgr := h.ints ht
  have hinvb := pw_rng (a := g t k) (p := p) hp.1 (p - 2).toNat
  have key : ∀ (G1 : GH) (bz : Nat), Sub G G1 → IntS G1 (some ⟨bz, 0, none⟩) C (rowL C fun _ => 0) → ∀ {K : Value → GH → Prop}, (∀ G' A' c', New G1 G' A' c' ((rowL C fun j => (g t j * invF (g t k) p) % p).map I64) 1 C → K (.slice A' C c') G') → GC Try.prog 255 [.slice (some ⟨bz, 0, none⟩) C C, .slice (A t) C (c t), .int .i64 (invF (g t k) p), .int .i64 p] G1 K := by
    intro G1 bz s1 hz1 K hK
    refine impl_addTimes_ok (f := fun _ => 0) (g := g t) hz1 (hgr.sub s1) hp ⟨by unfold invF; omega, by unfold invF; omega⟩ (fun j _ => by omega) (fun j _ => hr t j) (by omega) fun G' A' c' hN => hK G' A' c' (hN.cast ?_ rfl)
    congr 1
    exact rowL_congr fun j _ => by rw [Int.zero_add, Int.mul_comm]
  have fin : ∀ (G1 G2 : GH) (A3 : Option Addr) (c3 : Nat) (T' : Nat → Value) (Q' : Cont), Sub G G1 → New G1 G2 A3 c3 ((rowL C fun j => (g t j * invF (g t k) p) % p).map I64) 1 C → SameE T' T → True := fun _ _ _ _ _ _ _ _ _ => trivial
  clear fin
  refine ⟨?_, ?_⟩
  · refine ⟨C, C, rfl, rfl, Nat.le_refl _, by omega, by omega, fun bz hbz => ?_⟩
    rw [hz]
    have sz := Sub.put hbz ⟨(rowL C fun _ => 0).map I64, true⟩
    have hI0 : IntS (put G bz ⟨(rowL C fun _ => 0).map I64, true⟩) (some ⟨bz, 0, none⟩) C (rowL C fun _ => 0) := by
      have := blk_ints (xs := rowL C fun _ => 0) (put_same G bz ⟨(rowL C fun _ => 0).map I64, true⟩)
      rwa [rowL_len] at this
    have hw1 := h.up sz
    have hO1 := hO.sub sz
    have kd1 := rd_sub (sz.del2 b) k10
    have hgt1 := hw1.get ht
    revert sz hI0 hw1 hO1 kd1 hgt1
    generalize put G bz ⟨(rowL C fun _ => 0).map I64, true⟩ = G1
    intro sz hI0 hw1 hO1 kd1 hgt1
    simp (maxSteps := 300000) (disch := omega) only [gs, gs2, gs3, gs4, ↓reduceIte, Nat.reduceEqDiff, Int.reduceToNat, Nat.reduceMul, Nat.reduceAdd, Nat.reduceBEq, isLd, hgt1]
    refine impl_inverseOf_ok ⟨by omega, by omega⟩ ⟨by omega, by omega⟩ ?_
    simp (maxSteps := 300000) (disch := omega) only [gs, gs2, gs3, gs4, ↓reduceIte, Nat.reduceEqDiff, Int.reduceToNat, Nat.reduceMul, Nat.reduceAdd, Nat.reduceBEq, isLd, hgt1]
    refine key G1 bz sz hI0 fun G2 A3 c3 hN => ?_
    simp (maxSteps := 300000) (disch := omega) only [gs, gs2, gs3, gs4, ↓reduceIte, Nat.reduceEqDiff, Int.reduceToNat, Nat.reduceMul, Nat.reduceAdd, Nat.reduceBEq, isLd, e0]
    have hO2 := hO1.sub hN.sub
    have hZ1 : ∀ a, Ap = some a → ∃ e, G1 a.block = some e := fun a ha => by
      rcases hO1 with ⟨h0, _⟩ | ⟨x, r, h0, h1, _⟩
      · rw [h0] at ha; cases ha
      · rw [h0] at ha; cases ha; exact ⟨_, h1⟩
    refine (hw1.up hN.sub).st ht hda (New.del (xs := rowL C fun j => (g t j * invF (g t k) p) % p) (hN.cast rfl (rowL_len _ _).symm) hw1.blk hZ1) fun G3 hw3 hdel _ => ?_
    rw [← setr_scl] at hw3
    have kd3 : rd (del G3 b) (some ⟨b10, 0, none⟩) = some (.int .i64 (k : Int)) := by rw [hdel]; exact rd_sub (hN.sub.del2 b) kd1
    have hO3 : Own G3 Ap cq (piv.map I64) 1 piv.length := (hO2.del hda).sub (by rw [← hdel]; exact Gh.Sub.del _ _)
    have hZ3 : ∀ a, Ap = some a → ∃ e, (del G3 b) a.block = some e := fun a ha => by
      rcases hO3 with ⟨h0, _⟩ | ⟨x, r, h0, h1, _⟩
      · rw [h0] at ha; cases ha
      · have := hda a ha
        rw [h0] at ha; cases ha; exact ⟨_, by rw [del_ne _ this]; exact h1⟩
    simp (maxSteps := 300000) (disch := omega) only [gs, gs2, gs3, gs4, ↓reduceIte, Nat.reduceEqDiff, Int.reduceToNat, Nat.reduceMul, Nat.reduceAdd, Nat.reduceBEq, isLd, e0]
    refine el_l0 (D := del G3 b) (cp := cp) (h := scl g t (invF (g t k) p) p) (t := t) (k := k) hw3.all hda hZ3 hR hC (hr.scl (by omega) _ _) hp ht hk kd3 (by simp (maxSteps := 300000) (disch := omega) only [gs, gs2, gs3, gs4, ↓reduceIte, Nat.reduceEqDiff, Int.reduceToNat, Nat.reduceMul, Nat.reduceAdd, Nat.reduceBEq, isLd, e0]) (by simp (maxSteps := 300000) (disch := omega) only [gs, gs2, gs3, gs4, ↓reduceIte, Nat.reduceEqDiff, Int.reduceToNat, Nat.reduceMul, Nat.reduceAdd, Nat.reduceBEq, isLd, e2]) (by simp (maxSteps := 300000) (disch := omega) only [gs, gs2, gs3, gs4, ↓reduceIte, Nat.reduceEqDiff, Int.reduceToNat, Nat.reduceMul, Nat.reduceAdd, Nat.reduceBEq, isLd, e10]) (by simp (maxSteps := 300000) (disch := omega) only [gs, gs2, gs3, gs4, ↓reduceIte, Nat.reduceEqDiff, Int.reduceToNat, Nat.reduceMul, Nat.reduceAdd, Nat.reduceBEq, isLd, e11]) (by simp (maxSteps := 300000) (disch := omega) only [gs, gs2, gs3, gs4, ↓reduceIte, Nat.reduceEqDiff, Int.reduceToNat, Nat.reduceMul, Nat.reduceAdd, Nat.reduceBEq, isLd, e0]) (by simp (maxSteps := 300000) (disch := omega) only [gs, gs2, gs3, gs4, ↓reduceIte, Nat.reduceEqDiff, Int.reduceToNat, Nat.reduceMul, Nat.reduceAdd, Nat.reduceBEq, isLd]) (by simp (maxSteps := 300000) (disch := omega) only [gs, gs2, gs3, gs4, ↓reduceIte, Nat.reduceEqDiff, Int.reduceToNat, Nat.reduceMul, Nat.reduceAdd, Nat.reduceBEq, isLd] <;> rfl) fun T' G4 A' c' hT hw4 => ?_
    have hO4 : Own G4 Ap cq (piv.map I64) 1 piv.length := (hO3.del hda).sub hw4.sub
    have q4 := rd_sub hw4.sub kd3
    have f0 : T' 0 = .slice (some ⟨b, 0, none⟩) R cp := (hT 0 (by omega)).trans (by simp (maxSteps := 300000) (disch := omega) only [gs, gs2, gs3, gs4, ↓reduceIte, Nat.reduceEqDiff, Int.reduceToNat, Nat.reduceMul, Nat.reduceAdd, Nat.reduceBEq, isLd, e0])
    have f1 : T' 1 = .int .i64 C := (hT 1 (by omega)).trans (by simp (maxSteps := 300000) (disch := omega) only [gs, gs2, gs3, gs4, ↓reduceIte, Nat.reduceEqDiff, Int.reduceToNat, Nat.reduceMul, Nat.reduceAdd, Nat.reduceBEq, isLd, e1])
    have f2 : T' 2 = .int .i64 p := (hT 2 (by omega)).trans (by simp (maxSteps := 300000) (disch := omega) only [gs, gs2, gs3, gs4, ↓reduceIte, Nat.reduceEqDiff, Int.reduceToNat, Nat.reduceMul, Nat.reduceAdd, Nat.reduceBEq, isLd, e2])
    have f8 : T' 8 = .slice Ap piv.length cq := (hT 8 (by omega)).trans (by simp (maxSteps := 300000) (disch := omega) only [gs, gs2, gs3, gs4, ↓reduceIte, Nat.reduceEqDiff, Int.reduceToNat, Nat.reduceMul, Nat.reduceAdd, Nat.reduceBEq, isLd, e8])
    have f9 : T' 9 = .int .i64 (det * g t k % p) := (hT 9 (by omega)).trans (by simp (maxSteps := 300000) (disch := omega) only [gs, gs2, gs3, gs4, ↓reduceIte, Nat.reduceEqDiff, Int.reduceToNat, Nat.reduceMul, Nat.reduceAdd, Nat.reduceBEq, isLd])
    have f10 : T' 10 = .pointer (some ⟨b10, 0, none⟩) := (hT 10 (by omega)).trans (by simp (maxSteps := 300000) (disch := omega) only [gs, gs2, gs3, gs4, ↓reduceIte, Nat.reduceEqDiff, Int.reduceToNat, Nat.reduceMul, Nat.reduceAdd, Nat.reduceBEq, isLd, e10])
    have f16 : T' 16 = .int .i64 C := (hT 16 (by omega)).trans (by simp (maxSteps := 300000) (disch := omega) only [gs, gs2, gs3, gs4, ↓reduceIte, Nat.reduceEqDiff, Int.reduceToNat, Nat.reduceMul, Nat.reduceAdd, Nat.reduceBEq, isLd, e16])
    have f17 : T' 17 = .int .i64 k := (hT 17 (by omega)).trans (by simp (maxSteps := 300000) (disch := omega) only [gs, gs2, gs3, gs4, ↓reduceIte, Nat.reduceEqDiff, Int.reduceToNat, Nat.reduceMul, Nat.reduceAdd, Nat.reduceBEq, isLd, e17])
    clear hT
    have hwH : Rw H G4 b A' c' R C (clr (scl g t (invF (g t k) p) p) t k p) rest Ap := ⟨(hw3.sub.in_del hw3.nb).trans hw4.sub, hw3.nb, hw4.blk, hw4.row⟩
    simp (maxSteps := 300000) (disch := omega) only [gs, gs2, gs3, gs4, ↓reduceIte, Nat.reduceEqDiff, Int.reduceToNat, Nat.reduceMul, Nat.reduceAdd, Nat.reduceBEq, isLd, f0, f1, f2, f8, f9, f10, f16, f17, q4, gBs]
    refine ⟨by intro v hv; simp at hv; subst hv; rfl, fun b15 hb15 => ?_⟩
    refine ap_own (hO4.sub (Sub.put hb15 _)) (cells_one [.int .i64 (k : Int)] true) rfl (by intro v hv; simp at hv; subst hv; rfl) rfl (by omega) (by omega) (by omega) fun G5 A5 c5 hO5 keep => ?_
    obtain ⟨s5, o5⟩ := keep _ (Sub.wo _ _) (Off.wo _ _)
    obtain ⟨hw5, oH5, d5⟩ := (hwH.up (Sub.put hb15 _)).rez hda hOf s5 o5
    simp (maxSteps := 300000) (disch := omega) only [gs, gs2, gs3, gs4, ↓reduceIte, Nat.reduceEqDiff, Int.reduceToNat, Nat.reduceMul, Nat.reduceAdd, Nat.reduceBEq, isLd, f0, f1, f2, f8, f9, f10, f16, f17]
    exact hQ _ _ A' c' A5 c5 (by simp (maxSteps := 300000) (disch := omega) only [gs, gs2, gs3, gs4, ↓reduceIte, Nat.reduceEqDiff, Int.reduceToNat, Nat.reduceMul, Nat.reduceAdd, Nat.reduceBEq, isLd, f0]) (by simp (maxSteps := 300000) (disch := omega) only [gs, gs2, gs3, gs4, ↓reduceIte, Nat.reduceEqDiff, Int.reduceToNat, Nat.reduceMul, Nat.reduceAdd, Nat.reduceBEq, isLd, f1]) (by simp (maxSteps := 300000) (disch := omega) only [gs, gs2, gs3, gs4, ↓reduceIte, Nat.reduceEqDiff, Int.reduceToNat, Nat.reduceMul, Nat.reduceAdd, Nat.reduceBEq, isLd, f2]) (by simp (maxSteps := 300000) (disch := omega) only [gs, gs2, gs3, gs4, ↓reduceIte, Nat.reduceEqDiff, Int.reduceToNat, Nat.reduceMul, Nat.reduceAdd, Nat.reduceBEq, isLd]) (by simp (maxSteps := 300000) (disch := omega) only [gs, gs2, gs3, gs4, ↓reduceIte, Nat.reduceEqDiff, Int.reduceToNat, Nat.reduceMul, Nat.reduceAdd, Nat.reduceBEq, isLd, f9]) (by simp (maxSteps := 300000) (disch := omega) only [gs, gs2, gs3, gs4, ↓reduceIte, Nat.reduceEqDiff, Int.reduceToNat, Nat.reduceMul, Nat.reduceAdd, Nat.reduceBEq, isLd, f16]) (by simp (maxSteps := 300000) (disch := omega) only [gs, gs2, gs3, gs4, ↓reduceIte, Nat.reduceEqDiff, Int.reduceToNat, Nat.reduceMul, Nat.reduceAdd, Nat.reduceBEq, isLd, f17]) hw5 (hO5.cast (by simp [I64]) rfl) oH5 d5
  · refine impl_inverseOf_ok ⟨by omega, by omega⟩ ⟨by omega, by omega⟩ ?_
    simp (maxSteps := 300000) (disch := omega) only [gs, gs2, gs3, gs4, ↓reduceIte, Nat.reduceEqDiff, Int.reduceToNat, Nat.reduceMul, Nat.reduceAdd, Nat.reduceBEq, isLd, hgt]
    refine ⟨C, C, rfl, rfl, Nat.le_refl _, by omega, by omega, fun bz hbz => ?_⟩
    rw [hz]
    have sz := Sub.put hbz ⟨(rowL C fun _ => 0).map I64, true⟩
    have hI0 : IntS (put G bz ⟨(rowL C fun _ => 0).map I64, true⟩) (some ⟨bz, 0, none⟩) C (rowL C fun _ => 0) := by
      have := blk_ints (xs := rowL C fun _ => 0) (put_same G bz ⟨(rowL C fun _ => 0).map I64, true⟩)
      rwa [rowL_len] at this
    have hw1 := h.up sz
    have hO1 := hO.sub sz
    have kd1 := rd_sub (sz.del2 b) k10
    have hgt1 := hw1.get ht
    revert sz hI0 hw1 hO1 kd1 hgt1
    generalize put G bz ⟨(rowL C fun _ => 0).map I64, true⟩ = G1
    intro sz hI0 hw1 hO1 kd1 hgt1
    simp (maxSteps := 300000) (disch := omega) only [gs, gs2, gs3, gs4, ↓reduceIte, Nat.reduceEqDiff, Int.reduceToNat, Nat.reduceMul, Nat.reduceAdd, Nat.reduceBEq, isLd, hgt1]
    refine key G1 bz sz hI0 fun G2 A3 c3 hN => ?_
    simp (maxSteps := 300000) (disch := omega) only [gs, gs2, gs3, gs4, ↓reduceIte, Nat.reduceEqDiff, Int.reduceToNat, Nat.reduceMul, Nat.reduceAdd, Nat.reduceBEq, isLd, e0]
    have hO2 := hO1.sub hN.sub
    have hZ1 : ∀ a, Ap = some a → ∃ e, G1 a.block = some e := fun a ha => by
      rcases hO1 with ⟨h0, _⟩ | ⟨x, r, h0, h1, _⟩
      · rw [h0] at ha; cases ha
      · rw [h0] at ha; cases ha; exact ⟨_, h1⟩
    refine (hw1.up hN.sub).st ht hda (New.del (xs := rowL C fun j => (g t j * invF (g t k) p) % p) (hN.cast rfl (rowL_len _ _).symm) hw1.blk hZ1) fun G3 hw3 hdel _ => ?_
    rw [← setr_scl] at hw3
    have kd3 : rd (del G3 b) (some ⟨b10, 0, none⟩) = some (.int .i64 (k : Int)) := by rw [hdel]; exact rd_sub (hN.sub.del2 b) kd1
    have hO3 : Own G3 Ap cq (piv.map I64) 1 piv.length := (hO2.del hda).sub (by rw [← hdel]; exact Gh.Sub.del _ _)
    have hZ3 : ∀ a, Ap = some a → ∃ e, (del G3 b) a.block = some e := fun a ha => by
      rcases hO3 with ⟨h0, _⟩ | ⟨x, r, h0, h1, _⟩
      · rw [h0] at ha; cases ha
      · have := hda a ha
        rw [h0] at ha; cases ha; exact ⟨_, by rw [del_ne _ this]; exact h1⟩
    simp (maxSteps := 300000) (disch := omega) only [gs, gs2, gs3, gs4, ↓reduceIte, Nat.reduceEqDiff, Int.reduceToNat, Nat.reduceMul, Nat.reduceAdd, Nat.reduceBEq, isLd, e0]
    refine el_l0 (D := del G3 b) (cp := cp) (h := scl g t (invF (g t k) p) p) (t := t) (k := k) hw3.all hda hZ3 hR hC (hr.scl (by omega) _ _) hp ht hk kd3 (by simp (maxSteps := 300000) (disch := omega) only [gs, gs2, gs3, gs4, ↓reduceIte, Nat.reduceEqDiff, Int.reduceToNat, Nat.reduceMul, Nat.reduceAdd, Nat.reduceBEq, isLd, e0]) (by simp (maxSteps := 300000) (disch := omega) only [gs, gs2, gs3, gs4, ↓reduceIte, Nat.reduceEqDiff, Int.reduceToNat, Nat.reduceMul, Nat.reduceAdd, Nat.reduceBEq, isLd, e2]) (by simp (maxSteps := 300000) (disch := omega) only [gs, gs2, gs3, gs4, ↓reduceIte, Nat.reduceEqDiff, Int.reduceToNat, Nat.reduceMul, Nat.reduceAdd, Nat.reduceBEq, isLd, e10]) (by simp (maxSteps := 300000) (disch := omega) only [gs, gs2, gs3, gs4, ↓reduceIte, Nat.reduceEqDiff, Int.reduceToNat, Nat.reduceMul, Nat.reduceAdd, Nat.reduceBEq, isLd, e11]) (by simp (maxSteps := 300000) (disch := omega) only [gs, gs2, gs3, gs4, ↓reduceIte, Nat.reduceEqDiff, Int.reduceToNat, Nat.reduceMul, Nat.reduceAdd, Nat.reduceBEq, isLd, e0]) (by simp (maxSteps := 300000) (disch := omega) only [gs, gs2, gs3, gs4, ↓reduceIte, Nat.reduceEqDiff, Int.reduceToNat, Nat.reduceMul, Nat.reduceAdd, Nat.reduceBEq, isLd]) (by simp (maxSteps := 300000) (disch := omega) only [gs, gs2, gs3, gs4, ↓reduceIte, Nat.reduceEqDiff, Int.reduceToNat, Nat.reduceMul, Nat.reduceAdd, Nat.reduceBEq, isLd] <;> rfl) fun T' G4 A' c' hT hw4 => ?_
    have hO4 : Own G4 Ap cq (piv.map I64) 1 piv.length := (hO3.del hda).sub hw4.sub
    have q4 := rd_sub hw4.sub kd3
    have f0 : T' 0 = .slice (some ⟨b, 0, none⟩) R cp := (hT 0 (by omega)).trans (by simp (maxSteps := 300000) (disch := omega) only [gs, gs2, gs3, gs4, ↓reduceIte, Nat.reduceEqDiff, Int.reduceToNat, Nat.reduceMul, Nat.reduceAdd, Nat.reduceBEq, isLd, e0])
    have f1 : T' 1 = .int .i64 C := (hT 1 (by omega)).trans (by simp (maxSteps := 300000) (disch := omega) only [gs, gs2, gs3, gs4, ↓reduceIte, Nat.reduceEqDiff, Int.reduceToNat, Nat.reduceMul, Nat.reduceAdd, Nat.reduceBEq, isLd, e1])
    have f2 : T' 2 = .int .i64 p := (hT 2 (by omega)).trans (by simp (maxSteps := 300000) (disch := omega) only [gs, gs2, gs3, gs4, ↓reduceIte, Nat.reduceEqDiff, Int.reduceToNat, Nat.reduceMul, Nat.reduceAdd, Nat.reduceBEq, isLd, e2])
    have f8 : T' 8 = .slice Ap piv.length cq := (hT 8 (by omega)).trans (by simp (maxSteps := 300000) (disch := omega) only [gs, gs2, gs3, gs4, ↓reduceIte, Nat.reduceEqDiff, Int.reduceToNat, Nat.reduceMul, Nat.reduceAdd, Nat.reduceBEq, isLd, e8])
    have f9 : T' 9 = .int .i64 (det * g t k % p) := (hT 9 (by omega)).trans (by simp (maxSteps := 300000) (disch := omega) only [gs, gs2, gs3, gs4, ↓reduceIte, Nat.reduceEqDiff, Int.reduceToNat, Nat.reduceMul, Nat.reduceAdd, Nat.reduceBEq, isLd])
    have f10 : T' 10 = .pointer (some ⟨b10, 0, none⟩) := (hT 10 (by omega)).trans (by simp (maxSteps := 300000) (disch := omega) only [gs, gs2, gs3, gs4, ↓reduceIte, Nat.reduceEqDiff, Int.reduceToNat, Nat.reduceMul, Nat.reduceAdd, Nat.reduceBEq, isLd, e10])
    have f16 : T' 16 = .int .i64 C := (hT 16 (by omega)).trans (by simp (maxSteps := 300000) (disch := omega) only [gs, gs2, gs3, gs4, ↓reduceIte, Nat.reduceEqDiff, Int.reduceToNat, Nat.reduceMul, Nat.reduceAdd, Nat.reduceBEq, isLd, e16])
    have f17 : T' 17 = .int .i64 k := (hT 17 (by omega)).trans (by simp (maxSteps := 300000) (disch := omega) only [gs, gs2, gs3, gs4, ↓reduceIte, Nat.reduceEqDiff, Int.reduceToNat, Nat.reduceMul, Nat.reduceAdd, Nat.reduceBEq, isLd, e17])
    clear hT
    have hwH : Rw H G4 b A' c' R C (clr (scl g t (invF (g t k) p) p) t k p) rest Ap := ⟨(hw3.sub.in_del hw3.nb).trans hw4.sub, hw3.nb, hw4.blk, hw4.row⟩
    simp (maxSteps := 300000) (disch := omega) only [gs, gs2, gs3, gs4, ↓reduceIte, Nat.reduceEqDiff, Int.reduceToNat, Nat.reduceMul, Nat.reduceAdd, Nat.reduceBEq, isLd, f0, f1, f2, f8, f9, f10, f16, f17, q4, gBs]
    refine ⟨by intro v hv; simp at hv; subst hv; rfl, fun b15 hb15 => ?_⟩
    refine ap_own (hO4.sub (Sub.put hb15 _)) (cells_one [.int .i64 (k : Int)] true) rfl (by intro v hv; simp at hv; subst hv; rfl) rfl (by omega) (by omega) (by omega) fun G5 A5 c5 hO5 keep => ?_
    obtain ⟨s5, o5⟩ := keep _ (Sub.wo _ _) (Off.wo _ _)
    obtain ⟨hw5, oH5, d5⟩ := (hwH.up (Sub.put hb15 _)).rez hda hOf s5 o5
    simp (maxSteps := 300000) (disch := omega) only [gs, gs2, gs3, gs4, ↓reduceIte, Nat.reduceEqDiff, Int.reduceToNat, Nat.reduceMul, Nat.reduceAdd, Nat.reduceBEq, isLd, f0, f1, f2, f8, f9, f10, f16, f17]
    exact hQ _ _ A' c' A5 c5 (by simp (maxSteps := 300000) (disch := omega) only [gs, gs2, gs3, gs4, ↓reduceIte, Nat.reduceEqDiff, Int.reduceToNat, Nat.reduceMul, Nat.reduceAdd, Nat.reduceBEq, isLd, f0]) (by simp (maxSteps := 300000) (disch := omega) only [gs, gs2, gs3, gs4, ↓reduceIte, Nat.reduceEqDiff, Int.reduceToNat, Nat.reduceMul, Nat.reduceAdd, Nat.reduceBEq, isLd, f1]) (by simp (maxSteps := 300000) (disch := omega) only [gs, gs2, gs3, gs4, ↓reduceIte, Nat.reduceEqDiff, Int.reduceToNat, Nat.reduceMul, Nat.reduceAdd, Nat.reduceBEq, isLd, f2]) (by simp (maxSteps := 300000) (disch := omega) only [gs, gs2, gs3, gs4, ↓reduceIte, Nat.reduceEqDiff, Int.reduceToNat, Nat.reduceMul, Nat.reduceAdd, Nat.reduceBEq, isLd]) (by simp (maxSteps := 300000) (disch := omega) only [gs, gs2, gs3, gs4, ↓reduceIte, Nat.reduceEqDiff, Int.reduceToNat, Nat.reduceMul, Nat.reduceAdd, Nat.reduceBEq, isLd, f9]) (by simp (maxSteps := 300000) (disch := omega) only [gs, gs2, gs3, gs4, ↓reduceIte, Nat.reduceEqDiff, Int.reduceToNat, Nat.reduceMul, Nat.reduceAdd, Nat.reduceBEq, isLd, f16]) (by simp (maxSteps := 300000) (disch := omega) only [gs, gs2, gs3, gs4, ↓reduceIte, Nat.reduceEqDiff, Int.reduceToNat, Nat.reduceMul, Nat.reduceAdd, Nat.reduceBEq, isLd, f17]) hw5 (hO5.cast (by simp [I64]) rfl) oH5 d5
abbrev elSwap : GCode := .seq (.reg c_impl_eliminate_10) (.cond (tt 30) (.seq (.dreg c_impl_eliminate_11) (.reg c_impl_eliminate_12)) .skip)
theorem el_swap {H G : GH} {b b10 cp cq t i k : Nat} {A : Nat → Option Addr} {c : Nat → Nat} {Ap : Option Addr} {R C n : Nat} {f : Int → Int → Int} {rest : List Value} {p det : Int} {cs : List Value} {T : Nat → Value} {Q : Cont} {X : GCode} (h : Rw H G b A c R C f rest Ap) (hR : R < 2 ^ 10) (hp : 1 < p ∧ p ≤ 2 ^ 30)
    (ht : t ≤ i) (hi : i < R) (hd : 0 ≤ det ∧ det < p) (k10 : rd (del G b) (some ⟨b10, 0, none⟩) = some (.int .i64 (k : Int))) (hO : Own G Ap cq cs 1 n) (hda : ∀ a, Ap = some a → a.block ≠ b)
    (e0 : T 0 = .slice (some ⟨b, 0, none⟩) R cp) (e1 : T 1 = .int .i64 C) (e2 : T 2 = .int .i64 p) (e8 : T 8 = .slice Ap n cq) (e9 : T 9 = .int .i64 det) (e10 : T 10 = .pointer (some ⟨b10, 0, none⟩)) (e11 : T 11 = .int .i64 t) (e12 : T 12 = .int .i64 ((i - t : Nat) : Int)) (e16 : T 16 = .int .i64 C) (e17 : T 17 = .int .i64 k)
    (hX : ∀ T' G' A' c', T' 0 = .slice (some ⟨b, 0, none⟩) R cp → T' 1 = .int .i64 C → T' 2 = .int .i64 p → T' 8 = .slice Ap n cq → T' 9 = .int .i64 (if i = t then det else (-det) % p) → T' 10 = .pointer (some ⟨b10, 0, none⟩) → T' 11 = .int .i64 t → T' 16 = .int .i64 C → T' 17 = .int .i64 k →
      Rw H G' b A' c' R C (swp f t i) rest Ap → Own G' Ap cq cs 1 n → rd (del G' b) (some ⟨b10, 0, none⟩) = some (.int .i64 (k : Int)) → gW Try.prog X Q T' G') : gW Try.prog (.seq elSwap X) Q T G := by
  simp (maxSteps := 300000) (disch := omega) only [gs, gs2, gs3, gs4, ↓reduceIte, Nat.reduceEqDiff, Int.reduceToNat, Nat.reduceMul, Nat.reduceAdd, Nat.reduceBEq, isLd, e12]
  by_cases hit : i = t
  · subst hit
    simp (maxSteps := 300000) (disch := omega) only [gs, gs2, gs3, gs4, ↓reduceIte, Nat.reduceEqDiff, Int.reduceToNat, Nat.reduceMul, Nat.reduceAdd, Nat.reduceBEq, isLd, show ((0 : Int) < ((i - i : Nat) : Int)) = False from eq_false (by omega)]
    exact hX _ G A c (by simp (maxSteps := 300000) (disch := omega) only [gs, gs2, gs3, gs4, ↓reduceIte, Nat.reduceEqDiff, Int.reduceToNat, Nat.reduceMul, Nat.reduceAdd, Nat.reduceBEq, isLd, e0]) (by simp (maxSteps := 300000) (disch := omega) only [gs, gs2, gs3, gs4, ↓reduceIte, Nat.reduceEqDiff, Int.reduceToNat, Nat.reduceMul, Nat.reduceAdd, Nat.reduceBEq, isLd, e1]) (by simp (maxSteps := 300000) (disch := omega) only [gs, gs2, gs3, gs4, ↓reduceIte, Nat.reduceEqDiff, Int.reduceToNat, Nat.reduceMul, Nat.reduceAdd, Nat.reduceBEq, isLd, e2]) (by simp (maxSteps := 300000) (disch := omega) only [gs, gs2, gs3, gs4, ↓reduceIte, Nat.reduceEqDiff, Int.reduceToNat, Nat.reduceMul, Nat.reduceAdd, Nat.reduceBEq, isLd, e8]) (by simp (maxSteps := 300000) (disch := omega) only [gs, gs2, gs3, gs4, ↓reduceIte, Nat.reduceEqDiff, Int.reduceToNat, Nat.reduceMul, Nat.reduceAdd, Nat.reduceBEq, isLd, e9]) (by simp (maxSteps := 300000) (disch := omega) only [gs, gs2, gs3, gs4, ↓reduceIte, Nat.reduceEqDiff, Int.reduceToNat, Nat.reduceMul, Nat.reduceAdd, Nat.reduceBEq, isLd, e10]) (by simp (maxSteps := 300000) (disch := omega) only [gs, gs2, gs3, gs4, ↓reduceIte, Nat.reduceEqDiff, Int.reduceToNat, Nat.reduceMul, Nat.reduceAdd, Nat.reduceBEq, isLd, e11]) (by simp (maxSteps := 300000) (disch := omega) only [gs, gs2, gs3, gs4, ↓reduceIte, Nat.reduceEqDiff, Int.reduceToNat, Nat.reduceMul, Nat.reduceAdd, Nat.reduceBEq, isLd, e16]) (by simp (maxSteps := 300000) (disch := omega) only [gs, gs2, gs3, gs4, ↓reduceIte, Nat.reduceEqDiff, Int.reduceToNat, Nat.reduceMul, Nat.reduceAdd, Nat.reduceBEq, isLd, e17]) (h.cong fun a j _ _ => by unfold swp; by_cases e : (a : Int) = i <;> simp [e]) hO k10
  have hgt := h.get (show t < R by omega)
  have hgi := h.get hi
  have hti : (t : Int) + ((i - t : Nat) : Int) = i := by omega
  simp (maxSteps := 300000) (disch := omega) only [gs, gs2, gs3, gs4, ↓reduceIte, Nat.reduceEqDiff, Int.reduceToNat, Nat.reduceMul, Nat.reduceAdd, Nat.reduceBEq, isLd, show ((0 : Int) < ((i - t : Nat) : Int)) = True from eq_true (by omega), e0, e11, e12, hgt, hgi, hti]
  refine h.st (i := t) (by omega) hda (h.row i hi) fun G1 h1 hd1 hd2 => ?_
  simp (maxSteps := 300000) (disch := omega) only [gs, gs2, gs3, gs4, ↓reduceIte, Nat.reduceEqDiff, Int.reduceToNat, Nat.reduceMul, Nat.reduceAdd, Nat.reduceBEq, isLd, e0, e11, e12, hti]
  refine h1.st hi hda (by rw [hd2]; exact h.row t (by omega)) fun G2 h2 hd3 _ => ?_
  have hO2 : Own G2 Ap cq cs 1 n := (hO.del hda).sub (by rw [← hd1, ← hd3]; exact Gh.Sub.del _ _)
  have k2 : rd (del G2 b) (some ⟨b10, 0, none⟩) = some (.int .i64 (k : Int)) := by rw [hd3, hd1]; exact k10
  simp (maxSteps := 300000) (disch := omega) only [gs, gs2, gs3, gs4, ↓reduceIte, Nat.reduceEqDiff, Int.reduceToNat, Nat.reduceMul, Nat.reduceAdd, Nat.reduceBEq, isLd, e0, e1, e2, e8, e9, e10, e11, e16, e17]
  refine impl_reduce_ok ⟨by omega, by omega⟩ ?_
  simp (maxSteps := 300000) (disch := omega) only [gs, gs2, gs3, gs4, ↓reduceIte, Nat.reduceEqDiff, Int.reduceToNat, Nat.reduceMul, Nat.reduceAdd, Nat.reduceBEq, isLd, e0, e1, e2, e8, e9, e10, e11, e16, e17]
  refine hX _ G2 _ _ (by simp (maxSteps := 300000) (disch := omega) only [gs, gs2, gs3, gs4, ↓reduceIte, Nat.reduceEqDiff, Int.reduceToNat, Nat.reduceMul, Nat.reduceAdd, Nat.reduceBEq, isLd, e0]) (by simp (maxSteps := 300000) (disch := omega) only [gs, gs2, gs3, gs4, ↓reduceIte, Nat.reduceEqDiff, Int.reduceToNat, Nat.reduceMul, Nat.reduceAdd, Nat.reduceBEq, isLd, e1]) (by simp (maxSteps := 300000) (disch := omega) only [gs, gs2, gs3, gs4, ↓reduceIte, Nat.reduceEqDiff, Int.reduceToNat, Nat.reduceMul, Nat.reduceAdd, Nat.reduceBEq, isLd, e2]) (by simp (maxSteps := 300000) (disch := omega) only [gs, gs2, gs3, gs4, ↓reduceIte, Nat.reduceEqDiff, Int.reduceToNat, Nat.reduceMul, Nat.reduceAdd, Nat.reduceBEq, isLd, e8]) (by simp (maxSteps := 300000) (disch := omega) only [gs, gs2, gs3, gs4, ↓reduceIte, Nat.reduceEqDiff, Int.reduceToNat, Nat.reduceMul, Nat.reduceAdd, Nat.reduceBEq, isLd, if_neg hit]; rw [Int.zero_sub]) (by simp (maxSteps := 300000) (disch := omega) only [gs, gs2, gs3, gs4, ↓reduceIte, Nat.reduceEqDiff, Int.reduceToNat, Nat.reduceMul, Nat.reduceAdd, Nat.reduceBEq, isLd, e10]) (by simp (maxSteps := 300000) (disch := omega) only [gs, gs2, gs3, gs4, ↓reduceIte, Nat.reduceEqDiff, Int.reduceToNat, Nat.reduceMul, Nat.reduceAdd, Nat.reduceBEq, isLd, e11]) (by simp (maxSteps := 300000) (disch := omega) only [gs, gs2, gs3, gs4, ↓reduceIte, Nat.reduceEqDiff, Int.reduceToNat, Nat.reduceMul, Nat.reduceAdd, Nat.reduceBEq, isLd, e16]) (by simp (maxSteps := 300000) (disch := omega) only [gs, gs2, gs3, gs4, ↓reduceIte, Nat.reduceEqDiff, Int.reduceToNat, Nat.reduceMul, Nat.reduceAdd, Nat.reduceBEq, isLd, e17]) (h2.cong fun a j _ _ => ?_) hO2 k2
  unfold setr swp
  by_cases e1 : (a : Int) = i
  · rw [if_pos e1, if_neg (by omega), if_pos e1]
  · by_cases e2 : (a : Int) = t
    · rw [if_neg e1, if_pos e2, if_pos e2]
    · rw [if_neg e1, if_neg e2, if_neg e2, if_neg e1]
theorem impl_eliminate_ok {H G : GH} {b cp : Nat} {A : Nat → Option Addr} {c : Nat → Nat} {R C : Nat} {f : Int → Int → Int} {rest : List Value} {p : Int} (h : Rw H G b A c R C f rest none) (hcp : R ≤ cp) (hR : R < 2 ^ 10) (hC : C < 2 ^ 10) (hr : Rng f p) (hp : 1 < p ∧ p ≤ 2 ^ 30) {K : Value → GH → Prop}
    (hk : ∀ G' A' c' Ap cq, Rw H G' b A' c' R C (elF p R f C).f rest Ap → IntS G' Ap cq (elF p R f C).piv → K (.tuple [.slice Ap (elF p R f C).piv.length cq, .int .i64 (elF p R f C).det].toArray) G') :
    GC Try.prog 231 [.slice (some ⟨b, 0, none⟩) R cp, .int .i64 C, .int .i64 p] G K := by
  refine c_impl_eliminate_i (by simp) ?_
  simp (maxSteps := 300000) (disch := omega) only [gs, gs2, gs3, gs4, ↓reduceIte, Nat.reduceEqDiff, Int.reduceToNat, Nat.reduceMul, Nat.reduceAdd, Nat.reduceBEq, isLd]
  refine gLoop_intro (fun m T G' => ∃ (k : Nat) (A' : Nat → Option Addr) (c' : Nat → Nat) (Ap : Option Addr) (cq : Nat), T 0 = .slice (some ⟨b, 0, none⟩) R cp ∧ T 1 = .int .i64 C ∧ T 2 = .int .i64 p ∧ T 8 = .slice Ap (elF p R f k).piv.length cq ∧ T 9 = .int .i64 (elF p R f k).det ∧ T 16 = .int .i64 C ∧ T 17 = .int .i64 k ∧ m + k = C ∧ k ≤ C ∧
      Rw H G' b A' c' R C (elF p R f k).f rest Ap ∧ Own G' Ap cq ((elF p R f k).piv.map I64) 1 (elF p R f k).piv.length ∧ Off H Ap ∧ ∀ a, Ap = some a → a.block ≠ b)
    C ⟨0, A, c, none, 0, by simp (maxSteps := 300000) (disch := omega) only [gs, gs2, gs3, gs4, ↓reduceIte, Nat.reduceEqDiff, Int.reduceToNat, Nat.reduceMul, Nat.reduceAdd, Nat.reduceBEq, isLd], by simp (maxSteps := 300000) (disch := omega) only [gs, gs2, gs3, gs4, ↓reduceIte, Nat.reduceEqDiff, Int.reduceToNat, Nat.reduceMul, Nat.reduceAdd, Nat.reduceBEq, isLd], by simp (maxSteps := 300000) (disch := omega) only [gs, gs2, gs3, gs4, ↓reduceIte, Nat.reduceEqDiff, Int.reduceToNat, Nat.reduceMul, Nat.reduceAdd, Nat.reduceBEq, isLd], by simp (maxSteps := 300000) (disch := omega) only [gs, gs2, gs3, gs4, ↓reduceIte, Nat.reduceEqDiff, Int.reduceToNat, Nat.reduceMul, Nat.reduceAdd, Nat.reduceBEq, isLd] <;> rfl, by simp (maxSteps := 300000) (disch := omega) only [gs, gs2, gs3, gs4, ↓reduceIte, Nat.reduceEqDiff, Int.reduceToNat, Nat.reduceMul, Nat.reduceAdd, Nat.reduceBEq, isLd] <;> rfl, by simp (maxSteps := 300000) (disch := omega) only [gs, gs2, gs3, gs4, ↓reduceIte, Nat.reduceEqDiff, Int.reduceToNat, Nat.reduceMul, Nat.reduceAdd, Nat.reduceBEq, isLd], by simp (maxSteps := 300000) (disch := omega) only [gs, gs2, gs3, gs4, ↓reduceIte, Nat.reduceEqDiff, Int.reduceToNat, Nat.reduceMul, Nat.reduceAdd, Nat.reduceBEq, isLd] <;> rfl, by omega, by omega, h, Own.nil _ _, Off.nil _, fun a ha => by cases ha⟩ ?_
  rintro m T G' ⟨k, A', c', Ap, cq, e0, e1, e2, e8, e9, e16, e17, hm, hkm, hw, hO, hOf, hda⟩
  have hrg := elF_rng (R := R) (by omega : 0 < p) hr k
  have hln := elF_len p R f k
  have hdt := elF_det hp.1 R f k
  have hstep : elF p R f (k + 1) = elS p R (elF p R f k) k := rfl
  simp (maxSteps := 300000) (disch := omega) only [gs, gs2, gs3, gs4, ↓reduceIte, Nat.reduceEqDiff, Int.reduceToNat, Nat.reduceMul, Nat.reduceAdd, Nat.reduceBEq, isLd, e0, e1, e2, e8, e9, e16, e17]
  by_cases hkk : (k : Int) < C
  rotate_left
  · simp (maxSteps := 300000) (disch := omega) only [gs, gs2, gs3, gs4, ↓reduceIte, Nat.reduceEqDiff, Int.reduceToNat, Nat.reduceMul, Nat.reduceAdd, Nat.reduceBEq, isLd, e0, e1, e2, e8, e9, e16, e17, hkk]
    obtain rfl : k = C := by omega
    exact hk _ _ _ _ _ hw hO.ints
  generalize elF p R f k = S at *
  simp (maxSteps := 300000) (disch := omega) only [gs, gs2, gs3, gs4, ↓reduceIte, Nat.reduceEqDiff, Int.reduceToNat, Nat.reduceMul, Nat.reduceAdd, Nat.reduceBEq, isLd, e0, e1, e2, e8, e9, e16, e17, hkk]
  intro b10 hb10
  simp (maxSteps := 300000) (disch := omega) only [gs, gs2, gs3, gs4, ↓reduceIte, Nat.reduceEqDiff, Int.reduceToNat, Nat.reduceMul, Nat.reduceAdd, Nat.reduceBEq, isLd, e0, e1, e2, e8, e9, e16, e17]
  refine st_one (put_same _ _ _) (by simp) rfl ?_
  rw [put_put', show List.set [Value.int .i64 0] 0 (.int .i64 (k : Int)) = [.int .i64 (k : Int)] from rfl]
  have s10 := Sub.put hb10 ⟨[.int .i64 (k : Int)], true⟩
  have k10 : rd (put G' b10 ⟨[.int .i64 (k : Int)], true⟩) (some ⟨b10, 0, none⟩) = some (.int .i64 (k : Int)) := rd_box _ _ _ 0 _ rfl
  have n10 : b10 ≠ b := (blk_ne hw.blk hb10).symm
  have hw := hw.up s10
  have hO := hO.sub s10
  have kd : rd (del (put G' b10 ⟨[.int .i64 (k : Int)], true⟩) b) (some ⟨b10, 0, none⟩) = some (.int .i64 (k : Int)) := by
    simp only [rd]; rw [del_ne _ n10, put_same]; rfl
  revert k10 hw hO kd
  generalize put G' b10 ⟨[.int .i64 (k : Int)], true⟩ = G2
  intro k10 hw hO kd
  simp (maxSteps := 300000) (disch := omega) only [gs, gs2, gs3, gs4, ↓reduceIte, Nat.reduceEqDiff, Int.reduceToNat, Nat.reduceMul, Nat.reduceAdd, Nat.reduceBEq, isLd, e0, e1, e2, e8, e9, e16, e17, k10, Option.map_none, sl_top hln.1 hcp]
  obtain ⟨Y, d', hY, hYe⟩ : ∃ Y d', (if cp = S.piv.length then Value.slice (some ⟨b, 0, none⟩) (R - S.piv.length) (cp - S.piv.length) else Value.slice (some ⟨b, S.piv.length, none⟩) (R - S.piv.length) (cp - S.piv.length)) = .slice Y (R - S.piv.length) d' ∧ (S.piv.length < R → Y = some ⟨b, S.piv.length, none⟩) := by
    by_cases e : cp = S.piv.length
    · exact ⟨_, _, if_pos e, fun x => by omega⟩
    · exact ⟨_, _, if_neg e, fun _ => rfl⟩
  rw [hY]
  refine slices_IndexFuncS_ok (col := (k : Int)) hw hYe hln.1 (by omega) (fun i hi K' hK' => ?_) (fun hno => ?_) fun i hi1 hi2 hi3 hi4 => ?_
  · simp (maxSteps := 300000) (disch := omega) only [gs, gs2, gs3, gs4, ↓reduceIte, Nat.reduceEqDiff, Int.reduceToNat, Nat.reduceMul, Nat.reduceAdd, Nat.reduceBEq, isLd]
    refine c_impl_eliminate_fn1_i (by simp) ?_
    have hc := hw.cell hi (j := k) (by omega)
    have hs := hw.sn hi (by omega)
    simp (maxSteps := 300000) (disch := omega) only [gs, gs2, gs3, gs4, ↓reduceIte, Nat.reduceEqDiff, Int.reduceToNat, Nat.reduceMul, Nat.reduceAdd, Nat.reduceBEq, isLd, k10, hc]
    exact hK'
  · simp (maxSteps := 300000) (disch := omega) only [gs, gs2, gs3, gs4, ↓reduceIte, Nat.reduceEqDiff, Int.reduceToNat, Nat.reduceMul, Nat.reduceAdd, Nat.reduceBEq, isLd, e0, e1, e2, e8, e9, e16, e17, show ((-1 : Int) < 0) = True from eq_true (by omega)]
    have hS : elS p R S k = ⟨S.f, S.piv, 0⟩ := by unfold elS; rw [fstRow_none hno]
    rw [hS] at hstep
    refine ⟨m - 1, by omega, G2, Sub.refl _, k + 1, A', c', Ap, cq, by rw [hstep], by rw [hstep], rfl, by omega, by omega, by rw [hstep]; exact hw, by rw [hstep]; exact hO, hOf, hda⟩
  · have hS : elS p R S k = ⟨clr (scl (swp S.f S.piv.length i) S.piv.length (invF (swp S.f S.piv.length i S.piv.length k) p) p) S.piv.length k p, S.piv ++ [(k : Int)], (if i = S.piv.length then S.det else (-S.det) % p) * swp S.f S.piv.length i S.piv.length k % p⟩ := by unfold elS; rw [fstRow_some hi1 hi2 hi3 hi4]
    rw [hS] at hstep
    have hsw : swp S.f S.piv.length i S.piv.length = S.f i := by unfold swp; rw [if_pos rfl]
    simp (maxSteps := 300000) (disch := omega) only [gs, gs2, gs3, gs4, ↓reduceIte, Nat.reduceEqDiff, Int.reduceToNat, Nat.reduceMul, Nat.reduceAdd, Nat.reduceBEq, isLd, e0, e1, e2, e8, e9, e16, e17]
    rw [decide_eq_false (show ¬ ((i - S.piv.length : Nat) : Int) < 0 by omega)]
    refine el_swap (X := elTail) (cp := cp) (k := k) (t := S.piv.length) (i := i) hw hR hp hi1 hi2 hdt kd hO hda (by simp (maxSteps := 300000) (disch := omega) only [gs, gs2, gs3, gs4, ↓reduceIte, Nat.reduceEqDiff, Int.reduceToNat, Nat.reduceMul, Nat.reduceAdd, Nat.reduceBEq, isLd, e0]) (by simp (maxSteps := 300000) (disch := omega) only [gs, gs2, gs3, gs4, ↓reduceIte, Nat.reduceEqDiff, Int.reduceToNat, Nat.reduceMul, Nat.reduceAdd, Nat.reduceBEq, isLd, e1]) (by simp (maxSteps := 300000) (disch := omega) only [gs, gs2, gs3, gs4, ↓reduceIte, Nat.reduceEqDiff, Int.reduceToNat, Nat.reduceMul, Nat.reduceAdd, Nat.reduceBEq, isLd, e2]) (by simp (maxSteps := 300000) (disch := omega) only [gs, gs2, gs3, gs4, ↓reduceIte, Nat.reduceEqDiff, Int.reduceToNat, Nat.reduceMul, Nat.reduceAdd, Nat.reduceBEq, isLd, e8]) (by simp (maxSteps := 300000) (disch := omega) only [gs, gs2, gs3, gs4, ↓reduceIte, Nat.reduceEqDiff, Int.reduceToNat, Nat.reduceMul, Nat.reduceAdd, Nat.reduceBEq, isLd, e9]) (by simp (maxSteps := 300000) (disch := omega) only [gs, gs2, gs3, gs4, ↓reduceIte, Nat.reduceEqDiff, Int.reduceToNat, Nat.reduceMul, Nat.reduceAdd, Nat.reduceBEq, isLd]) (by simp (maxSteps := 300000) (disch := omega) only [gs, gs2, gs3, gs4, ↓reduceIte, Nat.reduceEqDiff, Int.reduceToNat, Nat.reduceMul, Nat.reduceAdd, Nat.reduceBEq, isLd]) (by simp (maxSteps := 300000) (disch := omega) only [gs, gs2, gs3, gs4, ↓reduceIte, Nat.reduceEqDiff, Int.reduceToNat, Nat.reduceMul, Nat.reduceAdd, Nat.reduceBEq, isLd]) (by simp (maxSteps := 300000) (disch := omega) only [gs, gs2, gs3, gs4, ↓reduceIte, Nat.reduceEqDiff, Int.reduceToNat, Nat.reduceMul, Nat.reduceAdd, Nat.reduceBEq, isLd, e16]) (by simp (maxSteps := 300000) (disch := omega) only [gs, gs2, gs3, gs4, ↓reduceIte, Nat.reduceEqDiff, Int.reduceToNat, Nat.reduceMul, Nat.reduceAdd, Nat.reduceBEq, isLd, e17]) fun T2 G3 A3 c3 f0 f1 f2 f8 f9 f10 f11 f16 f17 hw3 hO3 kd3 => ?_
    have hd3 : 0 ≤ (if i = S.piv.length then S.det else (-S.det) % p) ∧ (if i = S.piv.length then S.det else (-S.det) % p) < p := by
      split
      · exact hdt
      · exact ⟨Int.emod_nonneg _ (by omega), Int.emod_lt_of_pos _ (by omega)⟩
    refine el_tail (cp := cp) (k := k) (t := S.piv.length) (g := swp S.f S.piv.length i) hw3 hR hC (hrg.swp _ _) hp (by omega) (by omega) hd3 (by rw [hsw]; exact hi3) kd3 hO3 hOf hda (by omega) f0 f1 f2 f8 f9 f10 f11 f16 f17 fun T4 G4 A4 c4 Ap4 cq4 g0 g1 g2 g8 g9 g16 g17 hw4 hO4 oH4 d4 => ?_
    simp (maxSteps := 300000) (disch := omega) only [gs, gs2, gs3, gs4, ↓reduceIte, Nat.reduceEqDiff, Int.reduceToNat, Nat.reduceMul, Nat.reduceAdd, Nat.reduceBEq, isLd, g0, g1, g2, g8, g9, g16, g17]
    refine ⟨m - 1, by omega, G4, Sub.refl _, k + 1, A4, c4, Ap4, cq4, ?_, ?_, rfl, by omega, by omega, by rw [hstep]; exact hw4, ?_, oH4, d4⟩
    · rw [hstep]; simp
    · rw [hstep]
    · rw [hstep]; exact hO4.cast rfl (by simp)
theorem swp_self (f : Int → Int → Int) (a : Int) : swp f a a = f := by
  funext i; unfold swp
  by_cases h : i = a
  · rw [if_pos h, h]
  · rw [if_neg h, if_neg h]
def ch : Nat → Nat → Nat
  | _, 0 => 1
  | 0, _ + 1 => 0
  | n + 1, k + 1 => ch n k + ch n (k + 1)
theorem Own.ne {G : GH} {A : Option Addr} {c sz n x : Nat} {cs : List Value} (h : Own G A c cs sz n) (hx : G x = none) : ∀ a, A = some a → a.block ≠ x := fun a ha e => by
  rcases h with ⟨h1, _⟩ | ⟨y, r, h1, h2, _⟩
  · rw [h1] at ha; cases ha
  · rw [h1] at ha; cases ha
    dsimp only at e
    rw [e, hx] at h2; cases h2
theorem Own.put {G : GH} {A : Option Addr} {c sz n b : Nat} {cs : List Value} (h : Own G A c cs sz n) (hne : ∀ a, A = some a → a.block ≠ b) (e : Ent) : Own (Gh.put G b e) A c cs sz n := by
  rcases h with h | ⟨b', r, h1, h2, h3⟩
  · exact .inl h
  · exact .inr ⟨b', r, h1, by rw [put_ne _ _ (hne _ h1)]; exact h2, h3⟩
/-- the nodes that are kept, and the rows and columns of these. -/
def keep (n : Nat) (om : List Int) : List Int := (iota n).filter fun v => !om.contains v
def sub (ks : List Int) (f : Int → Int → Int) : Int → Int → Int := fun i j => f (ks.getD i.toNat 0) (ks.getD j.toNat 0)
/-- rows to be read. -/
def RowsS (G : GH) (B : Option Addr) (R C : Nat) (f : Int → Int → Int) : Prop := ∃ (A : Nat → Option Addr) (c : Nat → Nat), (∀ i, i < R → rd G (pa B i) = some (.slice (A i) C (c i))) ∧ ∀ i : Nat, i < R → IntS G (A i) (c i) (rowL C (f i))
theorem RowsS.sub {G G' : GH} {B : Option Addr} {R C : Nat} {f : Int → Int → Int} (h : RowsS G B R C f) (s : Sub G G') : RowsS G' B R C f := by
  obtain ⟨A, c, h1, h2⟩ := h
  exact ⟨A, c, fun i hi => rd_sub s (h1 i hi), fun i hi => (h2 i hi).sub s⟩
theorem New.wo {G G' : GH} {A Z : Option Addr} {c : Nat} {xs : List Int} (h : New G G' A c (xs.map I64) 1 xs.length) (hZ : ∀ a, Z = some a → ∃ e, G a.block = some e) : IntS (Gh.wo G' Z) A c xs := by
  have hi := h.ints
  rcases h with ⟨_, _, h0, _, _⟩ | ⟨x, r, rfl, hx, rfl, _⟩
  · exact ⟨hi.cap, fun i hlt => by omega⟩
  · have hnz : ∀ a, Z = some a → a.block ≠ x := fun a ha e' => by
      obtain ⟨e2, h2⟩ := hZ a ha
      rw [e', hx] at h2; cases h2
    refine ⟨hi.cap, fun i hlt => ?_⟩
    have := hi.rd i hlt
    simp only [pa_mk, rd] at this ⊢
    rw [wo_ne hnz]; exact this
theorem rowsC_push (A : Nat → Option Addr) (c : Nat → Nat) (k C : Nat) (A' : Option Addr) (c' : Nat) : rowsC A c k C ++ [.slice A' C c'] = rowsC (fun i => if i = k then A' else A i) (fun i => if i = k then c' else c i) (k + 1) C := by
  unfold rowsC
  rw [List.range_succ, List.map_append, List.map_singleton]
  simp only [if_true]
  congr 1
  refine List.map_congr_left fun i hi => ?_
  have := List.mem_range.1 hi
  rw [if_neg (by omega), if_neg (by omega)]
theorem fcells_rowL (C : Nat) (g : Int → Int) : fcells C g = (rowL C g).map I64 := by
  unfold fcells rowL; rw [List.map_map]; rfl
/-- rows that are being built, all in blocks of their own. -/
def Bl2 (H G : GH) (Bo : Option Addr) (cb k C : Nat) (f : Int → Int → Int) : Prop := Sub H G ∧ Off H Bo ∧ ∃ (B cp : Nat → Nat) (rs : Nat → List Value), Own G Bo cb (rowsC (fun i => some ⟨B i, 0, none⟩) cp k C) 1 k ∧
  (∀ i : Nat, i < k → H (B i) = none ∧ wo G Bo (B i) = some ⟨fcells C (f i) ++ rs i, true⟩ ∧ C + (rs i).length = cp i) ∧ ∀ i j, i < k → j < k → B i = B j → i = j
theorem Bl2.up {H G G' : GH} {Bo : Option Addr} {cb k C : Nat} {f : Int → Int → Int} (h : Bl2 H G Bo cb k C f) (s : Sub G G') : Bl2 H G' Bo cb k C f := by
  obtain ⟨h1, h2, B, cp, rs, h3, h4, h5⟩ := h
  exact ⟨h1.trans s, h2, B, cp, rs, h3.sub s, fun i hi => ⟨(h4 i hi).1, wo_mono s Bo _ _ (h4 i hi).2.1, (h4 i hi).2.2⟩, h5⟩
theorem Bl2.start {H G : GH} {Bo : Option Addr} {cb C : Nat} {f : Int → Int → Int} (h : Own G Bo cb [] 1 0) (s : Sub H G) (o : Off H Bo) : Bl2 H G Bo cb 0 C f := ⟨s, o, fun _ => 0, fun _ => 0, fun _ => [], h, fun i hi => by omega, fun i j hi => by omega⟩
theorem Own.isSome {G : GH} {A : Option Addr} {c sz n : Nat} {cs : List Value} (h : Own G A c cs sz n) : ∀ a, A = some a → ∃ e, G a.block = some e := fun a ha => by
  rcases h with ⟨h0, _⟩ | ⟨x, r, h0, h1, _⟩
  · rw [h0] at ha; cases ha
  · rw [h0] at ha; cases ha; exact ⟨_, h1⟩
theorem Bl2.push {H G0 G1 G : GH} {Bo Bn A' : Option Addr} {cb k C c' dn : Nat} {f : Int → Int → Int} (h : Bl2 H G0 Bo cb k C f) (hN : New G0 G1 A' c' ((rowL C (f k)).map I64) 1 C) (hC : 0 < C) (s : Sub G1 G) (hn : Cells G Bn [.slice A' C c']) (hk : k < 2 ^ 20) {K : Value → GH → Prop}
    (hK : ∀ G' B' cb', Bl2 H G' B' cb' (k + 1) C f → K (.slice B' (k + 1) cb') G') : gAp 1 24 [.slice none 0 0] (.slice Bo k cb) (.slice Bn 1 dn) G K := by
  obtain ⟨g1, g2, B, cp, rs, h3, h4, h5⟩ := h
  have st := hN.sub.trans s
  have hZ := h3.isSome
  rcases hN with ⟨_, _, h0, _, _⟩ | ⟨bn, r, rfl, hbn, rfl, hl1, hl2, _⟩
  · omega
  rw [List.length_append, hl1] at hl2
  have hnz : ∀ a, Bo = some a → a.block ≠ bn := fun a ha e => by
    obtain ⟨e2, he2⟩ := hZ a ha
    rw [e, hbn] at he2; cases he2
  have hGn : wo G Bo bn = some ⟨fcells C (f k) ++ r, true⟩ := by
    rw [wo_ne hnz, fcells_rowL]; exact s _ _ (put_same _ _ _)
  refine ap_own (h3.sub st) hn rfl (by intro v hv; simp at hv; subst hv; rfl) rfl (by omega) (by omega) (by omega) fun G' B' cb' hO keep => hK G' B' cb' ?_
  obtain ⟨sk, ok⟩ := keep _ (Sub.wo _ _) (Off.wo _ _)
  have s0' : Sub H (wo G Bo) := fun x e hx => by
    rw [wo_ne fun a ha e' => by have := g2 a ha; rw [e', hx] at this; cases this]
    exact (g1.trans st) _ _ hx
  have s1 : Sub (wo G Bo) (wo G' B') := fun x e hx => by
    rw [wo_ne fun a ha e' => by have := ok a ha; rw [e', hx] at this; cases this]
    exact sk _ _ hx
  have hne : ∀ i, i < k → B i ≠ bn := fun i hi e => by
    have := Sub.wo _ _ _ _ (h4 i hi).2.1
    rw [e, hbn] at this; cases this
  refine ⟨s0'.trans sk, ok.mono s0', fun i => if i = k then bn else B i, fun i => if i = k then c' else cp i, fun i => if i = k then r else rs i, hO.cast ?_ rfl, fun i hi => ?_, fun i j hi hj e => ?_⟩
  · rw [rowsC_push]
    unfold rowsC
    refine List.map_congr_left fun i _ => ?_
    by_cases e : i = k
    · simp only [if_pos e]
    · simp only [if_neg e]
  · by_cases e : i = k
    · subst e; simp only [if_true]; exact ⟨g1.none hbn, s1 _ _ hGn, by omega⟩
    · simp only [if_neg e]; exact ⟨(h4 i (by omega)).1, s1 _ _ (wo_mono st Bo _ _ (h4 i (by omega)).2.1), (h4 i (by omega)).2.2⟩
  · by_cases e1 : i = k
    · by_cases e2 : j = k
      · omega
      · simp only [if_pos e1, if_neg e2] at e; exact absurd e.symm (hne j (by omega))
    · by_cases e2 : j = k
      · simp only [if_neg e1, if_pos e2] at e; exact absurd e (hne i (by omega))
      · simp only [if_neg e1, if_neg e2] at e; exact h5 i j (by omega) (by omega) e
/-- rows in blocks of their own, with the outer list. -/
structure Mr (H G : GH) (bO : Nat) (B cp : Nat → Nat) (R C : Nat) (rs : Nat → List Value) (ro : List Value) (f : Int → Int → Int) : Prop where
  sub : Sub H G
  nO : H bO = none
  o : G bO = some ⟨rowsC (fun i => some ⟨B i, 0, none⟩) cp R C ++ ro, true⟩
  nB : ∀ i, i < R → H (B i) = none
  b : ∀ i : Nat, i < R → G (B i) = some ⟨fcells C (f i) ++ rs i, true⟩
  inj : ∀ i j, i < R → j < R → B i = B j → i = j
  ne : ∀ i, i < R → B i ≠ bO
theorem Bl2.mr {H G : GH} {Bo : Option Addr} {cb k C : Nat} {f : Int → Int → Int} (h : Bl2 H G Bo cb k C f) (hk : 0 < k) : ∃ bO B cp rs ro, Bo = some ⟨bO, 0, none⟩ ∧ k ≤ cb ∧ Mr H G bO B cp k C rs ro f := by
  obtain ⟨g1, g2, B, cp, rs, h3, h4, h5⟩ := h
  rcases h3 with ⟨_, _, h0, _⟩ | ⟨b, r, rfl, h6, _, _, h7⟩
  · omega
  · refine ⟨b, B, cp, rs, r, rfl, h7, g1, g2 _ rfl, h6, fun i hi => (h4 i hi).1, fun i hi => Sub.wo _ _ _ _ (h4 i hi).2.1, h5, fun i hi e => ?_⟩
    have := (h4 i hi).2.1
    rw [e, Off.wo G (some ⟨b, 0, none⟩) _ rfl] at this
    cases this
theorem Mr.get {H G : GH} {bO : Nat} {B cp : Nat → Nat} {R C : Nat} {rs : Nat → List Value} {ro : List Value} {f : Int → Int → Int} (h : Mr H G bO B cp R C rs ro f) {i : Nat} (hi : i < R) : rd G (some ⟨bO, i, none⟩) = some (.slice (some ⟨B i, 0, none⟩) C (cp i)) := by
  simp only [rd, h.o, Option.bind_some]
  rw [List.getElem?_append_left (by rw [rowsC_len]; exact hi), rowsC_get hi]
theorem Mr.cell {H G : GH} {bO : Nat} {B cp : Nat → Nat} {R C : Nat} {rs : Nat → List Value} {ro : List Value} {f : Int → Int → Int} (h : Mr H G bO B cp R C rs ro f) {i j : Nat} (hi : i < R) (hj : j < C) : rd G (some ⟨B i, j, none⟩) = some (.int .i64 (f i j)) := by
  simp only [rd, h.b i hi, Option.bind_some]
  have := fcells_get (b := f i) (rest := rs i) (v := (j : Int)) (n := C) (by omega) (by omega)
  rwa [Int.toNat_natCast] at this
theorem Mr.up {H G G' : GH} {bO : Nat} {B cp : Nat → Nat} {R C : Nat} {rs : Nat → List Value} {ro : List Value} {f : Int → Int → Int} (h : Mr H G bO B cp R C rs ro f) (s : Sub G G') : Mr H G' bO B cp R C rs ro f := ⟨h.sub.trans s, h.nO, s _ _ h.o, h.nB, fun i hi => s _ _ (h.b i hi), h.inj, h.ne⟩
theorem Mr.low {H H' G : GH} {bO : Nat} {B cp : Nat → Nat} {R C : Nat} {rs : Nat → List Value} {ro : List Value} {f : Int → Int → Int} (h : Mr H G bO B cp R C rs ro f) (s : Sub H' H) : Mr H' G bO B cp R C rs ro f := ⟨s.trans h.sub, s.none h.nO, h.o, fun i hi => s.none (h.nB i hi), h.b, h.inj, h.ne⟩
theorem Mr.cong {H G : GH} {bO : Nat} {B cp : Nat → Nat} {R C : Nat} {rs : Nat → List Value} {ro : List Value} {f g : Int → Int → Int} (h : Mr H G bO B cp R C rs ro f) (e : ∀ i j : Nat, i < R → j < C → f i j = g i j) : Mr H G bO B cp R C rs ro g :=
  ⟨h.sub, h.nO, h.o, h.nB, fun i hi => by rw [h.b i hi, fcells_rowL, fcells_rowL, rowL_congr fun j hj => e i j hi hj], h.inj, h.ne⟩
theorem Mr.rows {H G : GH} {bO : Nat} {B cp : Nat → Nat} {R C : Nat} {rs : Nat → List Value} {ro : List Value} {f : Int → Int → Int} (h : Mr H G bO B cp R C rs ro f) (hc : ∀ i, i < R → C ≤ cp i) : RowsS G (some ⟨bO, 0, none⟩) R C f :=
  ⟨fun i => some ⟨B i, 0, none⟩, cp, fun i hi => by rw [pa_mk, Nat.zero_add]; exact h.get hi, fun i hi => ⟨by rw [rowL_len]; exact hc i hi, fun j hj => by rw [rowL_len] at hj; rw [pa_mk, Nat.zero_add, rowL_get _ hj]; exact h.cell hi hj⟩⟩
theorem Mr.st {H G : GH} {bO : Nat} {B cp : Nat → Nat} {R C : Nat} {rs : Nat → List Value} {ro : List Value} {f : Int → Int → Int} (h : Mr H G bO B cp R C rs ro f) {i j : Nat} (hi : i < R) (hj : j < C) {x : Int} {K : Value → GH → Prop} (hk : ∀ G', Mr H G' bO B cp R C rs ro (upd2 f i j x) → K undef G') : gSt 1 (.pointer (some ⟨B i, j, none⟩)) (.int .i64 x) G K := by
  refine st_src (h.b i hi) rfl (by rw [List.length_append, fcells_len]; omega) fun G' hK hb => hk G' ?_
  have hs := fcells_set (b := f i) (rest := rs i) (x := x) (v := (j : Int)) (n := C) (by omega) (by omega)
  rw [Int.toNat_natCast] at hs
  refine ⟨sub_keep hK (h.nB i hi) h.sub, h.nO, by rw [hK _ (h.ne i hi).symm]; exact h.o, h.nB, fun k hk' => ?_, h.inj, h.ne⟩
  by_cases e : k = i
  · subst e
    rw [hb]
    refine congrArg (fun l => some (⟨l, true⟩ : Ent)) ?_
    have e2 : fcells C (upd2 f k j x k) = fcells C (updAt (f k) j x) := by
      congr 1; funext b; simp [updAt, upd2]
    rw [e2]; exact hs
  · have hne : B k ≠ B i := fun x => e (h.inj _ _ hk' hi x)
    rw [hK _ hne, h.b k hk']
    have e2 : upd2 f i j x k = f k := by funext b; unfold upd2; rw [if_neg (by omega)]
    rw [e2]
theorem Mr.box {H G : GH} {bO x : Nat} {B cp : Nat → Nat} {R C : Nat} {rs : Nat → List Value} {ro : List Value} {f : Int → Int → Int} (h : Mr H G bO B cp R C rs ro f) (hx : G x = none) (e : Ent) : Mr (put H x e) (put G x e) bO B cp R C rs ro f := by
  have hO : bO ≠ x := blk_ne h.o hx
  have hB : ∀ i, i < R → B i ≠ x := fun i hi => blk_ne (h.b i hi) hx
  exact ⟨h.sub.both, by rw [put_ne _ _ hO]; exact h.nO, by rw [put_ne _ _ hO]; exact h.o, fun i hi => by rw [put_ne _ _ (hB i hi)]; exact h.nB i hi, fun i hi => by rw [put_ne _ _ (hB i hi)]; exact h.b i hi, h.inj, h.ne⟩
theorem Mr.stI {H G : GH} {bO : Nat} {B cp : Nat → Nat} {R C : Nat} {rs : Nat → List Value} {ro : List Value} {f : Int → Int → Int} (h : Mr H G bO B cp R C rs ro f) {u v : Int} (hu : 0 ≤ u) (hi : u < R) (h0 : 0 ≤ v) (hj : v < C) {x : Int} {K : Value → GH → Prop} (hk : ∀ G', Mr H G' bO B cp R C rs ro (upd2 f u v x) → K undef G') : gSt 1 (.pointer (some ⟨B u.toNat, v.toNat, none⟩)) (.int .i64 x) G K := by
  refine h.st (i := u.toNat) (j := v.toNat) (by omega) (by omega) fun G' h' => hk G' ?_
  rwa [Int.toNat_of_nonneg hu, Int.toNat_of_nonneg h0] at h'
theorem Mr.cellI {H G : GH} {bO : Nat} {B cp : Nat → Nat} {R C : Nat} {rs : Nat → List Value} {ro : List Value} {f : Int → Int → Int} (h : Mr H G bO B cp R C rs ro f) {u v : Int} (hu : 0 ≤ u) (hi : u < R) (h0 : 0 ≤ v) (hj : v < C) : rd G (some ⟨B u.toNat, v.toNat, none⟩) = some (.int .i64 (f u v)) := by
  have := h.cell (i := u.toNat) (j := v.toNat) (by omega) (by omega)
  rwa [Int.toNat_of_nonneg hu, Int.toNat_of_nonneg h0] at this
theorem spec_l16Rows_ok {G : GH} {q : Option Addr} {N : Gra} {A : Option Addr} {c : Nat} (h : GraP G q N A c) (hn : GraOk N) {K : Value → GH → Prop}
    (hk : ∀ G' bO B cp cb rs ro, Mr G G' bO B cp N.n.toNat N.n.toNat rs ro (lapK N.edges N.edges.length) → N.n.toNat ≤ cb → K (.slice (some ⟨bO, 0, none⟩) N.n.toNat cb) G') : GC Try.prog 160 [.pointer q] G K := by
  refine c_spec_l16Rows_i (by simp) ?_
  have hq := rd_some h.f0
  have f0 := h.f0
  have f1 := h.f1
  have hn1 := hn.1
  have hn4 := hn.2.2.2
  simp (maxSteps := 300000) (disch := omega) only [gs, gs2, gs3, gs4, ↓reduceIte, Nat.reduceEqDiff, Int.reduceToNat, Nat.reduceMul, Nat.reduceAdd, Nat.reduceBEq, isLd, gBs]
  refine ⟨by intro v hv; simp at hv, fun b7 hb7 => ?_⟩
  have hB0 : Bl2 G (put G b7 ⟨List.flatMap (fun v : Value => v.cells.toList) [], true⟩) (some ⟨b7, 0, none⟩) 0 0 N.n.toNat (fun _ _ => 0) := Bl2.start (.inr ⟨b7, [], rfl, put_same _ _ _, rfl, rfl, Nat.le_refl _⟩) (Sub.put hb7 _) (fun a ha => by cases ha; exact hb7)
  refine gLoop_intro (fun m T G' => ∃ (k : Nat) (Bo : Option Addr) (cb : Nat), T 0 = .pointer q ∧ T 3 = .slice Bo k cb ∧ T 4 = .int .i64 k ∧ m + k = N.n.toNat ∧ k ≤ N.n.toNat ∧ Bl2 G G' Bo cb k N.n.toNat (fun _ _ => 0))
    N.n.toNat ⟨0, _, _, by simp (maxSteps := 300000) (disch := omega) only [gs, gs2, gs3, gs4, ↓reduceIte, Nat.reduceEqDiff, Int.reduceToNat, Nat.reduceMul, Nat.reduceAdd, Nat.reduceBEq, isLd], by simp (maxSteps := 300000) (disch := omega) only [gs, gs2, gs3, gs4, ↓reduceIte, Nat.reduceEqDiff, Int.reduceToNat, Nat.reduceMul, Nat.reduceAdd, Nat.reduceBEq, isLd] <;> rfl, by simp (maxSteps := 300000) (disch := omega) only [gs, gs2, gs3, gs4, ↓reduceIte, Nat.reduceEqDiff, Int.reduceToNat, Nat.reduceMul, Nat.reduceAdd, Nat.reduceBEq, isLd] <;> rfl, by omega, by omega, hB0⟩ ?_
  clear hB0 hb7
  rintro m T G' ⟨k, Bo, cb, e0, e3, e4, hm, hkm, hB⟩
  have g0 := rd_sub hB.1 f0
  have g1 := rd_sub hB.1 f1
  simp (maxSteps := 300000) (disch := omega) only [gs, gs2, gs3, gs4, ↓reduceIte, Nat.reduceEqDiff, Int.reduceToNat, Nat.reduceMul, Nat.reduceAdd, Nat.reduceBEq, isLd, e0, e3, e4, g0]
  by_cases hkk : (k : Int) < N.n
  · simp (maxSteps := 300000) (disch := omega) only [gs, gs2, gs3, gs4, ↓reduceIte, Nat.reduceEqDiff, Int.reduceToNat, Nat.reduceMul, Nat.reduceAdd, Nat.reduceBEq, isLd, e0, e3, e4, g0, hkk]
    refine ⟨N.n.toNat, N.n.toNat, by rw [Int.toNat_of_nonneg (by omega)], by rw [Int.toNat_of_nonneg (by omega)], Nat.le_refl _, by omega, by omega, fun b21 hb21 => ?_⟩
    have hz : zc [.int .i64 0] N.n.toNat = (rowL N.n.toNat fun _ => 0).map I64 := by rw [zc_one, rep_range]; unfold rowL; rw [List.map_map]; rfl
    rw [hz]
    have hN : New G' (put G' b21 ⟨(rowL N.n.toNat fun _ => 0).map I64, true⟩) (some ⟨b21, 0, none⟩) N.n.toNat ((rowL N.n.toNat fun _ => 0).map I64) 1 N.n.toNat := .inr ⟨b21, [], rfl, hb21, by rw [List.append_nil], by simp [rowL], by simp [rowL], Nat.le_refl _⟩
    simp (maxSteps := 300000) (disch := omega) only [gs, gs2, gs3, gs4, ↓reduceIte, Nat.reduceEqDiff, Int.reduceToNat, Nat.reduceMul, Nat.reduceAdd, Nat.reduceBEq, isLd, e0, e3, e4, gBs]
    refine ⟨by intro v hv; simp at hv; subst hv; rfl, fun b22 hb22 => ?_⟩
    refine hB.push hN (by omega) (Sub.put hb22 _) (cells_one [.slice (some ⟨b21, 0, none⟩) N.n.toNat N.n.toNat] true) (by omega) fun G4 B4 c4 hB4 => ?_
    simp (maxSteps := 300000) (disch := omega) only [gs, gs2, gs3, gs4, ↓reduceIte, Nat.reduceEqDiff, Int.reduceToNat, Nat.reduceMul, Nat.reduceAdd, Nat.reduceBEq, isLd, e0, e3, e4]
    exact ⟨m - 1, by omega, G4, Sub.refl _, k + 1, B4, c4, rfl, rfl, by omega, by omega, hB4⟩
  · obtain rfl : k = N.n.toNat := by omega
    obtain ⟨bO, B, cp, rs, ro, rfl, hcap, hM⟩ := hB.mr (by omega)
    simp (maxSteps := 300000) (disch := omega) only [gs, gs2, gs3, gs4, ↓reduceIte, Nat.reduceEqDiff, Int.reduceToNat, Nat.reduceMul, Nat.reduceAdd, Nat.reduceBEq, isLd, e0, e3, e4, g0, hkk]
    refine gLoop_intro (fun m T G' => ∃ k : Nat, T 0 = .pointer q ∧ T 3 = .slice (some ⟨bO, 0, none⟩) N.n.toNat cb ∧ T 5 = .int .i64 k ∧ m + k = N.edges.length ∧ k ≤ N.edges.length ∧ Mr G G' bO B cp N.n.toNat N.n.toNat rs ro (lapK N.edges k))
      N.edges.length ⟨0, by simp (maxSteps := 300000) (disch := omega) only [gs, gs2, gs3, gs4, ↓reduceIte, Nat.reduceEqDiff, Int.reduceToNat, Nat.reduceMul, Nat.reduceAdd, Nat.reduceBEq, isLd, e0], by simp (maxSteps := 300000) (disch := omega) only [gs, gs2, gs3, gs4, ↓reduceIte, Nat.reduceEqDiff, Int.reduceToNat, Nat.reduceMul, Nat.reduceAdd, Nat.reduceBEq, isLd, e3], by simp (maxSteps := 300000) (disch := omega) only [gs, gs2, gs3, gs4, ↓reduceIte, Nat.reduceEqDiff, Int.reduceToNat, Nat.reduceMul, Nat.reduceAdd, Nat.reduceBEq, isLd] <;> rfl, by omega, by omega, hM⟩ ?_
    clear e0 e3 e4 hkk hm hM g0 g1 hB
    rintro m T G' ⟨k, e0, e3, e5, hm, hkm, hM⟩
    have g1 := rd_sub hM.sub f1
    have hh := h.edges.sub hM.sub
    have hsn := hh.sn
    have p0 := hh.r0
    have p1 := hh.r1
    have p2 := hh.r2
    simp (maxSteps := 300000) (disch := omega) only [gs, gs2, gs3, gs4, ↓reduceIte, Nat.reduceEqDiff, Int.reduceToNat, Nat.reduceMul, Nat.reduceAdd, Nat.reduceBEq, isLd, e0, e3, e5, g1]
    by_cases hkk : (k : Int) < N.edges.length
    · simp (maxSteps := 300000) (disch := omega) only [gs, gs2, gs3, gs4, ↓reduceIte, Nat.reduceEqDiff, Int.reduceToNat, Nat.reduceMul, Nat.reduceAdd, Nat.reduceBEq, isLd, e0, e3, e5, g1, hkk, p0, p1, p2]
      intro b6 hb6
      simp (maxSteps := 300000) (disch := omega) only [gs, gs2, gs3, gs4, ↓reduceIte, Nat.reduceEqDiff, Int.reduceToNat, Nat.reduceMul, Nat.reduceAdd, Nat.reduceBEq, isLd, e0, e3, e5]
      refine st_fresh (vs := c3 (N.edges.getD k z3)) rfl rfl rfl (c3_one _) ?_
      have hM1 := hM.box hb6 ⟨c3 (N.edges.getD k z3), true⟩
      have hsub : Sub G (put G b6 ⟨c3 (N.edges.getD k z3), true⟩) := Sub.put (hM.sub.none hb6) _
      have q0 : rd (put G b6 ⟨c3 (N.edges.getD k z3), true⟩) (some ⟨b6, 0, none⟩) = some (.int .i64 (N.edges.getD k z3).1) := rd_box _ _ _ 0 _ rfl
      have q1 : rd (put G b6 ⟨c3 (N.edges.getD k z3), true⟩) (some ⟨b6, 1, none⟩) = some (.int .i64 (N.edges.getD k z3).2.1) := rd_box _ _ _ 1 _ rfl
      have q2 : rd (put G b6 ⟨c3 (N.edges.getD k z3), true⟩) (some ⟨b6, 2, none⟩) = some (.int .i64 (N.edges.getD k z3).2.2) := rd_box _ _ _ 2 _ rfl
      obtain ⟨o1, o2, o3, o4⟩ := hn.2.1 k (by omega)
      have hl : ∀ i j, -216 ≤ lapK N.edges k i j ∧ lapK N.edges k i j ≤ 216 := fun i j => by
        have := lapK_bd hn.okE (fun i hi => by have := hn.2.1 i hi; unfold okEdge at this; omega) i j k hkm
        omega
      have hnew := lap_new hn.okE (k := k) (by omega)
      have hlap : lapK N.edges (k + 1) = upd2 (upd2 (upd2 (upd2 (lapK N.edges k) (N.edges.getD k z3).1 (N.edges.getD k z3).1 (lapK N.edges k (N.edges.getD k z3).1 (N.edges.getD k z3).1 + (N.edges.getD k z3).2.2)) (N.edges.getD k z3).2.1 (N.edges.getD k z3).2.1 (upd2 (lapK N.edges k) (N.edges.getD k z3).1 (N.edges.getD k z3).1 (lapK N.edges k (N.edges.getD k z3).1 (N.edges.getD k z3).1 + (N.edges.getD k z3).2.2) (N.edges.getD k z3).2.1 (N.edges.getD k z3).2.1 + (N.edges.getD k z3).2.2)) (N.edges.getD k z3).1 (N.edges.getD k z3).2.1 (-(N.edges.getD k z3).2.2)) (N.edges.getD k z3).2.1 (N.edges.getD k z3).1 (-(N.edges.getD k z3).2.2) := rfl
      clear hM p0 p1 p2 hh hsn
      revert hM1 hsub q0 q1 q2
      generalize put G' b6 ⟨c3 (N.edges.getD k z3), true⟩ = H
      generalize put G b6 ⟨c3 (N.edges.getD k z3), true⟩ = H0
      intro hM1 hsub q0 q1 q2
      generalize (N.edges.getD k z3).1 = u at *
      generalize (N.edges.getD k z3).2.1 = w at *
      generalize (N.edges.getD k z3).2.2 = z at *
      generalize lapK N.edges k = L at *
      have r0 := rd_sub hM1.sub q0
      have r1 := rd_sub hM1.sub q1
      have r2 := rd_sub hM1.sub q2
      have ru := hM1.get (i := u.toNat) (by omega)
      have hg := hM1.cellI (u := u) (v := u) (by omega) (by omega) (by omega) (by omega)
      have hl1 := hl u u
      have hl2 := hl w w
      simp (maxSteps := 300000) (disch := omega) only [gs, gs2, gs3, gs4, ↓reduceIte, Nat.reduceEqDiff, Int.reduceToNat, Nat.reduceMul, Nat.reduceAdd, Nat.reduceBEq, isLd, e0, e3, e5, r0, r1, r2, ru, hg]
      refine hM1.stI (u := u) (v := u) (by omega) (by omega) (by omega) (by omega) fun H2 hM2 => ?_
      have r0 := rd_sub hM2.sub q0
      have r1 := rd_sub hM2.sub q1
      have r2 := rd_sub hM2.sub q2
      have rw2 := hM2.get (i := w.toNat) (by omega)
      have hg := hM2.cellI (u := w) (v := w) (by omega) (by omega) (by omega) (by omega)
      have e5' : upd2 L u u (L u u + z) w w = L w w := if_neg (by omega)
      rw [e5'] at hg hlap
      simp (maxSteps := 300000) (disch := omega) only [gs, gs2, gs3, gs4, ↓reduceIte, Nat.reduceEqDiff, Int.reduceToNat, Nat.reduceMul, Nat.reduceAdd, Nat.reduceBEq, isLd, e0, e3, e5, r0, r1, r2, rw2, hg]
      refine hM2.stI (u := w) (v := w) (by omega) (by omega) (by omega) (by omega) fun H3 hM3 => ?_
      have r0 := rd_sub hM3.sub q0
      have r1 := rd_sub hM3.sub q1
      have r2 := rd_sub hM3.sub q2
      have ru := hM3.get (i := u.toNat) (by omega)
      have hg := hM3.cellI (u := u) (v := w) (by omega) (by omega) (by omega) (by omega)
      have e6 : upd2 (upd2 L u u (L u u + z)) w w (L w w + z) u w = 0 := by
        unfold upd2; rw [if_neg (by omega), if_neg (by omega)]; exact hnew.1
      rw [e6] at hg
      simp (maxSteps := 300000) (disch := omega) only [gs, gs2, gs3, gs4, ↓reduceIte, Nat.reduceEqDiff, Int.reduceToNat, Nat.reduceMul, Nat.reduceAdd, Nat.reduceBEq, isLd, e0, e3, e5, r0, r1, r2, ru, hg]
      refine hM3.stI (u := u) (v := w) (by omega) (by omega) (by omega) (by omega) fun H4 hM4 => ?_
      have r0 := rd_sub hM4.sub q0
      have r1 := rd_sub hM4.sub q1
      have r2 := rd_sub hM4.sub q2
      have rw4 := hM4.get (i := w.toNat) (by omega)
      have hg := hM4.cellI (u := w) (v := u) (by omega) (by omega) (by omega) (by omega)
      have e7 : ∀ y, upd2 (upd2 (upd2 L u u (L u u + z)) w w (L w w + z)) u w y w u = 0 := fun y => by
        unfold upd2; rw [if_neg (by omega), if_neg (by omega), if_neg (by omega)]; exact hnew.2
      rw [e7] at hg
      simp (maxSteps := 300000) (disch := omega) only [gs, gs2, gs3, gs4, ↓reduceIte, Nat.reduceEqDiff, Int.reduceToNat, Nat.reduceMul, Nat.reduceAdd, Nat.reduceBEq, isLd, e0, e3, e5, r0, r1, r2, rw4, hg]
      refine hM4.stI (u := w) (v := u) (by omega) (by omega) (by omega) (by omega) fun H5 hM5 => ?_
      simp (maxSteps := 300000) (disch := omega) only [gs, gs2, gs3, gs4, ↓reduceIte, Nat.reduceEqDiff, Int.reduceToNat, Nat.reduceMul, Nat.reduceAdd, Nat.reduceBEq, isLd, e0, e3, e5]
      rw [Int.zero_sub, ← hlap] at hM5
      exact ⟨m - 1, by omega, _, Sub.refl _, k + 1, rfl, by omega, by omega, hM5.low hsub⟩
    · simp (maxSteps := 300000) (disch := omega) only [gs, gs2, gs3, gs4, ↓reduceIte, Nat.reduceEqDiff, Int.reduceToNat, Nat.reduceMul, Nat.reduceAdd, Nat.reduceBEq, isLd, e0, e3, e5, g1, hkk]
      obtain rfl : k = N.edges.length := by omega
      exact hk _ _ _ _ _ _ _ hM hcap
def PrimeP (p : Int) : Prop := (2 ≤ p ∧ p ≤ 251) ∧ ∀ k : Int, 2 ≤ k → k * k ≤ p → p % k ≠ 0
theorem PrimeP.inv {p : Int} (h : PrimeP p) : HasInv p := hasInv_small h.1.1 h.1.2 h.2
open Classical in
/-- the rows: the Laplacian modulo p, but those of the unit at nodes that are fixed; the last column has what they give. -/
noncomputable def harF (N : Gra) (p : Int) (fixed values : List Int) : Int → Int → Int := fun i j =>
  if i ∈ fixed then (if j = N.n then values.getD (fixed.idxOf i) 0 else if j = i then 1 else 0) else if j = N.n then 0 else lapK N.edges N.edges.length i j % p
theorem harF_rng {N : Gra} {p : Int} (hp : PrimeP p) (fixed : List Int) {values : List Int} (hv : InB values 0 (p - 1)) : Rng (harF N p fixed values) p := fun i j => by
  have h2 := hp.1
  unfold harF
  split
  · split
    · by_cases h : fixed.idxOf i < values.length
      · have := hv _ h; omega
      · have : values.getD (fixed.idxOf i) 0 = 0 := by simp [List.getD, show values.length ≤ fixed.idxOf i by omega]
        omega
    · split <;> omega
  · split
    · omega
    · exact ⟨Int.emod_nonneg _ (by omega), Int.emod_lt_of_pos _ (by omega)⟩
theorem rise_mono {xs : List Int} (h : Rise xs) : ∀ {i j : Nat}, i < j → j < xs.length → xs.getD i 0 < xs.getD j 0 := by
  intro i j hij hj
  obtain ⟨d, rfl⟩ : ∃ d, j = i + d + 1 := ⟨j - i - 1, by omega⟩
  clear hij
  induction d with
  | zero => exact h i hj
  | succ d ih =>
    have := ih (by omega)
    have := h (i + d + 1) (by omega)
    exact Int.lt_trans (by assumption) this
theorem idxOf_rise {xs : List Int} (h : Rise xs) {k : Nat} (hk : k < xs.length) : xs.idxOf (xs.getD k 0) = k := by
  have hm : xs.getD k 0 ∈ xs := by simp [List.getD, hk]
  have hlt := List.idxOf_lt_length_iff.2 hm
  have hg : xs.getD (xs.idxOf (xs.getD k 0)) 0 = xs.getD k 0 := by
    rw [List.getD, List.getElem?_eq_getElem hlt, Option.getD_some, List.getElem_idxOf]
  rcases Nat.lt_trichotomy (xs.idxOf (xs.getD k 0)) k with c | c | c
  · have := rise_mono h c hk; omega
  · exact c
  · have := rise_mono h c hlt; omega
open Classical in
/-- what HarmonicModulo returns. -/
noncomputable def harV (N : Gra) (p : Int) (fixed values : List Int) : List Int × Int :=
  if ¬ (GraOk N ∧ PrimeP p ∧ InB values 0 (p - 1) ∧ values.length ≤ 64) then ([], 1) else if ¬ SetOk N fixed then ([], 2) else if fixed.length ≠ values.length then ([], 6)
  else if (elF p N.n.toNat (harF N p fixed values) N.n.toNat).piv.length = N.n.toNat then ((List.range N.n.toNat).map fun j : Nat => (elF p N.n.toNat (harF N p fixed values) N.n.toNat).f j N.n, 0) else ([], 6)
/-- with a full rank, the further column changes nothing. -/
theorem el_full {p : Int} {n : Nat} {f : Int → Int → Int} (h : (elF p n f n).piv.length = n) : (elF p n f (n + 1)).f = (elF p n f n).f ∧ (elF p n f (n + 1)).piv = (elF p n f n).piv := by
  show (elS p n (elF p n f n) n).f = _ ∧ (elS p n (elF p n f n) n).piv = _
  unfold elS
  rw [fstRow_none fun j h1 h2 => by omega]
  exact ⟨rfl, rfl⟩
theorem sq_small {d p : Int} (h0 : 0 ≤ d) (h : d * d ≤ p) (hp : p ≤ 251) : d ≤ 15 := by
  apply Classical.byContradiction
  intro hc
  have : 16 * 16 ≤ d * d := Int.mul_le_mul (by omega) (by omega) (by omega) (by omega)
  omega
theorem sq_big {k d p : Int} (h0 : 0 ≤ d) (hd : d ≤ k) (h : ¬ d * d ≤ p) : ¬ k * k ≤ p := by
  have : d * d ≤ k * k := Int.mul_le_mul hd hd h0 (by omega)
  omega

end Go.Proofs.Ytmlkgpoakkgjbaa.Gh
