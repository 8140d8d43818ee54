/- What the functions that the law ReduceTables reaches return, and the law; it stands under no condition. -/
import Derived.Test.YtanpmilodaejpaaYReduceTablesa
namespace Go.Proofs.Ytanpmilodaejpaa.Gh
open Go Go.RowKit Go.Proofs
set_option linter.unusedVariables false
set_option linter.unusedSimpArgs false
set_option maxHeartbeats 4000000

theorem st_one {G : GH} {b o : Nat} {cs : List Value} {v : Value} {K : Value → GH → Prop} (hb : G b = some ⟨cs, true⟩) (ho : o < cs.length) (h1 : oneB v = true) (hk : K undef (put G b ⟨cs.set o v, true⟩)) : gSt 1 (.pointer (some ⟨b, o, none⟩)) v G K := by
  have hc : v.cells = #[v] := by cases v <;> first | rfl | simp [oneB] at h1
  refine ⟨b, o, cs, rfl, hb, by rw [hc]; rfl, by omega, ?_, ?_⟩
  · rw [hc]; intro u hu; simp at hu; subst hu; exact h1
  · rw [hc]; exact hk
theorem fill_set {α : Type} (f : α → Value) (z : Value) (d : α) (xs : List α) (k : Nat) (hk : k < xs.length) :
    ((xs.take k).map f ++ List.replicate (xs.length - k) z).set k (f (xs.getD k d)) = (xs.take (k + 1)).map f ++ List.replicate (xs.length - (k + 1)) z := by
  apply List.ext_getElem?
  intro i
  have hl : ((xs.take k).map f).length = k := by simp; omega
  rw [List.getElem?_set]
  by_cases hik : k = i
  · subst hik
    simp only [if_true, List.length_append, hl, List.length_replicate]
    rw [if_pos (by omega), List.getElem?_append_left (by simp; omega)]
    simp [List.getD, hk]
  · rw [if_neg hik]
    by_cases hlt : i < k
    · rw [List.getElem?_append_left (by omega), List.getElem?_append_left (by simp; omega)]
      simp [List.getElem?_take, hlt, show i < k + 1 by omega]
    · rw [List.getElem?_append_right (by omega), List.getElem?_append_right (by simp; omega)]
      simp only [hl, List.length_map, List.length_take, List.getElem?_replicate, show min (k + 1) xs.length = k + 1 by omega]
      by_cases h2 : i < xs.length
      · rw [if_pos (by omega), if_pos (by omega)]
      · rw [if_neg (by omega), if_neg (by omega)]
theorem zc_one (z : Value) (n : Nat) : zc [z] n = List.replicate n z := by
  apply List.ext_getElem
  · simp [zc]
  · intro i h1 h2; simp [zc, Nat.mod_one, List.getD]
theorem laws_toInt64S_ok {G : GH} {A : Option Addr} {c : Nat} {xs : List Int} (h : IntS G A c xs) (hl : xs.length ≤ 2 ^ 20) {K : Value → GH → Prop}
    (hk : ∀ b, G b = none → K (.slice (some ⟨b, 0, none⟩) xs.length xs.length) (put G b ⟨xs.map I64, true⟩)) : GC Try.prog 21 [.slice A xs.length c] G K := by
  refine c_laws_toInt64S_i (by simp) ?_
  have hsn := h.sn
  have hrd := h.rd
  simp (maxSteps := 300000) (disch := omega) only [gs, gs2, gs3, gs4, ↓reduceIte, Nat.reduceEqDiff, Int.reduceToNat, Nat.reduceMul, Nat.reduceAdd, Nat.reduceBEq, isLd]
  refine ⟨xs.length, xs.length, rfl, rfl, Nat.le_refl _, by omega, by omega, fun b hb => ?_⟩
  have hrd' := fun i hi => rd_sub (Sub.put hb ⟨zc [.int .i64 0] xs.length, true⟩) (hrd i hi)
  simp (maxSteps := 300000) (disch := omega) only [gs, gs2, gs3, gs4, ↓reduceIte, Nat.reduceEqDiff, Int.reduceToNat, Nat.reduceMul, Nat.reduceAdd, Nat.reduceBEq, isLd]
  refine gLoop_intro (fun m T G' => ∃ k : Nat, T 0 = .slice A xs.length c ∧ T 3 = .slice (some ⟨b, 0, none⟩) xs.length xs.length ∧ T 4 = .int .i64 k ∧ m + k = xs.length ∧ k ≤ xs.length ∧
    G' = put G b ⟨(xs.take k).map I64 ++ List.replicate (xs.length - k) (I64 0), true⟩) xs.length ⟨0, by simp (maxSteps := 300000) (disch := omega) only [gs, gs2, gs3, gs4, ↓reduceIte, Nat.reduceEqDiff, Int.reduceToNat, Nat.reduceMul, Nat.reduceAdd, Nat.reduceBEq, isLd], by simp (maxSteps := 300000) (disch := omega) only [gs, gs2, gs3, gs4, ↓reduceIte, Nat.reduceEqDiff, Int.reduceToNat, Nat.reduceMul, Nat.reduceAdd, Nat.reduceBEq, isLd], by simp (maxSteps := 300000) (disch := omega) only [gs, gs2, gs3, gs4, ↓reduceIte, Nat.reduceEqDiff, Int.reduceToNat, Nat.reduceMul, Nat.reduceAdd, Nat.reduceBEq, isLd] <;> rfl, by omega, by omega, by simp [zc_one, I64]⟩ ?_
  rintro m T G' ⟨k, h0, h3, h4, hm, hkl, rfl⟩
  have hrd' := fun i hi => rd_sub (Sub.put hb ⟨(xs.take k).map I64 ++ List.replicate (xs.length - k) (I64 0), true⟩) (hrd i hi)
  simp (maxSteps := 300000) (disch := omega) only [gs, gs2, gs3, gs4, ↓reduceIte, Nat.reduceEqDiff, Int.reduceToNat, Nat.reduceMul, Nat.reduceAdd, Nat.reduceBEq, isLd, h0, h3, h4]
  by_cases hlt : (k : Int) < xs.length
  · simp (maxSteps := 300000) (disch := omega) only [gs, gs2, gs3, gs4, ↓reduceIte, Nat.reduceEqDiff, Int.reduceToNat, Nat.reduceMul, Nat.reduceAdd, Nat.reduceBEq, isLd, h0, h3, h4, hlt, hrd']

    refine st_one (put_same _ _ _) (by simp; omega) rfl ?_
    simp (maxSteps := 300000) (disch := omega) only [gs, gs2, gs3, gs4, ↓reduceIte, Nat.reduceEqDiff, Int.reduceToNat, Nat.reduceMul, Nat.reduceAdd, Nat.reduceBEq, isLd, h0, h3, h4, put_put]
    refine ⟨m - 1, by omega, _, Sub.refl _, k + 1, rfl, by omega, by omega, ?_⟩
    rw [show Value.int IntKind.i64 (xs.getD k 0) = I64 (xs.getD k 0) from rfl, fill_set I64 (I64 0) 0 xs k (by omega)]
  · simp (maxSteps := 300000) (disch := omega) only [gs, gs2, gs3, gs4, ↓reduceIte, Nat.reduceEqDiff, Int.reduceToNat, Nat.reduceMul, Nat.reduceAdd, Nat.reduceBEq, isLd, h0, h3, h4, hlt]
    have := hk b hb
    rw [show k = xs.length by omega]
    simpa using this
theorem list_eq_iff {xs ys : List Int} (h : xs.length = ys.length) : xs = ys ↔ ∀ i, i < xs.length → xs.getD i 0 = ys.getD i 0 := by
  constructor
  · rintro rfl i _; rfl
  · intro k
    apply List.ext_getElem h
    intro i h1 h2
    have := k i h1
    simpa [List.getD, h1, h2] using this
theorem laws_eqInt64S_ok {G : GH} {A B : Option Addr} {c d : Nat} {xs ys : List Int} (h : IntS G A c xs) (h' : IntS G B d ys) (hl : xs.length < 2 ^ 40) {K : Value → GH → Prop}
    (hk : K (.bool (decide (xs = ys))) G) : GC Try.prog 23 [.slice A xs.length c, .slice B ys.length d] G K := by
  refine c_laws_eqInt64S_i (by simp) ?_
  have hsn := h.sn
  have hrd := h.rd
  have hsn' := h'.sn
  have hrd' := h'.rd
  simp (maxSteps := 300000) (disch := omega) only [gs, gs2, gs3, gs4, ↓reduceIte, Nat.reduceEqDiff, Int.reduceToNat, Nat.reduceMul, Nat.reduceAdd, Nat.reduceBEq, isLd]
  by_cases hne : xs.length = ys.length
  · simp (maxSteps := 300000) (disch := omega) only [gs, gs2, gs3, gs4, ↓reduceIte, Nat.reduceEqDiff, Int.reduceToNat, Nat.reduceMul, Nat.reduceAdd, Nat.reduceBEq, isLd, show ((xs.length : Int) = ys.length) = True by simp [hne], not_true]
    refine gLoop_intro (fun m T G' => ∃ k : Nat, T 0 = .slice A xs.length c ∧ T 1 = .slice B ys.length d ∧ T 5 = .int .i64 k ∧ m + k = xs.length ∧ k ≤ xs.length ∧ G' = G ∧ ∀ i, i < k → xs.getD i 0 = ys.getD i 0) xs.length
      ⟨0, by simp (maxSteps := 300000) (disch := omega) only [gs, gs2, gs3, gs4, ↓reduceIte, Nat.reduceEqDiff, Int.reduceToNat, Nat.reduceMul, Nat.reduceAdd, Nat.reduceBEq, isLd], by simp (maxSteps := 300000) (disch := omega) only [gs, gs2, gs3, gs4, ↓reduceIte, Nat.reduceEqDiff, Int.reduceToNat, Nat.reduceMul, Nat.reduceAdd, Nat.reduceBEq, isLd], by simp (maxSteps := 300000) (disch := omega) only [gs, gs2, gs3, gs4, ↓reduceIte, Nat.reduceEqDiff, Int.reduceToNat, Nat.reduceMul, Nat.reduceAdd, Nat.reduceBEq, isLd] <;> rfl, by omega, by omega, rfl, fun i hi => by omega⟩ ?_
    rintro m T G' ⟨k, h0, h1, h5, hm, hkl, rfl, hinv⟩
    simp (maxSteps := 300000) (disch := omega) only [gs, gs2, gs3, gs4, ↓reduceIte, Nat.reduceEqDiff, Int.reduceToNat, Nat.reduceMul, Nat.reduceAdd, Nat.reduceBEq, isLd, h0, h1, h5]
    by_cases hlt : (k : Int) < xs.length
    · simp (maxSteps := 300000) (disch := omega) only [gs, gs2, gs3, gs4, ↓reduceIte, Nat.reduceEqDiff, Int.reduceToNat, Nat.reduceMul, Nat.reduceAdd, Nat.reduceBEq, isLd, h0, h1, h5, hlt, hrd, hrd']
      by_cases hkk : xs.getD k 0 = ys.getD k 0
      · simp (maxSteps := 300000) (disch := omega) only [gs, gs2, gs3, gs4, ↓reduceIte, Nat.reduceEqDiff, Int.reduceToNat, Nat.reduceMul, Nat.reduceAdd, Nat.reduceBEq, isLd, hkk, h0, h1, h5, not_true]
        refine ⟨m - 1, by omega, _, Sub.refl _, k + 1, rfl, by omega, by omega, rfl, fun i hi => ?_⟩
        by_cases hik : i = k
        · subst hik; exact hkk
        · exact hinv i (by omega)
      · simp (maxSteps := 300000) (disch := omega) only [gs, gs2, gs3, gs4, ↓reduceIte, Nat.reduceEqDiff, Int.reduceToNat, Nat.reduceMul, Nat.reduceAdd, Nat.reduceBEq, isLd, hkk, not_false_eq_true]
        have : ¬ xs = ys := by rintro rfl; exact hkk rfl
        simpa [this] using hk
    · simp (maxSteps := 300000) (disch := omega) only [gs, gs2, gs3, gs4, ↓reduceIte, Nat.reduceEqDiff, Int.reduceToNat, Nat.reduceMul, Nat.reduceAdd, Nat.reduceBEq, isLd, h0, h1, h5, hlt]
      have : xs = ys := (list_eq_iff hne).2 fun i hi => hinv i (by omega)
      simpa [this] using hk
  · simp (maxSteps := 300000) (disch := omega) only [gs, gs2, gs3, gs4, ↓reduceIte, Nat.reduceEqDiff, Int.reduceToNat, Nat.reduceMul, Nat.reduceAdd, Nat.reduceBEq, isLd, show ((xs.length : Int) = ys.length) = False by simp; omega, not_false_eq_true]
    have : ¬ xs = ys := by rintro rfl; exact hne rfl
    simpa [this] using hk
theorem spec_l00Same_ok {G : GH} {A B : Option Addr} {c d : Nat} {xs ys : List Int} (h : IntS G A c xs) (h' : IntS G B d ys) (hl : xs.length < 2 ^ 40) {K : Value → GH → Prop}
    (hk : K (.bool (decide (xs = ys))) G) : GC Try.prog 82 [.slice A xs.length c, .slice B ys.length d] G K := by
  refine c_spec_l00Same_i (by simp) ?_
  have hsn := h.sn
  have hrd := h.rd
  have hsn' := h'.sn
  have hrd' := h'.rd
  simp (maxSteps := 300000) (disch := omega) only [gs, gs2, gs3, gs4, ↓reduceIte, Nat.reduceEqDiff, Int.reduceToNat, Nat.reduceMul, Nat.reduceAdd, Nat.reduceBEq, isLd]
  by_cases hne : xs.length = ys.length
  · simp (maxSteps := 300000) (disch := omega) only [gs, gs2, gs3, gs4, ↓reduceIte, Nat.reduceEqDiff, Int.reduceToNat, Nat.reduceMul, Nat.reduceAdd, Nat.reduceBEq, isLd, show ((xs.length : Int) = ys.length) = True by simp [hne], not_true]
    refine gLoop_intro (fun m T G' => ∃ k : Nat, T 0 = .slice A xs.length c ∧ T 1 = .slice B ys.length d ∧ T 5 = .int .i64 k ∧ m + k = xs.length ∧ k ≤ xs.length ∧ G' = G ∧ ∀ i, i < k → xs.getD i 0 = ys.getD i 0) xs.length
      ⟨0, by simp (maxSteps := 300000) (disch := omega) only [gs, gs2, gs3, gs4, ↓reduceIte, Nat.reduceEqDiff, Int.reduceToNat, Nat.reduceMul, Nat.reduceAdd, Nat.reduceBEq, isLd], by simp (maxSteps := 300000) (disch := omega) only [gs, gs2, gs3, gs4, ↓reduceIte, Nat.reduceEqDiff, Int.reduceToNat, Nat.reduceMul, Nat.reduceAdd, Nat.reduceBEq, isLd], by simp (maxSteps := 300000) (disch := omega) only [gs, gs2, gs3, gs4, ↓reduceIte, Nat.reduceEqDiff, Int.reduceToNat, Nat.reduceMul, Nat.reduceAdd, Nat.reduceBEq, isLd] <;> rfl, by omega, by omega, rfl, fun i hi => by omega⟩ ?_
    rintro m T G' ⟨k, h0, h1, h5, hm, hkl, rfl, hinv⟩
    simp (maxSteps := 300000) (disch := omega) only [gs, gs2, gs3, gs4, ↓reduceIte, Nat.reduceEqDiff, Int.reduceToNat, Nat.reduceMul, Nat.reduceAdd, Nat.reduceBEq, isLd, h0, h1, h5]
    by_cases hlt : (k : Int) < xs.length
    · simp (maxSteps := 300000) (disch := omega) only [gs, gs2, gs3, gs4, ↓reduceIte, Nat.reduceEqDiff, Int.reduceToNat, Nat.reduceMul, Nat.reduceAdd, Nat.reduceBEq, isLd, h0, h1, h5, hlt, hrd, hrd']
      by_cases hkk : xs.getD k 0 = ys.getD k 0
      · simp (maxSteps := 300000) (disch := omega) only [gs, gs2, gs3, gs4, ↓reduceIte, Nat.reduceEqDiff, Int.reduceToNat, Nat.reduceMul, Nat.reduceAdd, Nat.reduceBEq, isLd, hkk, h0, h1, h5, not_true]
        refine ⟨m - 1, by omega, _, Sub.refl _, k + 1, rfl, by omega, by omega, rfl, fun i hi => ?_⟩
        by_cases hik : i = k
        · subst hik; exact hkk
        · exact hinv i (by omega)
      · simp (maxSteps := 300000) (disch := omega) only [gs, gs2, gs3, gs4, ↓reduceIte, Nat.reduceEqDiff, Int.reduceToNat, Nat.reduceMul, Nat.reduceAdd, Nat.reduceBEq, isLd, hkk, not_false_eq_true]
        have : ¬ xs = ys := by rintro rfl; exact hkk rfl
        simpa [this] using hk
    · simp (maxSteps := 300000) (disch := omega) only [gs, gs2, gs3, gs4, ↓reduceIte, Nat.reduceEqDiff, Int.reduceToNat, Nat.reduceMul, Nat.reduceAdd, Nat.reduceBEq, isLd, h0, h1, h5, hlt]
      have : xs = ys := (list_eq_iff hne).2 fun i hi => hinv i (by omega)
      simpa [this] using hk
  · simp (maxSteps := 300000) (disch := omega) only [gs, gs2, gs3, gs4, ↓reduceIte, Nat.reduceEqDiff, Int.reduceToNat, Nat.reduceMul, Nat.reduceAdd, Nat.reduceBEq, isLd, show ((xs.length : Int) = ys.length) = False by simp; omega, not_false_eq_true]
    have : ¬ xs = ys := by rintro rfl; exact hne rfl
    simpa [this] using hk
/-- the place of the first element that meets p, or -1. -/
def idxI (p : Int → Bool) (xs : List Int) : Int := match xs.findIdx? p with | some i => i | none => -1
theorem idxI_none {p : Int → Bool} {xs : List Int} (h : ∀ i, i < xs.length → p (xs.getD i 0) = false) : idxI p xs = -1 := by
  have : xs.findIdx? p = none := by
    rw [List.findIdx?_eq_none_iff]
    intro x hx
    obtain ⟨i, hi, rfl⟩ := List.getElem_of_mem hx
    simpa [List.getD, hi] using h i hi
  simp [idxI, this]
theorem idxI_some {p : Int → Bool} {xs : List Int} {k : Nat} (hk : k < xs.length) (hp : p (xs.getD k 0) = true) (h : ∀ i, i < k → p (xs.getD i 0) = false) : idxI p xs = k := by
  have : xs.findIdx? p = some k := by
    rw [List.findIdx?_eq_some_iff_getElem]
    refine ⟨hk, by simpa [List.getD, hk] using hp, fun j hj => ?_⟩
    have := h j hj
    simpa [List.getD, show j < xs.length by omega] using this
  simp [idxI, this]
theorem slices_IndexFunc_ok {G : GH} {A : Option Addr} {c : Nat} {xs : List Int} {f : Value} (p : Int → Bool) (h : IntS G A c xs) (hl : xs.length < 2 ^ 40)
    (hf : ∀ i, i < xs.length → ∀ K : Value → GH → Prop, K (.bool (p (xs.getD i 0))) G → gCl Try.prog f [.int .i64 (xs.getD i 0)] G K) {K : Value → GH → Prop}
    (hk : K (.int .i64 (idxI p xs)) G) : GC Try.prog 98 [.slice A xs.length c, f] G K := by
  refine c_slices_IndexFunc_int64_int64_i (by simp) ?_
  have hsn := h.sn
  have hrd := h.rd
  simp (maxSteps := 300000) (disch := omega) only [gs, gs2, gs3, gs4, ↓reduceIte, Nat.reduceEqDiff, Int.reduceToNat, Nat.reduceMul, Nat.reduceAdd, Nat.reduceBEq, isLd]
  refine gLoop_intro (fun m T G' => ∃ k : Nat, T 0 = .slice A xs.length c ∧ T 1 = f ∧ T 7 = .int .i64 xs.length ∧ T 8 = .int .i64 k ∧ m + k = xs.length ∧ k ≤ xs.length ∧ G' = G ∧ ∀ i, i < k → p (xs.getD i 0) = false) xs.length
    ⟨0, by simp (maxSteps := 300000) (disch := omega) only [gs, gs2, gs3, gs4, ↓reduceIte, Nat.reduceEqDiff, Int.reduceToNat, Nat.reduceMul, Nat.reduceAdd, Nat.reduceBEq, isLd], by simp (maxSteps := 300000) (disch := omega) only [gs, gs2, gs3, gs4, ↓reduceIte, Nat.reduceEqDiff, Int.reduceToNat, Nat.reduceMul, Nat.reduceAdd, Nat.reduceBEq, isLd], by simp (maxSteps := 300000) (disch := omega) only [gs, gs2, gs3, gs4, ↓reduceIte, Nat.reduceEqDiff, Int.reduceToNat, Nat.reduceMul, Nat.reduceAdd, Nat.reduceBEq, isLd], by simp (maxSteps := 300000) (disch := omega) only [gs, gs2, gs3, gs4, ↓reduceIte, Nat.reduceEqDiff, Int.reduceToNat, Nat.reduceMul, Nat.reduceAdd, Nat.reduceBEq, isLd] <;> rfl, by omega, by omega, rfl, fun i hi => by omega⟩ ?_
  rintro m T G' ⟨k, h0, h1, h7, h8, hm, hkl, rfl, hinv⟩
  simp (maxSteps := 300000) (disch := omega) only [gs, gs2, gs3, gs4, ↓reduceIte, Nat.reduceEqDiff, Int.reduceToNat, Nat.reduceMul, Nat.reduceAdd, Nat.reduceBEq, isLd, h0, h1, h7, h8]
  by_cases hlt : (k : Int) < xs.length
  · simp (maxSteps := 300000) (disch := omega) only [gs, gs2, gs3, gs4, ↓reduceIte, Nat.reduceEqDiff, Int.reduceToNat, Nat.reduceMul, Nat.reduceAdd, Nat.reduceBEq, isLd, h0, h1, h7, h8, hlt, hrd]
    refine hf k (by omega) _ ?_
    simp (maxSteps := 300000) (disch := omega) only [gs, gs2, gs3, gs4, ↓reduceIte, Nat.reduceEqDiff, Int.reduceToNat, Nat.reduceMul, Nat.reduceAdd, Nat.reduceBEq, isLd, h0, h1, h7, h8]
    cases hp : p (xs.getD k 0)
    · simp (maxSteps := 300000) (disch := omega) only [gs, gs2, gs3, gs4, ↓reduceIte, Nat.reduceEqDiff, Int.reduceToNat, Nat.reduceMul, Nat.reduceAdd, Nat.reduceBEq, isLd, h0, h1, h7, h8]
      refine ⟨m - 1, by omega, _, Sub.refl _, k + 1, rfl, by omega, by omega, rfl, fun i hi => ?_⟩
      by_cases hik : i = k
      · subst hik; exact hp
      · exact hinv i (by omega)
    · simp (maxSteps := 300000) (disch := omega) only [gs, gs2, gs3, gs4, ↓reduceIte, Nat.reduceEqDiff, Int.reduceToNat, Nat.reduceMul, Nat.reduceAdd, Nat.reduceBEq, isLd, h0, h1, h7, h8]
      rw [idxI_some (by omega) hp hinv] at hk; exact hk
  · simp (maxSteps := 300000) (disch := omega) only [gs, gs2, gs3, gs4, ↓reduceIte, Nat.reduceEqDiff, Int.reduceToNat, Nat.reduceMul, Nat.reduceAdd, Nat.reduceBEq, isLd, h0, h1, h7, h8, hlt]
    rw [idxI_none (fun i hi => hinv i (by omega))] at hk; exact hk
theorem slices_ContainsFunc_ok {G : GH} {A : Option Addr} {c : Nat} {xs : List Int} {f : Value} (p : Int → Bool) (h : IntS G A c xs) (hl : xs.length < 2 ^ 40)
    (hf : ∀ i, i < xs.length → ∀ K : Value → GH → Prop, K (.bool (p (xs.getD i 0))) G → gCl Try.prog f [.int .i64 (xs.getD i 0)] G K) {K : Value → GH → Prop}
    (hk : K (.bool (xs.any p)) G) : GC Try.prog 78 [.slice A xs.length c, f] G K := by
  refine c_slices_ContainsFunc_int64_int64_i (by simp) ?_
  simp (maxSteps := 300000) (disch := omega) only [gs, gs2, gs3, gs4, ↓reduceIte, Nat.reduceEqDiff, Int.reduceToNat, Nat.reduceMul, Nat.reduceAdd, Nat.reduceBEq, isLd]
  refine slices_IndexFunc_ok p h hl hf ?_
  simp (maxSteps := 300000) (disch := omega) only [gs, gs2, gs3, gs4, ↓reduceIte, Nat.reduceEqDiff, Int.reduceToNat, Nat.reduceMul, Nat.reduceAdd, Nat.reduceBEq, isLd]
  have : decide (0 ≤ idxI p xs) = xs.any p := by
    unfold idxI
    cases hi : xs.findIdx? p with
    | none =>
      rw [List.findIdx?_eq_none_iff] at hi
      have : xs.any p = false := by rw [List.any_eq_false]; intro x hx; simp [hi x hx]
      simp [this]
    | some i =>
      rw [List.findIdx?_eq_some_iff_getElem] at hi
      obtain ⟨h1, h2, _⟩ := hi
      have : xs.any p = true := List.any_eq_true.2 ⟨xs[i], List.getElem_mem h1, h2⟩
      simp [this]
  rw [this]; exact hk
theorem laws_szInt64S_ok {G : GH} {A : Option Addr} {n c : Nat} {left : Int} (h0 : -1 ≤ left ∧ left ≤ 2 ^ 20) (hn : n ≤ 2 ^ 63 - 1) {K : Value → GH → Prop} (hk : ∀ l : Int, -1 ≤ l → l ≤ 2 ^ 20 → (0 ≤ l → l + n ≤ left) → K (.int .i64 l) G) :
    GC Try.prog 41 [.slice A n c, .int .i64 left] G K := by
  refine c_laws_szInt64S_i (by simp) ?_
  simp (maxSteps := 300000) (disch := omega) only [gs, gs2, gs3, gs4, ↓reduceIte, Nat.reduceEqDiff, Int.reduceToNat, Nat.reduceMul, Nat.reduceAdd, Nat.reduceBEq, isLd]
  by_cases h : left - (n : Int) < 0
  · simp (maxSteps := 300000) (disch := omega) only [gs, gs2, gs3, gs4, ↓reduceIte, Nat.reduceEqDiff, Int.reduceToNat, Nat.reduceMul, Nat.reduceAdd, Nat.reduceBEq, isLd, h]; exact hk _ (by omega) (by omega) (by omega)
  · simp (maxSteps := 300000) (disch := omega) only [gs, gs2, gs3, gs4, ↓reduceIte, Nat.reduceEqDiff, Int.reduceToNat, Nat.reduceMul, Nat.reduceAdd, Nat.reduceBEq, isLd, h]; exact hk _ (by omega) (by omega) (by omega)
theorem laws_toInt64SS_ok {G : GH} {A : Option Addr} {c : Nat} {hs : Nat → Option Addr × Nat} {xss : List (List Int)} (h : RowS G A c hs xss) (hsm : Sm xss) {K : Value → GH → Prop}
    (hk : ∀ A' hs' G', Sub G G' → RowS (rest G G') A' xss.length hs' xss → K (.slice A' xss.length xss.length) G') : GC Try.prog 45 [.slice A xss.length c] G K := by
  refine c_laws_toInt64SS_i (by simp) ?_
  have hsn := h.sn
  obtain ⟨hs1, hs2⟩ := hsm
  simp (maxSteps := 300000) (disch := omega) only [gs, gs2, gs3, gs4, ↓reduceIte, Nat.reduceEqDiff, Int.reduceToNat, Nat.reduceMul, Nat.reduceAdd, Nat.reduceBEq, isLd]
  refine ⟨xss.length, xss.length, rfl, rfl, Nat.le_refl _, by omega, by omega, fun b hb => ?_⟩
  simp (maxSteps := 300000) (disch := omega) only [gs, gs2, gs3, gs4, ↓reduceIte, Nat.reduceEqDiff, Int.reduceToNat, Nat.reduceMul, Nat.reduceAdd, Nat.reduceBEq, isLd]
  refine gLoop_intro (fun m T G' => ∃ (k : Nat) (bs : Nat → Nat), T 0 = .slice A xss.length c ∧ T 3 = .slice (some ⟨b, 0, none⟩) xss.length xss.length ∧ T 4 = .int .i64 k ∧ m + k = xss.length ∧ k ≤ xss.length ∧ Sub G G' ∧
    G' b = some ⟨(List.range k).map (fun i => Value.slice (some ⟨bs i, 0, none⟩) (xss.getD i []).length (xss.getD i []).length) ++ List.replicate (xss.length - k) (.slice none 0 0), true⟩ ∧ ∀ i, i < k → bs i ≠ b ∧ G (bs i) = none ∧ G' (bs i) = some ⟨(xss.getD i []).map I64, true⟩)
    xss.length ⟨0, fun _ => 0, by simp (maxSteps := 300000) (disch := omega) only [gs, gs2, gs3, gs4, ↓reduceIte, Nat.reduceEqDiff, Int.reduceToNat, Nat.reduceMul, Nat.reduceAdd, Nat.reduceBEq, isLd], by simp (maxSteps := 300000) (disch := omega) only [gs, gs2, gs3, gs4, ↓reduceIte, Nat.reduceEqDiff, Int.reduceToNat, Nat.reduceMul, Nat.reduceAdd, Nat.reduceBEq, isLd], by simp (maxSteps := 300000) (disch := omega) only [gs, gs2, gs3, gs4, ↓reduceIte, Nat.reduceEqDiff, Int.reduceToNat, Nat.reduceMul, Nat.reduceAdd, Nat.reduceBEq, isLd] <;> rfl, by omega, by omega, Sub.put hb _, by rw [put_same, zc_one]; simp, fun i hi => by omega⟩ ?_
  rintro m T G' ⟨k, bs, e0, e3, e4, hm, hkl, hS, hB, hR⟩
  have hh := h.sub hS
  have r := hh.r
  simp (maxSteps := 300000) (disch := omega) only [gs, gs2, gs3, gs4, ↓reduceIte, Nat.reduceEqDiff, Int.reduceToNat, Nat.reduceMul, Nat.reduceAdd, Nat.reduceBEq, isLd, e0, e3, e4]
  by_cases hkk : (k : Int) < xss.length
  · simp (maxSteps := 300000) (disch := omega) only [gs, gs2, gs3, gs4, ↓reduceIte, Nat.reduceEqDiff, Int.reduceToNat, Nat.reduceMul, Nat.reduceAdd, Nat.reduceBEq, isLd, e0, e3, e4, hkk, r]
    refine laws_toInt64S_ok (hh.row k (by omega)) (hs2 k (by omega)) fun b2 hb2 => ?_
    have n2 : b ≠ b2 := fun e => by rw [e, hb2] at hB; cases hB
    simp (maxSteps := 300000) (disch := omega) only [gs, gs2, gs3, gs4, ↓reduceIte, Nat.reduceEqDiff, Int.reduceToNat, Nat.reduceMul, Nat.reduceAdd, Nat.reduceBEq, isLd, e0, e3, e4]
    refine st_one (by rw [put_ne _ _ n2]; exact hB) (by simp; omega) rfl ?_
    simp (maxSteps := 300000) (disch := omega) only [gs, gs2, gs3, gs4, ↓reduceIte, Nat.reduceEqDiff, Int.reduceToNat, Nat.reduceMul, Nat.reduceAdd, Nat.reduceBEq, isLd, e0, e3, e4]
    refine ⟨m - 1, by omega, _, Sub.refl _, k + 1, fun i => if i = k then b2 else bs i, rfl, by omega, by omega, (hS.trans (Sub.put hb2 _)).skip hb, ?_, fun i hi => ?_⟩
    · rw [put_same]
      congr 2
      rw [List.set_append_right _ _ (by simp)]
      simp only [List.length_map, List.length_range, Nat.sub_self]
      rw [show xss.length - k = (xss.length - (k + 1)) + 1 by omega, List.replicate_succ, List.set_cons_zero, List.range_succ, List.map_append, List.append_assoc]
      congr 1
      · exact List.map_congr_left fun i hi => by rw [if_neg (by have := List.mem_range.1 hi; omega)]
      · simp
    · dsimp only
      by_cases hik : i = k
      · subst hik
        rw [if_pos rfl]
        exact ⟨fun e => n2 e.symm, hS.none hb2, by rw [put_ne _ _ (fun e => n2 e.symm)]; exact put_same _ _ _⟩
      · rw [if_neg hik]
        obtain ⟨q1, q0, q2⟩ := hR i (by omega)
        have q3 : bs i ≠ b2 := fun e => by rw [e, hb2] at q2; cases q2
        exact ⟨q1, q0, by rw [put_ne _ _ q1, put_ne _ _ q3]; exact q2⟩
  · simp (maxSteps := 300000) (disch := omega) only [gs, gs2, gs3, gs4, ↓reduceIte, Nat.reduceEqDiff, Int.reduceToNat, Nat.reduceMul, Nat.reduceAdd, Nat.reduceBEq, isLd, e0, e3, e4, hkk]
    obtain rfl : k = xss.length := by omega
    refine hk _ (fun i => (some ⟨bs i, 0, none⟩, (xss.getD i []).length)) _ hS ⟨Nat.le_refl _, fun i hi => ?_, fun i hi => blk_ints (rest_some.2 (hR i hi).2)⟩
    have hB' := rest_some.2 ⟨hb, hB⟩
    simp only [pa_mk, rd, hB', Option.bind_some]
    rw [Nat.zero_add, List.getElem?_append_left (by simpa using hi), range_get _ _ _ hi]
theorem laws_eqInt64SS_ok {G : GH} {A B : Option Addr} {c d : Nat} {hs hs' : Nat → Option Addr × Nat} {xs ys : List (List Int)} (h : RowS G A c hs xs) (h' : RowS G B d hs' ys) (hl : xs.length < 2 ^ 40) (hl2 : ∀ i, i < xs.length → (xs.getD i []).length < 2 ^ 40) {K : Value → GH → Prop}
    (hk : ∀ b : Bool, (b = true ↔ xs = ys) → K (.bool b) G) : GC Try.prog 48 [.slice A xs.length c, .slice B ys.length d] G K := by
  refine c_laws_eqInt64SS_i (by simp) ?_
  have hsn := h.sn
  have hsn' := h'.sn
  have r := h.r
  have r' := h'.r
  simp (maxSteps := 300000) (disch := omega) only [gs, gs2, gs3, gs4, ↓reduceIte, Nat.reduceEqDiff, Int.reduceToNat, Nat.reduceMul, Nat.reduceAdd, Nat.reduceBEq, isLd]
  by_cases hne : xs.length = ys.length
  · simp (maxSteps := 300000) (disch := omega) only [gs, gs2, gs3, gs4, ↓reduceIte, Nat.reduceEqDiff, Int.reduceToNat, Nat.reduceMul, Nat.reduceAdd, Nat.reduceBEq, isLd, eq_true (show (xs.length : Int) = ys.length by rw [hne])]
    refine gLoop_intro (fun m T G' => ∃ k : Nat, T 0 = .slice A xs.length c ∧ T 1 = .slice B ys.length d ∧ T 5 = .int .i64 k ∧ m + k = xs.length ∧ k ≤ xs.length ∧ G' = G ∧ ∀ i, i < k → xs.getD i [] = ys.getD i []) xs.length
      ⟨0, by simp (maxSteps := 300000) (disch := omega) only [gs, gs2, gs3, gs4, ↓reduceIte, Nat.reduceEqDiff, Int.reduceToNat, Nat.reduceMul, Nat.reduceAdd, Nat.reduceBEq, isLd], by simp (maxSteps := 300000) (disch := omega) only [gs, gs2, gs3, gs4, ↓reduceIte, Nat.reduceEqDiff, Int.reduceToNat, Nat.reduceMul, Nat.reduceAdd, Nat.reduceBEq, isLd], by simp (maxSteps := 300000) (disch := omega) only [gs, gs2, gs3, gs4, ↓reduceIte, Nat.reduceEqDiff, Int.reduceToNat, Nat.reduceMul, Nat.reduceAdd, Nat.reduceBEq, isLd] <;> rfl, by omega, by omega, rfl, fun i hi => by omega⟩ ?_
    rintro m T G' ⟨k, e0, e1, e5, hm, hkl, rfl, hin⟩
    simp (maxSteps := 300000) (disch := omega) only [gs, gs2, gs3, gs4, ↓reduceIte, Nat.reduceEqDiff, Int.reduceToNat, Nat.reduceMul, Nat.reduceAdd, Nat.reduceBEq, isLd, e0, e1, e5]
    by_cases hkk : (k : Int) < xs.length
    · simp (maxSteps := 300000) (disch := omega) only [gs, gs2, gs3, gs4, ↓reduceIte, Nat.reduceEqDiff, Int.reduceToNat, Nat.reduceMul, Nat.reduceAdd, Nat.reduceBEq, isLd, e0, e1, e5, hkk, r, r']
      refine laws_eqInt64S_ok (h.row k (by omega)) (h'.row k (by omega)) (hl2 k (by omega)) ?_
      cases g : decide (xs.getD k [] = ys.getD k [])
      · simp (maxSteps := 300000) (disch := omega) only [gs, gs2, gs3, gs4, ↓reduceIte, Nat.reduceEqDiff, Int.reduceToNat, Nat.reduceMul, Nat.reduceAdd, Nat.reduceBEq, isLd, e0, e1, e5, hkk, r, r']
        have g := of_decide_eq_false g
        exact hk false (by simp; rintro rfl; exact g rfl)
      · simp (maxSteps := 300000) (disch := omega) only [gs, gs2, gs3, gs4, ↓reduceIte, Nat.reduceEqDiff, Int.reduceToNat, Nat.reduceMul, Nat.reduceAdd, Nat.reduceBEq, isLd, e0, e1, e5, hkk, r, r']
        have g := of_decide_eq_true g
        refine ⟨m - 1, by omega, _, Sub.refl _, k + 1, rfl, by omega, by omega, rfl, fun i hi => ?_⟩
        by_cases hik : i = k
        · subst hik; exact g
        · exact hin i (by omega)
    · simp (maxSteps := 300000) (disch := omega) only [gs, gs2, gs3, gs4, ↓reduceIte, Nat.reduceEqDiff, Int.reduceToNat, Nat.reduceMul, Nat.reduceAdd, Nat.reduceBEq, isLd, e0, e1, e5, hkk]
      exact hk true (by simp; exact (rows_eq_iff hne).2 fun i hi => hin i (by omega))
  · simp (maxSteps := 300000) (disch := omega) only [gs, gs2, gs3, gs4, ↓reduceIte, Nat.reduceEqDiff, Int.reduceToNat, Nat.reduceMul, Nat.reduceAdd, Nat.reduceBEq, isLd, eq_false (show ¬ (xs.length : Int) = ys.length by omega)]
    exact hk false (by simp; rintro rfl; exact hne rfl)
theorem tab_ext (N M : Tab) : N = M ↔ N.cols = M.cols ∧ N.rows = M.rows := by cases N; cases M; simp
theorem tabC_one (N : Tab) (A : Option Addr) (c : Nat) (B : Option Addr) (d : Nat) : ∀ v ∈ tabC N A c B d, oneB v = true := by
  intro v hv; simp [tabC] at hv; rcases hv with rfl | rfl <;> rfl
theorem laws_toTable_ok {G : GH} {N : Tab} {A B : Option Addr} {c d : Nat} {hs : Nat → Option Addr × Nat} (h : IntS G A c N.cols) (h' : RowS G B d hs N.rows) (hc : N.cols.length ≤ 2 ^ 20) (hsm : Sm N.rows) {K : Value → GH → Prop}
    (hk : ∀ A' B' hs' G', Sub G G' → IntS (rest G G') A' N.cols.length N.cols → RowS (rest G G') B' N.rows.length hs' N.rows → K (tabV N A' N.cols.length B' N.rows.length) G') : GC Try.prog 17 [tabV N A c B d] G K := by
  refine GC_drop (c_laws_toTable_i (by simp) ?_)
  unfold tabV tabC at *
  simp (maxSteps := 300000) (disch := omega) only [gs, gs2, gs3, gs4, ↓reduceIte, Nat.reduceEqDiff, Int.reduceToNat, Nat.reduceMul, Nat.reduceAdd, Nat.reduceBEq, isLd]
  intro b1 hb1
  simp (maxSteps := 300000) (disch := omega) only [gs, gs2, gs3, gs4, ↓reduceIte, Nat.reduceEqDiff, Int.reduceToNat, Nat.reduceMul, Nat.reduceAdd, Nat.reduceBEq, isLd]
  intro b2 hb2
  simp (maxSteps := 300000) (disch := omega) only [gs, gs2, gs3, gs4, ↓reduceIte, Nat.reduceEqDiff, Int.reduceToNat, Nat.reduceMul, Nat.reduceAdd, Nat.reduceBEq, isLd]
  intro b3 hb3
  simp only [put_none] at hb2 hb3
  obtain ⟨n12, f2⟩ := hb2
  obtain ⟨n23, n13, f3⟩ := hb3
  simp (maxSteps := 300000) (disch := omega) only [gs, gs2, gs3, gs4, ↓reduceIte, Nat.reduceEqDiff, Int.reduceToNat, Nat.reduceMul, Nat.reduceAdd, Nat.reduceBEq, isLd]
  have s3 := ((((Sub.refl G).skip hb1 (e := ⟨[.slice A N.cols.length c, .slice B N.rows.length d], true⟩)).skip f2 (e := ⟨[.slice none 0 0, .slice none 0 0], true⟩)).skip f3 (e := ⟨[.slice none 0 0, .slice none 0 0], true⟩))
  refine laws_toInt64S_ok (h.sub s3) hc fun b4 hb4 => ?_
  simp only [put_none] at hb4
  obtain ⟨n34, n24, n14, f4⟩ := hb4
  simp (maxSteps := 300000) (disch := omega) only [gs, gs2, gs3, gs4, ↓reduceIte, Nat.reduceEqDiff, Int.reduceToNat, Nat.reduceMul, Nat.reduceAdd, Nat.reduceBEq, isLd]
  refine st_one (by rw [put_ne _ _ (by omega)]; exact put_same _ _ _) (by simp) rfl ?_
  have s5 := ((s3.skip f4 (e := ⟨N.cols.map I64, true⟩)).skip f3 (e := ⟨[.slice (some ⟨b4, 0, none⟩) N.cols.length N.cols.length, .slice none 0 0], true⟩))
  simp (maxSteps := 300000) (disch := omega) only [gs, gs2, gs3, gs4, ↓reduceIte, Nat.reduceEqDiff, Int.reduceToNat, Nat.reduceMul, Nat.reduceAdd, Nat.reduceBEq, isLd]
  refine laws_toInt64SS_ok (h'.sub s5) hsm fun B' hs' G' hS hR => ?_
  have g2 : G' b2 = some ⟨[.slice none 0 0, .slice none 0 0], true⟩ := hS _ _ (by rw [put_ne _ _ (by omega), put_ne _ _ (by omega), put_ne _ _ (by omega)]; exact put_same _ _ _)
  have g3 : G' b3 = some ⟨[.slice (some ⟨b4, 0, none⟩) N.cols.length N.cols.length, .slice none 0 0], true⟩ := hS _ _ (put_same _ _ _)
  have g4 : G' b4 = some ⟨N.cols.map I64, true⟩ := hS _ _ (by rw [put_ne _ _ (by omega)]; exact put_same _ _ _)
  simp (maxSteps := 300000) (disch := omega) only [gs, gs2, gs3, gs4, ↓reduceIte, Nat.reduceEqDiff, Int.reduceToNat, Nat.reduceMul, Nat.reduceAdd, Nat.reduceBEq, isLd]
  refine st_one g3 (by simp) rfl ?_
  simp (maxSteps := 300000) (disch := omega) only [gs, gs2, gs3, gs4, ↓reduceIte, Nat.reduceEqDiff, Int.reduceToNat, Nat.reduceMul, Nat.reduceAdd, Nat.reduceBEq, isLd]
  refine st_many (vs := tabC N (some ⟨b4, 0, none⟩) N.cols.length B' N.rows.length) rfl (by rw [put_ne _ _ (by omega)]; exact g2) rfl (by simp) (tabC_one _ _ _ _ _) ?_
  simp (maxSteps := 300000) (disch := omega) only [gs, gs2, gs3, gs4, ↓reduceIte, Nat.reduceEqDiff, Int.reduceToNat, Nat.reduceMul, Nat.reduceAdd, Nat.reduceBEq, isLd, over, tabC]
  have t1 : Sub (put G b4 ⟨N.cols.map I64, true⟩) (put (put (put (put (put G b1 ⟨[.slice A N.cols.length c, .slice B N.rows.length d], true⟩) b2 ⟨[.slice none 0 0, .slice none 0 0], true⟩) b3 ⟨[.slice none 0 0, .slice none 0 0], true⟩) b4 ⟨N.cols.map I64, true⟩) b3 ⟨[.slice (some ⟨b4, 0, none⟩) N.cols.length N.cols.length, .slice none 0 0], true⟩) :=
    Sub.of_put s5 (by rw [put_ne _ _ (by omega)]; exact put_same _ _ _)
  have t0 := Sub.put f4 ⟨N.cols.map I64, true⟩
  refine ⟨join (put G b4 ⟨N.cols.map I64, true⟩) (rest _ G'), Sub.join ?_ ?_, hk (some ⟨b4, 0, none⟩) B' hs' _ (t0.trans (Sub.joinL _ _)) (blk_ints (w := true) (rest_some.2 ⟨f4, Sub.joinL _ _ _ _ (put_same _ _ _)⟩)) (hR.sub ((Sub.rest_join t1).trans (Sub.rest_anti t0)))⟩
  · exact Sub.of_put (((s5.trans hS).skip f3).skip f2) (by rw [put_ne _ _ (by omega), put_ne _ _ (by omega)]; exact g4)
  · intro x e hx
    have h1 := rest_some.1 hx
    rw [put_ne, put_ne]
    · exact h1.2
    · rintro rfl; rw [put_same] at h1; cases h1.1
    · rintro rfl; rw [put_ne _ _ (by omega), put_ne _ _ (by omega), put_ne _ _ (by omega), put_same] at h1; cases h1.1
theorem laws_eqTable_ok {G : GH} {N M : Tab} {A B A' B' : Option Addr} {c d c' d' : Nat} {hs hs' : Nat → Option Addr × Nat} (h : IntS G A c N.cols) (h' : RowS G B d hs N.rows) (k : IntS G A' c' M.cols) (k' : RowS G B' d' hs' M.rows)
    (hl : N.cols.length < 2 ^ 40) (hl1 : N.rows.length < 2 ^ 40) (hl2 : ∀ i, i < N.rows.length → (N.rows.getD i []).length < 2 ^ 40) {K : Value → GH → Prop}
    (hk : ∀ b : Bool, (b = true ↔ N = M) → K (.bool b) G) : GC Try.prog 19 [tabV N A c B d, tabV M A' c' B' d'] G K := by
  refine GC_drop (c_laws_eqTable_i (by simp) ?_)
  rw [tab_ext] at hk
  unfold tabV tabC
  simp (maxSteps := 300000) (disch := omega) only [gs, gs2, gs3, gs4, ↓reduceIte, Nat.reduceEqDiff, Int.reduceToNat, Nat.reduceMul, Nat.reduceAdd, Nat.reduceBEq, isLd]
  intro b1 hb1
  simp (maxSteps := 300000) (disch := omega) only [gs, gs2, gs3, gs4, ↓reduceIte, Nat.reduceEqDiff, Int.reduceToNat, Nat.reduceMul, Nat.reduceAdd, Nat.reduceBEq, isLd]
  intro b2 hb2
  simp only [put_none] at hb2
  obtain ⟨n12, f2⟩ := hb2
  have s2 := ((Sub.refl G).skip hb1 (e := ⟨[.slice A N.cols.length c, .slice B N.rows.length d], true⟩)).skip f2 (e := ⟨[.slice A' M.cols.length c', .slice B' M.rows.length d'], true⟩)
  simp (maxSteps := 300000) (disch := omega) only [gs, gs2, gs3, gs4, ↓reduceIte, Nat.reduceEqDiff, Int.reduceToNat, Nat.reduceMul, Nat.reduceAdd, Nat.reduceBEq, isLd]
  refine laws_eqInt64S_ok (h.sub s2) (k.sub s2) hl ?_
  cases g : decide (N.cols = M.cols)
  · simp (maxSteps := 300000) (disch := omega) only [gs, gs2, gs3, gs4, ↓reduceIte, Nat.reduceEqDiff, Int.reduceToNat, Nat.reduceMul, Nat.reduceAdd, Nat.reduceBEq, isLd]
    have g := of_decide_eq_false g
    exact ⟨G, s2, hk false (by simp [g])⟩
  · have g := of_decide_eq_true g
    simp (maxSteps := 300000) (disch := omega) only [gs, gs2, gs3, gs4, ↓reduceIte, Nat.reduceEqDiff, Int.reduceToNat, Nat.reduceMul, Nat.reduceAdd, Nat.reduceBEq, isLd]
    refine laws_eqInt64SS_ok (h'.sub s2) (k'.sub s2) hl1 hl2 fun b hb => ?_
    cases b
    · simp (maxSteps := 300000) (disch := omega) only [gs, gs2, gs3, gs4, ↓reduceIte, Nat.reduceEqDiff, Int.reduceToNat, Nat.reduceMul, Nat.reduceAdd, Nat.reduceBEq, isLd]
      exact ⟨G, s2, hk false (by simp at hb; simp [hb])⟩
    · simp (maxSteps := 300000) (disch := omega) only [gs, gs2, gs3, gs4, ↓reduceIte, Nat.reduceEqDiff, Int.reduceToNat, Nat.reduceMul, Nat.reduceAdd, Nat.reduceBEq, isLd]
      exact ⟨G, s2, hk true (by simp at hb; simp [hb, g])⟩
/-- a pointer to a table. -/
structure TabP (G : GH) (q : Option Addr) (N : Tab) (A : Option Addr) (c : Nat) (B : Option Addr) (d : Nat) (hs : Nat → Option Addr × Nat) : Prop where
  f0 : rd G q = some (.slice A N.cols.length c)
  f1 : rd G (pa q 1) = some (.slice B N.rows.length d)
  cols : IntS G A c N.cols
  rows : RowS G B d hs N.rows
theorem TabP.sub {G G' : GH} {q : Option Addr} {N : Tab} {A B : Option Addr} {c d : Nat} {hs : Nat → Option Addr × Nat} (h : TabP G q N A c B d hs) (s : Sub G G') : TabP G' q N A c B d hs := ⟨rd_sub s h.f0, rd_sub s h.f1, h.cols.sub s, h.rows.sub s⟩
theorem TabP.box {G : GH} {b : Nat} (hb : G b = none) {N : Tab} {A B : Option Addr} {c d : Nat} {hs : Nat → Option Addr × Nat} (h : IntS G A c N.cols) (h' : RowS G B d hs N.rows) : TabP (put G b ⟨tabC N A c B d, true⟩) (some ⟨b, 0, none⟩) N A c B d hs :=
  ⟨by rw [rd_put]; rfl, by rw [pa_mk, rd_put]; rfl, h.sub (Sub.put hb _), h'.sub (Sub.put hb _)⟩
/-- rows that are short. -/
def Sh (xss : List (List Int)) : Prop := xss.length < 2 ^ 40 ∧ ∀ i, i < xss.length → (xss.getD i []).length < 2 ^ 40
theorem Sm.sh {xss : List (List Int)} (h : Sm xss) : Sh xss := ⟨by have := h.1; omega, fun i hi => by have := h.2 i hi; omega⟩
theorem slices_Equal_int64_ok {G : GH} {A B : Option Addr} {c d : Nat} {xs ys : List Int} (h : IntS G A c xs) (h' : IntS G B d ys) (hl : xs.length < 2 ^ 40) {K : Value → GH → Prop}
    (hk : K (.bool (decide (xs = ys))) G) : GC Try.prog 86 [.slice A xs.length c, .slice B ys.length d] G K := by
  refine c_slices_Equal_int64_int64_i (by simp) ?_
  have hsn := h.sn
  have hrd := h.rd
  have hsn' := h'.sn
  have hrd' := h'.rd
  simp (maxSteps := 300000) (disch := omega) only [gs, gs2, gs3, gs4, ↓reduceIte, Nat.reduceEqDiff, Int.reduceToNat, Nat.reduceMul, Nat.reduceAdd, Nat.reduceBEq, isLd]
  by_cases hne : xs.length = ys.length
  · simp (maxSteps := 300000) (disch := omega) only [gs, gs2, gs3, gs4, ↓reduceIte, Nat.reduceEqDiff, Int.reduceToNat, Nat.reduceMul, Nat.reduceAdd, Nat.reduceBEq, isLd, show ((xs.length : Int) = ys.length) = True by simp [hne], not_true]
    refine gLoop_intro (fun m T G' => ∃ k : Nat, T 0 = .slice A xs.length c ∧ T 1 = .slice B ys.length d ∧ T 12 = .int .i64 xs.length ∧ T 13 = .int .i64 k ∧ m + k = xs.length ∧ k ≤ xs.length ∧ G' = G ∧ ∀ i, i < k → xs.getD i 0 = ys.getD i 0) xs.length
      ⟨0, by simp (maxSteps := 300000) (disch := omega) only [gs, gs2, gs3, gs4, ↓reduceIte, Nat.reduceEqDiff, Int.reduceToNat, Nat.reduceMul, Nat.reduceAdd, Nat.reduceBEq, isLd], by simp (maxSteps := 300000) (disch := omega) only [gs, gs2, gs3, gs4, ↓reduceIte, Nat.reduceEqDiff, Int.reduceToNat, Nat.reduceMul, Nat.reduceAdd, Nat.reduceBEq, isLd], by simp (maxSteps := 300000) (disch := omega) only [gs, gs2, gs3, gs4, ↓reduceIte, Nat.reduceEqDiff, Int.reduceToNat, Nat.reduceMul, Nat.reduceAdd, Nat.reduceBEq, isLd], by simp (maxSteps := 300000) (disch := omega) only [gs, gs2, gs3, gs4, ↓reduceIte, Nat.reduceEqDiff, Int.reduceToNat, Nat.reduceMul, Nat.reduceAdd, Nat.reduceBEq, isLd] <;> rfl, by omega, by omega, rfl, fun i hi => by omega⟩ ?_
    rintro m T G' ⟨k, h0, h1, h5, h6, hm, hkl, rfl, hinv⟩
    simp (maxSteps := 300000) (disch := omega) only [gs, gs2, gs3, gs4, ↓reduceIte, Nat.reduceEqDiff, Int.reduceToNat, Nat.reduceMul, Nat.reduceAdd, Nat.reduceBEq, isLd, h0, h1, h5, h6]
    by_cases hlt : (k : Int) < xs.length
    · simp (maxSteps := 300000) (disch := omega) only [gs, gs2, gs3, gs4, ↓reduceIte, Nat.reduceEqDiff, Int.reduceToNat, Nat.reduceMul, Nat.reduceAdd, Nat.reduceBEq, isLd, h0, h1, h5, h6, hlt, hrd, hrd']
      by_cases hkk : xs.getD k 0 = ys.getD k 0
      · simp (maxSteps := 300000) (disch := omega) only [gs, gs2, gs3, gs4, ↓reduceIte, Nat.reduceEqDiff, Int.reduceToNat, Nat.reduceMul, Nat.reduceAdd, Nat.reduceBEq, isLd, hkk, h0, h1, h5, h6, not_true]
        refine ⟨m - 1, by omega, _, Sub.refl _, k + 1, rfl, by omega, by omega, rfl, fun i hi => ?_⟩
        by_cases hik : i = k
        · subst hik; exact hkk
        · exact hinv i (by omega)
      · simp (maxSteps := 300000) (disch := omega) only [gs, gs2, gs3, gs4, ↓reduceIte, Nat.reduceEqDiff, Int.reduceToNat, Nat.reduceMul, Nat.reduceAdd, Nat.reduceBEq, isLd, hkk, not_false_eq_true]
        have : ¬ xs = ys := by rintro rfl; exact hkk rfl
        simpa [this] using hk
    · simp (maxSteps := 300000) (disch := omega) only [gs, gs2, gs3, gs4, ↓reduceIte, Nat.reduceEqDiff, Int.reduceToNat, Nat.reduceMul, Nat.reduceAdd, Nat.reduceBEq, isLd, h0, h1, h5, h6, hlt]
      have : xs = ys := (list_eq_iff hne).2 fun i hi => hinv i (by omega)
      simpa [this] using hk
  · simp (maxSteps := 300000) (disch := omega) only [gs, gs2, gs3, gs4, ↓reduceIte, Nat.reduceEqDiff, Int.reduceToNat, Nat.reduceMul, Nat.reduceAdd, Nat.reduceBEq, isLd, show ((xs.length : Int) = ys.length) = False by simp; omega, not_false_eq_true]
    have : ¬ xs = ys := by rintro rfl; exact hne rfl
    simpa [this] using hk
theorem spec_l00In_ok (a b c : Int) {G : GH} {K : Value → GH → Prop} (hk : K (.bool (decide (b ≤ a ∧ a ≤ c))) G) : GC Try.prog 72 [.int .i64 a, .int .i64 b, .int .i64 c] G K := by
  refine c_spec_l00In_i (by simp) ?_
  simp (maxSteps := 300000) (disch := omega) only [gs, gs2, gs3, gs4, ↓reduceIte, Nat.reduceEqDiff, Int.reduceToNat, Nat.reduceMul, Nat.reduceAdd, Nat.reduceBEq, isLd]
  by_cases h1 : b ≤ a
  · simp (maxSteps := 300000) (disch := omega) only [gs, gs2, gs3, gs4, ↓reduceIte, Nat.reduceEqDiff, Int.reduceToNat, Nat.reduceMul, Nat.reduceAdd, Nat.reduceBEq, isLd, h1]
    simpa [h1] using hk
  · simp (maxSteps := 300000) (disch := omega) only [gs, gs2, gs3, gs4, ↓reduceIte, Nat.reduceEqDiff, Int.reduceToNat, Nat.reduceMul, Nat.reduceAdd, Nat.reduceBEq, isLd, h1]
    simpa [h1] using hk
theorem impl_within_ok (a b c : Int) {G : GH} {K : Value → GH → Prop} (hk : K (.bool (decide (b ≤ a ∧ a ≤ c))) G) : GC Try.prog 102 [.int .i64 a, .int .i64 b, .int .i64 c] G K := by
  refine c_impl_within_i (by simp) ?_
  simp (maxSteps := 300000) (disch := omega) only [gs, gs2, gs3, gs4, ↓reduceIte, Nat.reduceEqDiff, Int.reduceToNat, Nat.reduceMul, Nat.reduceAdd, Nat.reduceBEq, isLd]
  by_cases h1 : b ≤ a
  · simp (maxSteps := 300000) (disch := omega) only [gs, gs2, gs3, gs4, ↓reduceIte, Nat.reduceEqDiff, Int.reduceToNat, Nat.reduceMul, Nat.reduceAdd, Nat.reduceBEq, isLd, h1]
    simpa [h1] using hk
  · simp (maxSteps := 300000) (disch := omega) only [gs, gs2, gs3, gs4, ↓reduceIte, Nat.reduceEqDiff, Int.reduceToNat, Nat.reduceMul, Nat.reduceAdd, Nat.reduceBEq, isLd, h1]
    simpa [h1] using hk
def cmp3 (a b : Int) : Int := if a < b then -1 else if b < a then 1 else 0
theorem cmp_isNaN_ok (a : Int) {G : GH} {K : Value → GH → Prop} (hk : K (.bool false) G) : GC Try.prog 103 [.int .i64 a] G K := by
  refine c_cmp_isNaN_int64_i (by simp) ?_
  simp (maxSteps := 300000) (disch := omega) only [gs, gs2, gs3, gs4, ↓reduceIte, Nat.reduceEqDiff, Int.reduceToNat, Nat.reduceMul, Nat.reduceAdd, Nat.reduceBEq, isLd]
  exact hk
theorem cmp_Compare_ok (a b : Int) {G : GH} {K : Value → GH → Prop} (hk : K (.int .i64 (cmp3 a b)) G) : GC Try.prog 95 [.int .i64 a, .int .i64 b] G K := by
  refine c_cmp_Compare_int64_i (by simp) ?_
  simp (maxSteps := 300000) (disch := omega) only [gs, gs2, gs3, gs4, ↓reduceIte, Nat.reduceEqDiff, Int.reduceToNat, Nat.reduceMul, Nat.reduceAdd, Nat.reduceBEq, isLd]
  refine cmp_isNaN_ok _ ?_
  simp (maxSteps := 300000) (disch := omega) only [gs, gs2, gs3, gs4, ↓reduceIte, Nat.reduceEqDiff, Int.reduceToNat, Nat.reduceMul, Nat.reduceAdd, Nat.reduceBEq, isLd]
  refine cmp_isNaN_ok _ ?_
  simp (maxSteps := 300000) (disch := omega) only [gs, gs2, gs3, gs4, ↓reduceIte, Nat.reduceEqDiff, Int.reduceToNat, Nat.reduceMul, Nat.reduceAdd, Nat.reduceBEq, isLd]
  unfold cmp3 at hk
  by_cases h1 : a < b
  · simp (maxSteps := 300000) (disch := omega) only [gs, gs2, gs3, gs4, ↓reduceIte, Nat.reduceEqDiff, Int.reduceToNat, Nat.reduceMul, Nat.reduceAdd, Nat.reduceBEq, isLd, h1]; rwa [if_pos h1] at hk
  · rw [if_neg h1] at hk
    simp (maxSteps := 300000) (disch := omega) only [gs, gs2, gs3, gs4, ↓reduceIte, Nat.reduceEqDiff, Int.reduceToNat, Nat.reduceMul, Nat.reduceAdd, Nat.reduceBEq, isLd, h1]
    by_cases h2 : b < a
    · simp (maxSteps := 300000) (disch := omega) only [gs, gs2, gs3, gs4, ↓reduceIte, Nat.reduceEqDiff, Int.reduceToNat, Nat.reduceMul, Nat.reduceAdd, Nat.reduceBEq, isLd, h2]; rwa [if_pos h2] at hk
    · simp (maxSteps := 300000) (disch := omega) only [gs, gs2, gs3, gs4, ↓reduceIte, Nat.reduceEqDiff, Int.reduceToNat, Nat.reduceMul, Nat.reduceAdd, Nat.reduceBEq, isLd, h2]; rwa [if_neg h2] at hk
theorem impl_isElement_ok (a p : Int) {G : GH} {K : Value → GH → Prop} (hk : K (.bool (decide (0 ≤ a ∧ a ≤ IntKind.i64.wrap (p - 1)))) G) : GC Try.prog 94 [.int .i64 a, .int .i64 p] G K := by
  refine c_impl_isElement_i (by simp) ?_
  simp (maxSteps := 300000) (disch := omega) only [gs, gs2, gs3, gs4, ↓reduceIte, Nat.reduceEqDiff, Int.reduceToNat, Nat.reduceMul, Nat.reduceAdd, Nat.reduceBEq, isLd]
  refine impl_within_ok _ _ _ ?_
  simp (maxSteps := 300000) (disch := omega) only [gs, gs2, gs3, gs4, ↓reduceIte, Nat.reduceEqDiff, Int.reduceToNat, Nat.reduceMul, Nat.reduceAdd, Nat.reduceBEq, isLd]
  exact hk
def Rise (xs : List Int) : Prop := ∀ i, i + 1 < xs.length → xs.getD i 0 < xs.getD (i + 1) 0
def InB (xs : List Int) (lo hi : Int) : Prop := ∀ i, i < xs.length → lo ≤ xs.getD i 0 ∧ xs.getD i 0 ≤ hi
theorem inB_mem {xs : List Int} {lo hi : Int} : InB xs lo hi ↔ ∀ x ∈ xs, lo ≤ x ∧ x ≤ hi := by
  constructor
  · intro h x hx
    obtain ⟨i, hi, rfl⟩ := List.getElem_of_mem hx
    simpa [List.getD, hi] using h i hi
  · intro h i hi
    exact h _ (by simp [List.getD, hi])
theorem spec_l00Rises_ok {G : GH} {A : Option Addr} {c : Nat} {xs : List Int} {lo hi : Int} (h : IntS G A c xs) (hl : xs.length < 2 ^ 40) {K : Value → GH → Prop}
    (hk : ∀ b : Bool, (b = true ↔ InB xs lo hi ∧ Rise xs) → K (.bool b) G) : GC Try.prog 49 [.slice A xs.length c, .int .i64 lo, .int .i64 hi] G K := by
  refine c_spec_l00Rises_i (by simp) ?_
  have hsn := h.sn
  have r := h.rd
  have hno : ¬ (InB xs lo hi ∧ Rise xs) → K (.bool false) G := fun hx => hk false (by simp [hx])
  simp (maxSteps := 300000) (disch := omega) only [gs, gs2, gs3, gs4, ↓reduceIte, Nat.reduceEqDiff, Int.reduceToNat, Nat.reduceMul, Nat.reduceAdd, Nat.reduceBEq, isLd]
  refine gLoop_intro (fun m T G' => ∃ k : Nat, T 0 = .slice A xs.length c ∧ T 1 = .int .i64 lo ∧ T 2 = .int .i64 hi ∧ T 7 = .int .i64 k ∧ m + k = xs.length ∧ k ≤ xs.length ∧ G' = G ∧ (∀ i, i < k → lo ≤ xs.getD i 0 ∧ xs.getD i 0 ≤ hi) ∧ ∀ i, i + 1 < k → xs.getD i 0 < xs.getD (i + 1) 0)
    xs.length ⟨0, by simp (maxSteps := 300000) (disch := omega) only [gs, gs2, gs3, gs4, ↓reduceIte, Nat.reduceEqDiff, Int.reduceToNat, Nat.reduceMul, Nat.reduceAdd, Nat.reduceBEq, isLd], by simp (maxSteps := 300000) (disch := omega) only [gs, gs2, gs3, gs4, ↓reduceIte, Nat.reduceEqDiff, Int.reduceToNat, Nat.reduceMul, Nat.reduceAdd, Nat.reduceBEq, isLd], by simp (maxSteps := 300000) (disch := omega) only [gs, gs2, gs3, gs4, ↓reduceIte, Nat.reduceEqDiff, Int.reduceToNat, Nat.reduceMul, Nat.reduceAdd, Nat.reduceBEq, isLd], by simp (maxSteps := 300000) (disch := omega) only [gs, gs2, gs3, gs4, ↓reduceIte, Nat.reduceEqDiff, Int.reduceToNat, Nat.reduceMul, Nat.reduceAdd, Nat.reduceBEq, isLd] <;> rfl, by omega, by omega, rfl, fun i hi => by omega, fun i hi => by omega⟩ ?_
  rintro m T G' ⟨k, e0, e1, e2, e7, hm, hkl, rfl, hin, hri⟩
  simp (maxSteps := 300000) (disch := omega) only [gs, gs2, gs3, gs4, ↓reduceIte, Nat.reduceEqDiff, Int.reduceToNat, Nat.reduceMul, Nat.reduceAdd, Nat.reduceBEq, isLd, e0, e1, e2, e7]
  by_cases hkk : (k : Int) < xs.length
  · simp (maxSteps := 300000) (disch := omega) only [gs, gs2, gs3, gs4, ↓reduceIte, Nat.reduceEqDiff, Int.reduceToNat, Nat.reduceMul, Nat.reduceAdd, Nat.reduceBEq, isLd, e0, e1, e2, e7, hkk, r]
    refine spec_l00In_ok _ _ _ ?_
    simp (maxSteps := 300000) (disch := omega) only [gs, gs2, gs3, gs4, ↓reduceIte, Nat.reduceEqDiff, Int.reduceToNat, Nat.reduceMul, Nat.reduceAdd, Nat.reduceBEq, isLd, e0, e1, e2, e7, hkk, r]
    cases g1 : decide (lo ≤ xs.getD k 0 ∧ xs.getD k 0 ≤ hi)
    · simp (maxSteps := 300000) (disch := omega) only [gs, gs2, gs3, gs4, ↓reduceIte, Nat.reduceEqDiff, Int.reduceToNat, Nat.reduceMul, Nat.reduceAdd, Nat.reduceBEq, isLd, e0, e1, e2, e7, hkk, r]
      have g1 := of_decide_eq_false g1
      exact hno fun hx => g1 (hx.1 k (by omega))
    · simp (maxSteps := 300000) (disch := omega) only [gs, gs2, gs3, gs4, ↓reduceIte, Nat.reduceEqDiff, Int.reduceToNat, Nat.reduceMul, Nat.reduceAdd, Nat.reduceBEq, isLd, e0, e1, e2, e7, hkk, r]
      have g1 := of_decide_eq_true g1
      have hin' : ∀ i, i < k + 1 → lo ≤ xs.getD i 0 ∧ xs.getD i 0 ≤ hi := fun i hi => by
        by_cases hik : i = k
        · subst hik; exact g1
        · exact hin i (by omega)
      by_cases hk0 : (0 : Int) < k
      · simp (maxSteps := 300000) (disch := omega) only [gs, gs2, gs3, gs4, ↓reduceIte, Nat.reduceEqDiff, Int.reduceToNat, Nat.reduceMul, Nat.reduceAdd, Nat.reduceBEq, isLd, e0, e1, e2, e7, hkk, hk0, r]
        by_cases g2 : xs.getD k 0 ≤ xs.getD ((k : Int) - 1).toNat 0
        · simp (maxSteps := 300000) (disch := omega) only [gs, gs2, gs3, gs4, ↓reduceIte, Nat.reduceEqDiff, Int.reduceToNat, Nat.reduceMul, Nat.reduceAdd, Nat.reduceBEq, isLd, e0, e1, e2, e7, hkk, g2, r]
          exact hno fun hx => by
            have := hx.2 (k - 1) (by omega)
            rw [show k - 1 + 1 = k by omega, show k - 1 = ((k : Int) - 1).toNat by omega] at this
            omega
        · simp (maxSteps := 300000) (disch := omega) only [gs, gs2, gs3, gs4, ↓reduceIte, Nat.reduceEqDiff, Int.reduceToNat, Nat.reduceMul, Nat.reduceAdd, Nat.reduceBEq, isLd, e0, e1, e2, e7, hkk, g2, r]
          refine ⟨m - 1, by omega, _, Sub.refl _, k + 1, rfl, by omega, by omega, rfl, hin', fun i hi => ?_⟩
          by_cases hik : i + 1 = k
          · rw [hik, show i = ((k : Int) - 1).toNat by omega]; omega
          · exact hri i (by omega)
      · simp (maxSteps := 300000) (disch := omega) only [gs, gs2, gs3, gs4, ↓reduceIte, Nat.reduceEqDiff, Int.reduceToNat, Nat.reduceMul, Nat.reduceAdd, Nat.reduceBEq, isLd, e0, e1, e2, e7, hkk, hk0, r]
        exact ⟨m - 1, by omega, _, Sub.refl _, k + 1, rfl, by omega, by omega, rfl, hin', fun i hi => by omega⟩
  · simp (maxSteps := 300000) (disch := omega) only [gs, gs2, gs3, gs4, ↓reduceIte, Nat.reduceEqDiff, Int.reduceToNat, Nat.reduceMul, Nat.reduceAdd, Nat.reduceBEq, isLd, e0, e1, e2, e7, hkk]
    exact hk true (by simp; exact ⟨fun i hi => hin i (by omega), fun i hi => hri i (by omega)⟩)
theorem impl_isRising_ok {G : GH} {A : Option Addr} {c : Nat} {xs : List Int} (h : IntS G A c xs) (hl : xs.length < 2 ^ 40) {K : Value → GH → Prop}
    (hk : ∀ b : Bool, (b = true ↔ Rise xs) → K (.bool b) G) : GC Try.prog 51 [.slice A xs.length c] G K := by
  refine c_impl_isRising_i (by simp) ?_
  have hsn := h.sn
  have r := h.rd
  simp (maxSteps := 300000) (disch := omega) only [gs, gs2, gs3, gs4, ↓reduceIte, Nat.reduceEqDiff, Int.reduceToNat, Nat.reduceMul, Nat.reduceAdd, Nat.reduceBEq, isLd]
  refine gLoop_intro (fun m T G' => ∃ k : Nat, T 0 = .slice A xs.length c ∧ T 3 = .int .i64 k ∧ m + k = xs.length + 1 ∧ 1 ≤ k ∧ G' = G ∧ ∀ i, i + 1 < k → i + 1 < xs.length → xs.getD i 0 < xs.getD (i + 1) 0)
    xs.length ⟨1, by simp (maxSteps := 300000) (disch := omega) only [gs, gs2, gs3, gs4, ↓reduceIte, Nat.reduceEqDiff, Int.reduceToNat, Nat.reduceMul, Nat.reduceAdd, Nat.reduceBEq, isLd], by simp (maxSteps := 300000) (disch := omega) only [gs, gs2, gs3, gs4, ↓reduceIte, Nat.reduceEqDiff, Int.reduceToNat, Nat.reduceMul, Nat.reduceAdd, Nat.reduceBEq, isLd] <;> rfl, by omega, by omega, rfl, fun i hi => by omega⟩ ?_
  rintro m T G' ⟨k, e0, e3, hm, hkl, rfl, hri⟩
  simp (maxSteps := 300000) (disch := omega) only [gs, gs2, gs3, gs4, ↓reduceIte, Nat.reduceEqDiff, Int.reduceToNat, Nat.reduceMul, Nat.reduceAdd, Nat.reduceBEq, isLd, e0, e3]
  by_cases hkk : (k : Int) < xs.length
  · simp (maxSteps := 300000) (disch := omega) only [gs, gs2, gs3, gs4, ↓reduceIte, Nat.reduceEqDiff, Int.reduceToNat, Nat.reduceMul, Nat.reduceAdd, Nat.reduceBEq, isLd, e0, e3, hkk, r]
    by_cases g2 : xs.getD k 0 ≤ xs.getD ((k : Int) - 1).toNat 0
    · simp (maxSteps := 300000) (disch := omega) only [gs, gs2, gs3, gs4, ↓reduceIte, Nat.reduceEqDiff, Int.reduceToNat, Nat.reduceMul, Nat.reduceAdd, Nat.reduceBEq, isLd, e0, e3, hkk, g2, r]
      refine hk false ?_
      simp
      exact fun hx => by
        have := hx (k - 1) (by omega)
        rw [show k - 1 + 1 = k by omega, show k - 1 = ((k : Int) - 1).toNat by omega] at this
        omega
    · simp (maxSteps := 300000) (disch := omega) only [gs, gs2, gs3, gs4, ↓reduceIte, Nat.reduceEqDiff, Int.reduceToNat, Nat.reduceMul, Nat.reduceAdd, Nat.reduceBEq, isLd, e0, e3, hkk, g2, r]
      refine ⟨m - 1, by omega, _, Sub.refl _, k + 1, rfl, by omega, by omega, rfl, fun i hi hi' => ?_⟩
      by_cases hik : i + 1 = k
      · rw [hik, show i = ((k : Int) - 1).toNat by omega]; omega
      · exact hri i (by omega) hi'
  · simp (maxSteps := 300000) (disch := omega) only [gs, gs2, gs3, gs4, ↓reduceIte, Nat.reduceEqDiff, Int.reduceToNat, Nat.reduceMul, Nat.reduceAdd, Nat.reduceBEq, isLd, e0, e3, hkk]
    exact hk true (by simp; exact fun i hi => hri i (by omega) hi)
theorem impl_areElements_ok {G : GH} {A : Option Addr} {c : Nat} {xs : List Int} {p : Int} (h : IntS G A c xs) (hl : xs.length < 2 ^ 40) {K : Value → GH → Prop}
    (hk : ∀ b : Bool, (b = true ↔ InB xs 0 (IntKind.i64.wrap (p - 1))) → K (.bool b) G) : GC Try.prog 74 [.slice A xs.length c, .int .i64 p] G K := by
  refine GC_drop (c_impl_areElements_i (by simp) ?_)
  simp (maxSteps := 300000) (disch := omega) only [gs, gs2, gs3, gs4, ↓reduceIte, Nat.reduceEqDiff, Int.reduceToNat, Nat.reduceMul, Nat.reduceAdd, Nat.reduceBEq, isLd]
  intro b1 hb1
  simp (maxSteps := 300000) (disch := omega) only [gs, gs2, gs3, gs4, ↓reduceIte, Nat.reduceEqDiff, Int.reduceToNat, Nat.reduceMul, Nat.reduceAdd, Nat.reduceBEq, isLd]
  have s1 := Sub.put hb1 ⟨[.int .i64 p], true⟩
  refine slices_ContainsFunc_ok (fun n => !decide (0 ≤ n ∧ n ≤ IntKind.i64.wrap (p - 1))) (h.sub s1) hl (fun i hi K' hK' => ?_) ?_
  · simp (maxSteps := 300000) (disch := omega) only [gs, gs2, gs3, gs4, ↓reduceIte, Nat.reduceEqDiff, Int.reduceToNat, Nat.reduceMul, Nat.reduceAdd, Nat.reduceBEq, isLd]
    refine c_impl_areElements_fn1_i (by simp) ?_
    simp (maxSteps := 300000) (disch := omega) only [gs, gs2, gs3, gs4, ↓reduceIte, Nat.reduceEqDiff, Int.reduceToNat, Nat.reduceMul, Nat.reduceAdd, Nat.reduceBEq, isLd]
    refine impl_isElement_ok _ _ ?_
    simp (maxSteps := 300000) (disch := omega) only [gs, gs2, gs3, gs4, ↓reduceIte, Nat.reduceEqDiff, Int.reduceToNat, Nat.reduceMul, Nat.reduceAdd, Nat.reduceBEq, isLd]
    exact hK'
  · generalize hany : (xs.any fun n => !decide (0 ≤ n ∧ n ≤ IntKind.i64.wrap (p - 1))) = bb
    simp (maxSteps := 300000) (disch := omega) only [gs, gs2, gs3, gs4, ↓reduceIte, Nat.reduceEqDiff, Int.reduceToNat, Nat.reduceMul, Nat.reduceAdd, Nat.reduceBEq, isLd]
    refine ⟨G, s1, hk _ ?_⟩
    rw [inB_mem]
    cases bb
    · rw [List.any_eq_false] at hany
      simp
      exact fun x hx => by simpa using hany x hx
    · rw [List.any_eq_true] at hany
      obtain ⟨x, hx, hy⟩ := hany
      simp
      exact ⟨x, hx, fun h0 => by rcases (by simpa using hy : x < 0 ∨ IntKind.i64.wrap (p - 1) < x) with h | h <;> omega⟩
theorem slices_Index_ok {G : GH} {A : Option Addr} {c : Nat} {xs : List Int} {v : Int} (h : IntS G A c xs) (hl : xs.length < 2 ^ 40) {K : Value → GH → Prop}
    (hk : K (.int .i64 (idxI (fun x => decide (x = v)) xs)) G) : GC Try.prog 87 [.slice A xs.length c, .int .i64 v] G K := by
  refine c_slices_Index_int64_int64_i (by simp) ?_
  have hsn := h.sn
  have r := h.rd
  simp (maxSteps := 300000) (disch := omega) only [gs, gs2, gs3, gs4, ↓reduceIte, Nat.reduceEqDiff, Int.reduceToNat, Nat.reduceMul, Nat.reduceAdd, Nat.reduceBEq, isLd]
  refine gLoop_intro (fun m T G' => ∃ k : Nat, T 0 = .slice A xs.length c ∧ T 1 = .int .i64 v ∧ T 7 = .int .i64 xs.length ∧ T 8 = .int .i64 k ∧ m + k = xs.length ∧ k ≤ xs.length ∧ G' = G ∧ ∀ i, i < k → xs.getD i 0 ≠ v) xs.length
    ⟨0, by simp (maxSteps := 300000) (disch := omega) only [gs, gs2, gs3, gs4, ↓reduceIte, Nat.reduceEqDiff, Int.reduceToNat, Nat.reduceMul, Nat.reduceAdd, Nat.reduceBEq, isLd], by simp (maxSteps := 300000) (disch := omega) only [gs, gs2, gs3, gs4, ↓reduceIte, Nat.reduceEqDiff, Int.reduceToNat, Nat.reduceMul, Nat.reduceAdd, Nat.reduceBEq, isLd], by simp (maxSteps := 300000) (disch := omega) only [gs, gs2, gs3, gs4, ↓reduceIte, Nat.reduceEqDiff, Int.reduceToNat, Nat.reduceMul, Nat.reduceAdd, Nat.reduceBEq, isLd], by simp (maxSteps := 300000) (disch := omega) only [gs, gs2, gs3, gs4, ↓reduceIte, Nat.reduceEqDiff, Int.reduceToNat, Nat.reduceMul, Nat.reduceAdd, Nat.reduceBEq, isLd] <;> rfl, by omega, by omega, rfl, fun i hi => by omega⟩ ?_
  rintro m T G' ⟨k, e0, e1, e7, e8, hm, hkl, rfl, hin⟩
  simp (maxSteps := 300000) (disch := omega) only [gs, gs2, gs3, gs4, ↓reduceIte, Nat.reduceEqDiff, Int.reduceToNat, Nat.reduceMul, Nat.reduceAdd, Nat.reduceBEq, isLd, e0, e1, e7, e8]
  by_cases hkk : (k : Int) < xs.length
  · simp (maxSteps := 300000) (disch := omega) only [gs, gs2, gs3, gs4, ↓reduceIte, Nat.reduceEqDiff, Int.reduceToNat, Nat.reduceMul, Nat.reduceAdd, Nat.reduceBEq, isLd, e0, e1, e7, e8, hkk, r]
    by_cases g1 : v = xs.getD k 0
    · simp (maxSteps := 300000) (disch := omega) only [gs, gs2, gs3, gs4, ↓reduceIte, Nat.reduceEqDiff, Int.reduceToNat, Nat.reduceMul, Nat.reduceAdd, Nat.reduceBEq, isLd, eq_true g1, e0, e1, e7, e8]
      rw [idxI_some (k := k) (by omega) (decide_eq_true g1.symm) (fun i hi => decide_eq_false (hin i hi))] at hk; exact hk
    · rw [decide_eq_false g1]
      simp (maxSteps := 300000) (disch := omega) only [gs, gs2, gs3, gs4, ↓reduceIte, Nat.reduceEqDiff, Int.reduceToNat, Nat.reduceMul, Nat.reduceAdd, Nat.reduceBEq, isLd, e0, e1, e7, e8]
      refine ⟨m - 1, by omega, _, Sub.refl _, k + 1, rfl, by omega, by omega, rfl, fun i hi => ?_⟩
      by_cases hik : i = k
      · subst hik; exact fun h => g1 h.symm
      · exact hin i (by omega)
  · simp (maxSteps := 300000) (disch := omega) only [gs, gs2, gs3, gs4, ↓reduceIte, Nat.reduceEqDiff, Int.reduceToNat, Nat.reduceMul, Nat.reduceAdd, Nat.reduceBEq, isLd, e0, e1, e7, e8, hkk]
    rw [idxI_none (fun i hi => decide_eq_false (hin i (by omega)))] at hk; exact hk
theorem idxI_mem {xs : List Int} {v : Int} : 0 ≤ idxI (fun x => decide (x = v)) xs ↔ v ∈ xs := by
  unfold idxI
  cases hi : xs.findIdx? fun x => decide (x = v) with
  | none =>
    rw [List.findIdx?_eq_none_iff] at hi
    simp
    intro hx
    simpa using hi v hx
  | some i =>
    rw [List.findIdx?_eq_some_iff_getElem] at hi
    obtain ⟨h1, h2, _⟩ := hi
    simp at h2
    simp
    rw [← h2]; exact List.getElem_mem h1
theorem slices_Contains_ok {G : GH} {A : Option Addr} {c : Nat} {xs : List Int} {v : Int} (h : IntS G A c xs) (hl : xs.length < 2 ^ 40) {K : Value → GH → Prop}
    (hk : ∀ b : Bool, (b = true ↔ v ∈ xs) → K (.bool b) G) : GC Try.prog 80 [.slice A xs.length c, .int .i64 v] G K := by
  refine c_slices_Contains_int64_int64_i (by simp) ?_
  simp (maxSteps := 300000) (disch := omega) only [gs, gs2, gs3, gs4, ↓reduceIte, Nat.reduceEqDiff, Int.reduceToNat, Nat.reduceMul, Nat.reduceAdd, Nat.reduceBEq, isLd]
  refine slices_Index_ok h hl ?_
  simp (maxSteps := 300000) (disch := omega) only [gs, gs2, gs3, gs4, ↓reduceIte, Nat.reduceEqDiff, Int.reduceToNat, Nat.reduceMul, Nat.reduceAdd, Nat.reduceBEq, isLd]
  exact hk _ (by rw [decide_eq_true_eq]; exact idxI_mem)
/-- two lists of integers, compared place by place. -/
def lexC : List Int → List Int → Int
  | [], [] => 0
  | [], _ :: _ => -1
  | _ :: _, [] => 1
  | x :: xs, y :: ys => if cmp3 x y = 0 then lexC xs ys else cmp3 x y
theorem drop_cons {xs : List Int} {k : Nat} (h : k < xs.length) : xs.drop k = xs.getD k 0 :: xs.drop (k + 1) := by
  rw [List.drop_eq_getElem_cons h]; simp [List.getD, h]
theorem lexC_drop {xs ys : List Int} : ∀ k : Nat, k ≤ xs.length → k ≤ ys.length → (∀ i, i < k → xs.getD i 0 = ys.getD i 0) → lexC xs ys = lexC (xs.drop k) (ys.drop k)
  | 0, _, _, _ => by simp
  | k + 1, h1, h2, h => by
    rw [lexC_drop k (by omega) (by omega) fun i hi => h i (by omega), drop_cons (show k < xs.length by omega), drop_cons (show k < ys.length by omega)]
    have := h k (by omega)
    rw [lexC, if_pos (by rw [this]; simp [cmp3])]
theorem lexC_at {xs ys : List Int} {k : Nat} (h1 : k < xs.length) (h2 : k < ys.length) (h : ∀ i, i < k → xs.getD i 0 = ys.getD i 0) (hne : cmp3 (xs.getD k 0) (ys.getD k 0) ≠ 0) : lexC xs ys = cmp3 (xs.getD k 0) (ys.getD k 0) := by
  rw [lexC_drop k (by omega) (by omega) h, drop_cons h1, drop_cons h2, lexC, if_neg hne]
theorem lexC_end {xs ys : List Int} (h : xs.length ≤ ys.length) (he : ∀ i, i < xs.length → xs.getD i 0 = ys.getD i 0) : lexC xs ys = if xs.length < ys.length then -1 else 0 := by
  rw [lexC_drop xs.length (by omega) h he, List.drop_length]
  by_cases hl : xs.length < ys.length
  · rw [drop_cons hl, lexC, if_pos hl]
  · rw [List.drop_eq_nil_of_le (show ys.length ≤ xs.length by omega), lexC, if_neg hl]
theorem lexC_long {xs ys : List Int} (h : ys.length < xs.length) (he : ∀ i, i < ys.length → xs.getD i 0 = ys.getD i 0) : lexC xs ys = 1 := by
  rw [lexC_drop ys.length (by omega) (by omega) he, List.drop_length, drop_cons h, lexC]
theorem cmp3_zero {a b : Int} : cmp3 a b = 0 ↔ a = b := by unfold cmp3; split <;> (try split) <;> omega
theorem cmp3_neg {a b : Int} : cmp3 a b < 0 ↔ a < b := by unfold cmp3; split <;> (try split) <;> omega
theorem slices_Compare_ok {G : GH} {A B : Option Addr} {c d : Nat} {xs ys : List Int} (h : IntS G A c xs) (h' : IntS G B d ys) (hl : xs.length < 2 ^ 40) (hl' : ys.length < 2 ^ 40) {K : Value → GH → Prop}
    (hk : K (.int .i64 (lexC xs ys)) G) : GC Try.prog 75 [.slice A xs.length c, .slice B ys.length d] G K := by
  refine c_slices_Compare_int64_int64_i (by simp) ?_
  have hsn := h.sn
  have r := h.rd
  have hsn' := h'.sn
  have r' := h'.rd
  simp (maxSteps := 300000) (disch := omega) only [gs, gs2, gs3, gs4, ↓reduceIte, Nat.reduceEqDiff, Int.reduceToNat, Nat.reduceMul, Nat.reduceAdd, Nat.reduceBEq, isLd]
  refine gLoop_intro (fun m T G' => ∃ k : Nat, T 0 = .slice A xs.length c ∧ T 1 = .slice B ys.length d ∧ T 9 = .slice A xs.length c ∧ T 10 = .int .i64 xs.length ∧ T 11 = .int .i64 k ∧ m + k = xs.length ∧ k ≤ xs.length ∧ k ≤ ys.length ∧ G' = G ∧ ∀ i, i < k → xs.getD i 0 = ys.getD i 0) xs.length
    ⟨0, by simp (maxSteps := 300000) (disch := omega) only [gs, gs2, gs3, gs4, ↓reduceIte, Nat.reduceEqDiff, Int.reduceToNat, Nat.reduceMul, Nat.reduceAdd, Nat.reduceBEq, isLd], by simp (maxSteps := 300000) (disch := omega) only [gs, gs2, gs3, gs4, ↓reduceIte, Nat.reduceEqDiff, Int.reduceToNat, Nat.reduceMul, Nat.reduceAdd, Nat.reduceBEq, isLd], by simp (maxSteps := 300000) (disch := omega) only [gs, gs2, gs3, gs4, ↓reduceIte, Nat.reduceEqDiff, Int.reduceToNat, Nat.reduceMul, Nat.reduceAdd, Nat.reduceBEq, isLd], by simp (maxSteps := 300000) (disch := omega) only [gs, gs2, gs3, gs4, ↓reduceIte, Nat.reduceEqDiff, Int.reduceToNat, Nat.reduceMul, Nat.reduceAdd, Nat.reduceBEq, isLd], by simp (maxSteps := 300000) (disch := omega) only [gs, gs2, gs3, gs4, ↓reduceIte, Nat.reduceEqDiff, Int.reduceToNat, Nat.reduceMul, Nat.reduceAdd, Nat.reduceBEq, isLd] <;> rfl, by omega, by omega, by omega, rfl, fun i hi => by omega⟩ ?_
  rintro m T G' ⟨k, e0, e1, e9, e10, e11, hm, hkl, hky, rfl, hin⟩
  simp (maxSteps := 300000) (disch := omega) only [gs, gs2, gs3, gs4, ↓reduceIte, Nat.reduceEqDiff, Int.reduceToNat, Nat.reduceMul, Nat.reduceAdd, Nat.reduceBEq, isLd, e0, e1, e9, e10, e11]
  by_cases hkk : (k : Int) < xs.length
  · simp (maxSteps := 300000) (disch := omega) only [gs, gs2, gs3, gs4, ↓reduceIte, Nat.reduceEqDiff, Int.reduceToNat, Nat.reduceMul, Nat.reduceAdd, Nat.reduceBEq, isLd, e0, e1, e9, e10, e11, hkk, r]
    by_cases hy : (ys.length : Int) ≤ k
    · simp (maxSteps := 300000) (disch := omega) only [gs, gs2, gs3, gs4, ↓reduceIte, Nat.reduceEqDiff, Int.reduceToNat, Nat.reduceMul, Nat.reduceAdd, Nat.reduceBEq, isLd, hy, e0, e1, e9, e10, e11]
      rw [lexC_long (by omega) fun i hi => hin i (by omega)] at hk
      exact hk
    · simp (maxSteps := 300000) (disch := omega) only [gs, gs2, gs3, gs4, ↓reduceIte, Nat.reduceEqDiff, Int.reduceToNat, Nat.reduceMul, Nat.reduceAdd, Nat.reduceBEq, isLd, hy, e0, e1, e9, e10, e11, r']
      refine cmp_Compare_ok _ _ ?_
      simp (maxSteps := 300000) (disch := omega) only [gs, gs2, gs3, gs4, ↓reduceIte, Nat.reduceEqDiff, Int.reduceToNat, Nat.reduceMul, Nat.reduceAdd, Nat.reduceBEq, isLd, e0, e1, e9, e10, e11]
      by_cases hc : cmp3 (xs.getD k 0) (ys.getD k 0) = 0
      · simp (maxSteps := 300000) (disch := omega) only [gs, gs2, gs3, gs4, ↓reduceIte, Nat.reduceEqDiff, Int.reduceToNat, Nat.reduceMul, Nat.reduceAdd, Nat.reduceBEq, isLd, eq_true hc, e0, e1, e9, e10, e11]
        refine ⟨m - 1, by omega, _, Sub.refl _, k + 1, rfl, by omega, by omega, by omega, rfl, fun i hi => ?_⟩
        by_cases hik : i = k
        · subst hik; exact cmp3_zero.1 hc
        · exact hin i (by omega)
      · simp (maxSteps := 300000) (disch := omega) only [gs, gs2, gs3, gs4, ↓reduceIte, Nat.reduceEqDiff, Int.reduceToNat, Nat.reduceMul, Nat.reduceAdd, Nat.reduceBEq, isLd, eq_false hc, e0, e1, e9, e10, e11]
        rw [lexC_at (by omega) (by omega) hin hc] at hk
        exact hk
  · simp (maxSteps := 300000) (disch := omega) only [gs, gs2, gs3, gs4, ↓reduceIte, Nat.reduceEqDiff, Int.reduceToNat, Nat.reduceMul, Nat.reduceAdd, Nat.reduceBEq, isLd, e0, e1, e9, e10, e11, hkk]
    rw [lexC_end (by omega) fun i hi => hin i (by omega)] at hk
    by_cases hlt : (xs.length : Int) < ys.length
    · simp (maxSteps := 300000) (disch := omega) only [gs, gs2, gs3, gs4, ↓reduceIte, Nat.reduceEqDiff, Int.reduceToNat, Nat.reduceMul, Nat.reduceAdd, Nat.reduceBEq, isLd, hlt]
      rwa [if_pos (by omega)] at hk
    · simp (maxSteps := 300000) (disch := omega) only [gs, gs2, gs3, gs4, ↓reduceIte, Nat.reduceEqDiff, Int.reduceToNat, Nat.reduceMul, Nat.reduceAdd, Nat.reduceBEq, isLd, hlt]
      rwa [if_neg (by omega)] at hk
theorem spec_l16Before_ok {G : GH} {A B : Option Addr} {c d : Nat} {xs ys : List Int} (h : IntS G A c xs) (h' : IntS G B d ys) (hl : xs.length < 2 ^ 40) (hl' : ys.length < 2 ^ 40) {K : Value → GH → Prop}
    (hk : ∀ b : Bool, (b = true ↔ lexC xs ys < 0) → K (.bool b) G) : GC Try.prog 71 [.slice A xs.length c, .slice B ys.length d] G K := by
  refine c_spec_l16Before_i (by simp) ?_
  have hsn := h.sn
  have r := h.rd
  have hsn' := h'.sn
  have r' := h'.rd
  simp (maxSteps := 300000) (disch := omega) only [gs, gs2, gs3, gs4, ↓reduceIte, Nat.reduceEqDiff, Int.reduceToNat, Nat.reduceMul, Nat.reduceAdd, Nat.reduceBEq, isLd]
  refine gLoop_intro (fun m T G' => ∃ k : Nat, T 0 = .slice A xs.length c ∧ T 1 = .slice B ys.length d ∧ T 5 = .int .i64 k ∧ m + k = xs.length ∧ k ≤ xs.length ∧ k ≤ ys.length ∧ G' = G ∧ ∀ i, i < k → xs.getD i 0 = ys.getD i 0) xs.length
    ⟨0, by simp (maxSteps := 300000) (disch := omega) only [gs, gs2, gs3, gs4, ↓reduceIte, Nat.reduceEqDiff, Int.reduceToNat, Nat.reduceMul, Nat.reduceAdd, Nat.reduceBEq, isLd], by simp (maxSteps := 300000) (disch := omega) only [gs, gs2, gs3, gs4, ↓reduceIte, Nat.reduceEqDiff, Int.reduceToNat, Nat.reduceMul, Nat.reduceAdd, Nat.reduceBEq, isLd], by simp (maxSteps := 300000) (disch := omega) only [gs, gs2, gs3, gs4, ↓reduceIte, Nat.reduceEqDiff, Int.reduceToNat, Nat.reduceMul, Nat.reduceAdd, Nat.reduceBEq, isLd] <;> rfl, by omega, by omega, by omega, rfl, fun i hi => by omega⟩ ?_
  rintro m T G' ⟨k, e0, e1, e5, hm, hkl, hky, rfl, hin⟩
  simp (maxSteps := 300000) (disch := omega) only [gs, gs2, gs3, gs4, ↓reduceIte, Nat.reduceEqDiff, Int.reduceToNat, Nat.reduceMul, Nat.reduceAdd, Nat.reduceBEq, isLd, e0, e1, e5]
  by_cases hkk : (k : Int) < xs.length
  · simp (maxSteps := 300000) (disch := omega) only [gs, gs2, gs3, gs4, ↓reduceIte, Nat.reduceEqDiff, Int.reduceToNat, Nat.reduceMul, Nat.reduceAdd, Nat.reduceBEq, isLd, e0, e1, e5, hkk]
    by_cases hy : (k : Int) < ys.length
    · simp (maxSteps := 300000) (disch := omega) only [gs, gs2, gs3, gs4, ↓reduceIte, Nat.reduceEqDiff, Int.reduceToNat, Nat.reduceMul, Nat.reduceAdd, Nat.reduceBEq, isLd, e0, e1, e5, hy, r, r']
      by_cases hc : xs.getD k 0 = ys.getD k 0
      · simp (maxSteps := 300000) (disch := omega) only [gs, gs2, gs3, gs4, ↓reduceIte, Nat.reduceEqDiff, Int.reduceToNat, Nat.reduceMul, Nat.reduceAdd, Nat.reduceBEq, isLd, eq_true hc, e0, e1, e5, r, r']
        refine ⟨m - 1, by omega, _, Sub.refl _, k + 1, rfl, by omega, by omega, by omega, rfl, fun i hi => ?_⟩
        by_cases hik : i = k
        · subst hik; exact hc
        · exact hin i (by omega)
      · simp (maxSteps := 300000) (disch := omega) only [gs, gs2, gs3, gs4, ↓reduceIte, Nat.reduceEqDiff, Int.reduceToNat, Nat.reduceMul, Nat.reduceAdd, Nat.reduceBEq, isLd, eq_false hc, e0, e1, e5, r, r']
        refine hk _ ?_
        rw [lexC_at (by omega) (by omega) hin (fun h => hc (cmp3_zero.1 h)), cmp3_neg, decide_eq_true_eq]
    · simp (maxSteps := 300000) (disch := omega) only [gs, gs2, gs3, gs4, ↓reduceIte, Nat.reduceEqDiff, Int.reduceToNat, Nat.reduceMul, Nat.reduceAdd, Nat.reduceBEq, isLd, e0, e1, e5, hy]
      refine hk _ ?_
      rw [lexC_long (by omega) fun i hi => hin i (by omega), decide_eq_true_eq]
      omega
  · simp (maxSteps := 300000) (disch := omega) only [gs, gs2, gs3, gs4, ↓reduceIte, Nat.reduceEqDiff, Int.reduceToNat, Nat.reduceMul, Nat.reduceAdd, Nat.reduceBEq, isLd, e0, e1, e5, hkk]
    refine hk _ ?_
    rw [lexC_end (by omega) fun i hi => hin i (by omega), decide_eq_true_eq]
    split <;> omega
/-- a valid table. -/
def TabOk (t : Tab) : Prop := Rise t.cols ∧ InB t.cols 0 7 ∧ t.rows.length ≤ 24 ∧ (∀ i, i < t.rows.length → (t.rows.getD i []).length = t.cols.length ∧ InB (t.rows.getD i []) 0 3) ∧ ∀ i, i + 1 < t.rows.length → lexC (t.rows.getD i []) (t.rows.getD (i + 1) []) < 0
theorem impl_ValidTable_ok {G : GH} {N : Tab} {A B : Option Addr} {c d : Nat} {hs : Nat → Option Addr × Nat} (h : IntS G A c N.cols) (h' : RowS G B d hs N.rows) (hl : N.cols.length < 2 ^ 40) (hl1 : Sh N.rows) {K : Value → GH → Prop}
    (hk : ∀ b : Bool, (b = true ↔ TabOk N) → K (.bool b) G) : GC Try.prog 46 [tabV N A c B d] G K := by
  refine GC_drop (c_impl_ValidTable_i (by simp) ?_)
  obtain ⟨hl2, hl3⟩ := hl1
  unfold tabV tabC
  simp (maxSteps := 300000) (disch := omega) only [gs, gs2, gs3, gs4, ↓reduceIte, Nat.reduceEqDiff, Int.reduceToNat, Nat.reduceMul, Nat.reduceAdd, Nat.reduceBEq, isLd]
  intro b1 hb1
  simp (maxSteps := 300000) (disch := omega) only [gs, gs2, gs3, gs4, ↓reduceIte, Nat.reduceEqDiff, Int.reduceToNat, Nat.reduceMul, Nat.reduceAdd, Nat.reduceBEq, isLd]
  have s1 := Sub.put hb1 ⟨[.slice A N.cols.length c, .slice B N.rows.length d], true⟩
  have f0 : rd (put G b1 ⟨[.slice A N.cols.length c, .slice B N.rows.length d], true⟩) (some ⟨b1, 0, none⟩) = some (.slice A N.cols.length c) := rd_box _ _ _ 0 _ rfl
  have f1 : rd (put G b1 ⟨[.slice A N.cols.length c, .slice B N.rows.length d], true⟩) (some ⟨b1, 1, none⟩) = some (.slice B N.rows.length d) := rd_box _ _ _ 1 _ rfl
  revert s1 f0 f1
  generalize put G b1 ⟨[.slice A N.cols.length c, .slice B N.rows.length d], true⟩ = G1
  intro s1 f0 f1
  have hc := h.sub s1
  have hr := h'.sub s1
  have hno : ¬ TabOk N → ∃ G'', Sub G'' G1 ∧ K (.bool false) G'' := fun hx => ⟨G, s1, hk false (by simp [hx])⟩
  refine impl_isRising_ok hc hl fun b hb => ?_
  cases b
  · simp (maxSteps := 300000) (disch := omega) only [gs, gs2, gs3, gs4, ↓reduceIte, Nat.reduceEqDiff, Int.reduceToNat, Nat.reduceMul, Nat.reduceAdd, Nat.reduceBEq, isLd, f0, f1]
    exact hno fun hx => by simpa using hb.2 hx.1
  have hb := hb.1 rfl
  simp (maxSteps := 300000) (disch := omega) only [gs, gs2, gs3, gs4, ↓reduceIte, Nat.reduceEqDiff, Int.reduceToNat, Nat.reduceMul, Nat.reduceAdd, Nat.reduceBEq, isLd, f0, f1]
  refine impl_areElements_ok hc hl fun b0 hb0 => ?_
  rw [show IntKind.i64.wrap (8 - 1) = 7 by decide] at hb0
  cases b0
  · simp (maxSteps := 300000) (disch := omega) only [gs, gs2, gs3, gs4, ↓reduceIte, Nat.reduceEqDiff, Int.reduceToNat, Nat.reduceMul, Nat.reduceAdd, Nat.reduceBEq, isLd, f0, f1]
    exact hno fun hx => by simpa using hb0.2 hx.2.1
  have hb0 := hb0.1 rfl
  simp (maxSteps := 300000) (disch := omega) only [gs, gs2, gs3, gs4, ↓reduceIte, Nat.reduceEqDiff, Int.reduceToNat, Nat.reduceMul, Nat.reduceAdd, Nat.reduceBEq, isLd, f0, f1]
  by_cases h24 : (24 : Int) < N.rows.length
  · simp (maxSteps := 300000) (disch := omega) only [gs, gs2, gs3, gs4, ↓reduceIte, Nat.reduceEqDiff, Int.reduceToNat, Nat.reduceMul, Nat.reduceAdd, Nat.reduceBEq, isLd, h24, f0, f1]
    exact hno fun hx => by have := hx.2.2.1; omega
  simp (maxSteps := 300000) (disch := omega) only [gs, gs2, gs3, gs4, ↓reduceIte, Nat.reduceEqDiff, Int.reduceToNat, Nat.reduceMul, Nat.reduceAdd, Nat.reduceBEq, isLd, h24, f0, f1]
  refine gLoop_intro (fun m T G' => ∃ k : Nat, T 1 = .pointer (some ⟨b1, 0, none⟩) ∧ T 22 = .slice B N.rows.length d ∧ T 23 = .int .i64 N.rows.length ∧ T 24 = .int .i64 k ∧ m + k = N.rows.length ∧ k ≤ N.rows.length ∧ G' = G1 ∧
    (∀ i, i < k → (N.rows.getD i []).length = N.cols.length ∧ InB (N.rows.getD i []) 0 3) ∧ ∀ i, i + 1 < k → lexC (N.rows.getD i []) (N.rows.getD (i + 1) []) < 0) N.rows.length
    ⟨0, by simp (maxSteps := 300000) (disch := omega) only [gs, gs2, gs3, gs4, ↓reduceIte, Nat.reduceEqDiff, Int.reduceToNat, Nat.reduceMul, Nat.reduceAdd, Nat.reduceBEq, isLd], by simp (maxSteps := 300000) (disch := omega) only [gs, gs2, gs3, gs4, ↓reduceIte, Nat.reduceEqDiff, Int.reduceToNat, Nat.reduceMul, Nat.reduceAdd, Nat.reduceBEq, isLd], by simp (maxSteps := 300000) (disch := omega) only [gs, gs2, gs3, gs4, ↓reduceIte, Nat.reduceEqDiff, Int.reduceToNat, Nat.reduceMul, Nat.reduceAdd, Nat.reduceBEq, isLd], by simp (maxSteps := 300000) (disch := omega) only [gs, gs2, gs3, gs4, ↓reduceIte, Nat.reduceEqDiff, Int.reduceToNat, Nat.reduceMul, Nat.reduceAdd, Nat.reduceBEq, isLd] <;> rfl, by omega, by omega, rfl, fun i hi => by omega, fun i hi => by omega⟩ ?_
  rintro m T G' ⟨k, e1, e22, e23, e24, hm, hkl, rfl, hin, hlt⟩
  have hsn := hr.sn
  have r := hr.r
  simp (maxSteps := 300000) (disch := omega) only [gs, gs2, gs3, gs4, ↓reduceIte, Nat.reduceEqDiff, Int.reduceToNat, Nat.reduceMul, Nat.reduceAdd, Nat.reduceBEq, isLd, e1, e22, e23, e24]
  by_cases hkk : (k : Int) < N.rows.length
  · simp (maxSteps := 300000) (disch := omega) only [gs, gs2, gs3, gs4, ↓reduceIte, Nat.reduceEqDiff, Int.reduceToNat, Nat.reduceMul, Nat.reduceAdd, Nat.reduceBEq, isLd, e1, e22, e23, e24, hkk, r, f0]
    by_cases hlen : ((N.rows.getD k []).length : Int) = N.cols.length
    · simp (maxSteps := 300000) (disch := omega) only [gs, gs2, gs3, gs4, ↓reduceIte, Nat.reduceEqDiff, Int.reduceToNat, Nat.reduceMul, Nat.reduceAdd, Nat.reduceBEq, isLd, eq_true hlen, e1, e22, e23, e24]
      refine impl_areElements_ok (hr.row k (by omega)) (hl3 k (by omega)) fun b2 hb2 => ?_
      rw [show IntKind.i64.wrap (4 - 1) = 3 by decide] at hb2
      cases b2
      · simp (maxSteps := 300000) (disch := omega) only [gs, gs2, gs3, gs4, ↓reduceIte, Nat.reduceEqDiff, Int.reduceToNat, Nat.reduceMul, Nat.reduceAdd, Nat.reduceBEq, isLd, e1, e22, e23, e24]
        exact hno fun hx => by simpa using hb2.2 (hx.2.2.2.1 k (by omega)).2
      · have hb2 := hb2.1 rfl
        have hin' : ∀ i, i < k + 1 → (N.rows.getD i []).length = N.cols.length ∧ InB (N.rows.getD i []) 0 3 := fun i hi => by
          by_cases hik : i = k
          · subst hik; exact ⟨by omega, hb2⟩
          · exact hin i (by omega)
        simp (maxSteps := 300000) (disch := omega) only [gs, gs2, gs3, gs4, ↓reduceIte, Nat.reduceEqDiff, Int.reduceToNat, Nat.reduceMul, Nat.reduceAdd, Nat.reduceBEq, isLd, e1, e22, e23, e24]
        by_cases hk0 : (0 : Int) < k
        · simp (maxSteps := 300000) (disch := omega) only [gs, gs2, gs3, gs4, ↓reduceIte, Nat.reduceEqDiff, Int.reduceToNat, Nat.reduceMul, Nat.reduceAdd, Nat.reduceBEq, isLd, hk0, e1, e22, e23, e24, f1, r]
          refine slices_Compare_ok (hr.row _ (by omega)) (hr.row k (by omega)) (hl3 _ (by omega)) (hl3 k (by omega)) ?_
          simp (maxSteps := 300000) (disch := omega) only [gs, gs2, gs3, gs4, ↓reduceIte, Nat.reduceEqDiff, Int.reduceToNat, Nat.reduceMul, Nat.reduceAdd, Nat.reduceBEq, isLd, e1, e22, e23, e24, f1, r]
          by_cases hx : 0 ≤ lexC (N.rows.getD ((k : Int) - 1).toNat []) (N.rows.getD k [])
          · simp (maxSteps := 300000) (disch := omega) only [gs, gs2, gs3, gs4, ↓reduceIte, Nat.reduceEqDiff, Int.reduceToNat, Nat.reduceMul, Nat.reduceAdd, Nat.reduceBEq, isLd, hx, e1, e22, e23, e24]
            exact hno fun hy => by
              have := hy.2.2.2.2 (k - 1) (by omega)
              rw [show k - 1 + 1 = k by omega, show k - 1 = ((k : Int) - 1).toNat by omega] at this
              omega
          · simp (maxSteps := 300000) (disch := omega) only [gs, gs2, gs3, gs4, ↓reduceIte, Nat.reduceEqDiff, Int.reduceToNat, Nat.reduceMul, Nat.reduceAdd, Nat.reduceBEq, isLd, hx, e1, e22, e23, e24]
            refine ⟨m - 1, by omega, _, Sub.refl _, k + 1, rfl, by omega, by omega, rfl, hin', fun i hi => ?_⟩
            by_cases hik : i + 1 = k
            · rw [hik, show i = ((k : Int) - 1).toNat by omega]; omega
            · exact hlt i (by omega)
        · simp (maxSteps := 300000) (disch := omega) only [gs, gs2, gs3, gs4, ↓reduceIte, Nat.reduceEqDiff, Int.reduceToNat, Nat.reduceMul, Nat.reduceAdd, Nat.reduceBEq, isLd, hk0, e1, e22, e23, e24]
          exact ⟨m - 1, by omega, _, Sub.refl _, k + 1, rfl, by omega, by omega, rfl, hin', fun i hi => by omega⟩
    · simp (maxSteps := 300000) (disch := omega) only [gs, gs2, gs3, gs4, ↓reduceIte, Nat.reduceEqDiff, Int.reduceToNat, Nat.reduceMul, Nat.reduceAdd, Nat.reduceBEq, isLd, eq_false hlen, e1, e22, e23, e24]
      exact hno fun hx => hlen (by have := (hx.2.2.2.1 k (by omega)).1; omega)
  · simp (maxSteps := 300000) (disch := omega) only [gs, gs2, gs3, gs4, ↓reduceIte, Nat.reduceEqDiff, Int.reduceToNat, Nat.reduceMul, Nat.reduceAdd, Nat.reduceBEq, isLd, e1, e22, e23, e24, hkk]
    exact ⟨G, s1, hk true (by simp; exact ⟨hb, hb0, by omega, fun i hi => hin i (by omega), fun i hi => hlt i (by omega)⟩)⟩
theorem lexC_cons_neg {x y : Int} {xs ys : List Int} : lexC (x :: xs) (y :: ys) < 0 ↔ x < y ∨ (x = y ∧ lexC xs ys < 0) := by
  rw [lexC]
  split
  · next h => have := cmp3_zero.1 h; constructor
              · intro k; exact .inr ⟨this, k⟩
              · rintro (k | k)
                · omega
                · exact k.2
  · next h => rw [cmp3_neg]; constructor
              · intro k; exact .inl k
              · rintro (k | k)
                · exact k
                · exact absurd (cmp3_zero.2 k.1) h
theorem lexC_cons_zero {x y : Int} {xs ys : List Int} : lexC (x :: xs) (y :: ys) = 0 ↔ x = y ∧ lexC xs ys = 0 := by
  rw [lexC]
  split
  · next h => have := cmp3_zero.1 h; exact ⟨fun k => ⟨this, k⟩, fun k => k.2⟩
  · next h => exact ⟨fun k => absurd k h, fun k => absurd (cmp3_zero.2 k.1) h⟩
theorem lexC_zero : ∀ {xs ys : List Int}, lexC xs ys = 0 ↔ xs = ys
  | [], [] => by simp [lexC]
  | [], y :: ys => by simp [lexC]
  | x :: xs, [] => by simp [lexC]
  | x :: xs, y :: ys => by rw [lexC_cons_zero, lexC_zero]; simp
theorem lexC_self (xs : List Int) : lexC xs xs = 0 := lexC_zero.2 rfl
theorem lexC_tri : ∀ (xs ys : List Int), lexC xs ys < 0 ∨ xs = ys ∨ lexC ys xs < 0
  | [], [] => .inr (.inl rfl)
  | [], y :: ys => .inl (by rw [lexC]; decide)
  | x :: xs, [] => .inr (.inr (by rw [lexC]; decide))
  | x :: xs, y :: ys => by
    rw [lexC_cons_neg, lexC_cons_neg]
    rcases lexC_tri xs ys with h | h | h
    · rcases Int.lt_trichotomy x y with k | k | k
      · exact .inl (.inl k)
      · exact .inl (.inr ⟨k, h⟩)
      · exact .inr (.inr (.inl k))
    · rcases Int.lt_trichotomy x y with k | k | k
      · exact .inl (.inl k)
      · exact .inr (.inl (by rw [k, h]))
      · exact .inr (.inr (.inl k))
    · rcases Int.lt_trichotomy x y with k | k | k
      · exact .inl (.inl k)
      · exact .inr (.inr (.inr ⟨k.symm, h⟩))
      · exact .inr (.inr (.inl k))
theorem lexC_trans : ∀ {xs ys zs : List Int}, lexC xs ys < 0 → lexC ys zs < 0 → lexC xs zs < 0
  | [], [], _, h, _ => by simp [lexC] at h
  | [], _ :: _, [], _, h => by simp [lexC] at h
  | [], _ :: _, _ :: _, _, _ => by rw [lexC]; decide
  | _ :: _, [], _, h, _ => by simp [lexC] at h
  | _ :: _, _ :: _, [], _, h => by simp [lexC] at h
  | x :: xs, y :: ys, z :: zs, h, k => by
    rw [lexC_cons_neg] at h k ⊢
    rcases h with h | ⟨h, h'⟩
    · rcases k with k | ⟨k, k'⟩
      · exact .inl (by omega)
      · exact .inl (by omega)
    · rcases k with k | ⟨k, k'⟩
      · exact .inl (by omega)
      · exact .inr ⟨by omega, lexC_trans h' k'⟩
theorem lexC_asym {xs ys : List Int} (h : lexC xs ys < 0) (k : lexC ys xs < 0) : False := by
  have := lexC_trans h k; rw [lexC_self] at this; omega
/-- rows that rise. -/
def Asc (xss : List (List Int)) : Prop := xss.Pairwise fun a b => lexC a b < 0
theorem asc_unique : ∀ {a b : List (List Int)}, Asc a → Asc b → (∀ x, x ∈ a ↔ x ∈ b) → a = b
  | [], [], _, _, _ => rfl
  | [], y :: ys, _, _, h => by have := (h y).2 (by simp); simp at this
  | x :: xs, [], _, _, h => by have := (h x).1 (by simp); simp at this
  | x :: xs, y :: ys, ha, hb, h => by
    have ha' := List.pairwise_cons.1 ha
    have hb' := List.pairwise_cons.1 hb
    have e : x = y := by
      have h1 := (h x).1 (by simp)
      have h2 := (h y).2 (by simp)
      rcases List.mem_cons.1 h1 with e | e
      · exact e
      · rcases List.mem_cons.1 h2 with e' | e'
        · exact e'.symm
        · exact (lexC_asym (hb'.1 x e) (ha'.1 y e')).elim
    subst e
    congr 1
    refine asc_unique ha'.2 hb'.2 fun z => ?_
    constructor
    · intro hz
      rcases List.mem_cons.1 ((h z).1 (by simp [hz])) with e | e
      · have := ha'.1 z hz; rw [e, lexC_self] at this; omega
      · exact e
    · intro hz
      rcases List.mem_cons.1 ((h z).2 (by simp [hz])) with e | e
      · have := hb'.1 z hz; rw [e, lexC_self] at this; omega
      · exact e
/-- a row put into rising rows. -/
def ins (x : List Int) : List (List Int) → List (List Int)
  | [] => [x]
  | y :: ys => if lexC x y = 0 then y :: ys else if lexC x y < 0 then x :: y :: ys else y :: ins x ys
theorem mem_ins {x z : List Int} : ∀ {xss : List (List Int)}, z ∈ ins x xss ↔ z = x ∨ z ∈ xss
  | [] => by simp [ins]
  | y :: ys => by
    unfold ins
    split
    · next h => have := lexC_zero.1 h; subst this; simp
    · split
      · simp
      · rw [List.mem_cons, mem_ins]; simp only [List.mem_cons]; constructor
        · rintro (h | h | h)
          · exact .inr (.inl h)
          · exact .inl h
          · exact .inr (.inr h)
        · rintro (h | h | h)
          · exact .inr (.inl h)
          · exact .inl h
          · exact .inr (.inr h)
theorem asc_ins {x : List Int} : ∀ {xss : List (List Int)}, Asc xss → Asc (ins x xss)
  | [], _ => by simp [ins, Asc]
  | y :: ys, h => by
    have h' := List.pairwise_cons.1 h
    unfold ins
    split
    · exact h
    · split
      · next k => exact List.pairwise_cons.2 ⟨fun z hz => by
          rcases List.mem_cons.1 hz with e | e
          · rw [e]; exact k
          · exact lexC_trans k (h'.1 z e), h⟩
      · next k0 k => refine List.pairwise_cons.2 ⟨fun z hz => ?_, asc_ins h'.2⟩
                     rcases mem_ins.1 hz with e | e
                     · subst e; rcases lexC_tri z y with q | q | q
                       · exact absurd q k
                       · exact absurd (lexC_zero.2 q) k0
                       · exact q
                     · exact h'.1 z e
/-- rows in their order, each once. -/
def srt (xss : List (List Int)) : List (List Int) := xss.foldl (fun a x => ins x a) []
theorem srt_fold : ∀ (xss a : List (List Int)), Asc a → Asc (xss.foldl (fun a x => ins x a) a) ∧ ∀ z, z ∈ xss.foldl (fun a x => ins x a) a ↔ z ∈ a ∨ z ∈ xss
  | [], a, h => ⟨h, fun z => by simp⟩
  | x :: xs, a, h => by
    have := srt_fold xs (ins x a) (asc_ins h)
    refine ⟨this.1, fun z => ?_⟩
    rw [List.foldl_cons, this.2, mem_ins, List.mem_cons]; constructor
    · rintro ((h | h) | h)
      · exact .inr (.inl h)
      · exact .inl h
      · exact .inr (.inr h)
    · rintro (h | h | h)
      · exact .inl (.inr h)
      · exact .inl (.inl h)
      · exact .inr h
theorem srt_asc (xss : List (List Int)) : Asc (srt xss) := (srt_fold xss [] List.Pairwise.nil).1
theorem srt_mem {xss : List (List Int)} {z : List Int} : z ∈ srt xss ↔ z ∈ xss := by rw [srt, (srt_fold xss [] List.Pairwise.nil).2]; simp
theorem srt_eq {xss yss : List (List Int)} (h : Asc yss) (m : ∀ z, z ∈ yss ↔ z ∈ xss) : yss = srt xss := asc_unique h (srt_asc xss) fun z => (m z).trans srt_mem.symm
theorem srt_snoc (xss : List (List Int)) (x : List Int) : srt (xss ++ [x]) = ins x (srt xss) := by simp [srt, List.foldl_append]
theorem ins_len (x : List Int) : ∀ xss : List (List Int), (ins x xss).length ≤ xss.length + 1
  | [] => by simp [ins]
  | y :: ys => by
    unfold ins
    split
    · simp
    · split
      · simp
      · have := ins_len x ys; simp; omega
theorem srt_len (xss : List (List Int)) : (srt xss).length ≤ xss.length := by
  have : ∀ (ys a : List (List Int)), (ys.foldl (fun a x => ins x a) a).length ≤ a.length + ys.length := by
    intro ys
    induction ys with
    | nil => intro a; simp
    | cons y ys ih => intro a; have := ih (ins y a); have := ins_len y a; simp; omega
  simpa [srt] using this xss []
/-- the cell of a row in a column. -/
def cellAt (cols row : List Int) (c : Int) : Int := row.getD (cols.idxOf c) 0
/-- two rows have the same cells in all columns that both tables have. -/
def FitP (a b x y : List Int) : Prop := ∀ c, c ∈ a → c ∈ b → cellAt a x c = cellAt b y c
def wo' (xs ys : List Int) : List Int := xs.filter fun c => decide (¬ c ∈ ys)
def comm (a b : List Int) : List Int := a.filter fun c => decide (c ∈ b)
theorem wo_wo (a b : List Int) : wo' a (wo' a b) = comm a b := by
  unfold comm
  show List.filter _ a = _
  refine List.filter_congr fun c hc => ?_
  have : (¬ c ∈ wo' a b) = (c ∈ b) := propext ⟨fun h => Classical.byContradiction fun hn => h (by unfold wo'; simp [hc, hn]), fun h hm => by unfold wo' at hm; simp [h] at hm⟩
  simp only [this]
theorem fit_map {a b x y : List Int} : (comm a b).map (cellAt a x) = (comm a b).map (cellAt b y) ↔ FitP a b x y := by
  unfold FitP comm
  constructor
  · intro h c h1 h2
    exact List.map_inj_left.1 h c (by simp [h1, h2])
  · intro h
    exact List.map_congr_left fun c hc => by
      simp at hc; exact h c hc.1 hc.2
open Classical in
noncomputable def semiR (a b : Tab) : List (List Int) := a.rows.filter fun x => decide (∃ y ∈ b.rows, FitP a.cols b.cols x y)
noncomputable def semiT (a b : Tab) : Tab := ⟨a.cols, semiR a b⟩
theorem laws_heldInt64S_ok {G : GH} {A : Option Addr} {c n : Nat} {k : Int} (h : IntS G A c (marks k n)) (hn : n ≤ 2 ^ 40) (hk0 : 0 ≤ k ∧ k ≤ 2 ^ 40) {K : Value → GH → Prop}
    (hk : K (.int .i64 (k + n)) G) : GC Try.prog 39 [.slice A n c, .int .i64 k] G K := by
  refine c_laws_heldInt64S_i (by simp) ?_
  have hsn := h.sn
  have r : ∀ i, i < n → rd G (pa A i) = some (.int .i64 (k + i)) := fun i hi => by rw [h.rd i (by rw [marks_len]; exact hi), marks_get _ _ _ hi]
  rw [marks_len] at hsn
  simp (maxSteps := 300000) (disch := omega) only [gs, gs2, gs3, gs4, ↓reduceIte, Nat.reduceEqDiff, Int.reduceToNat, Nat.reduceMul, Nat.reduceAdd, Nat.reduceBEq, isLd]
  refine gLoop_intro (fun m T G' => ∃ j : Nat, T 0 = .slice A n c ∧ T 1 = .int .i64 (k + j) ∧ T 5 = .int .i64 j ∧ m + j = n ∧ j ≤ n ∧ G' = G) n
    ⟨0, by simp (maxSteps := 300000) (disch := omega) only [gs, gs2, gs3, gs4, ↓reduceIte, Nat.reduceEqDiff, Int.reduceToNat, Nat.reduceMul, Nat.reduceAdd, Nat.reduceBEq, isLd], by simp (maxSteps := 300000) (disch := omega) only [gs, gs2, gs3, gs4, ↓reduceIte, Nat.reduceEqDiff, Int.reduceToNat, Nat.reduceMul, Nat.reduceAdd, Nat.reduceBEq, isLd] <;> simp, by simp (maxSteps := 300000) (disch := omega) only [gs, gs2, gs3, gs4, ↓reduceIte, Nat.reduceEqDiff, Int.reduceToNat, Nat.reduceMul, Nat.reduceAdd, Nat.reduceBEq, isLd] <;> rfl, by omega, by omega, rfl⟩ ?_
  rintro m T G' ⟨j, e0, e1, e5, hm, hjn, rfl⟩
  simp (maxSteps := 300000) (disch := omega) only [gs, gs2, gs3, gs4, ↓reduceIte, Nat.reduceEqDiff, Int.reduceToNat, Nat.reduceMul, Nat.reduceAdd, Nat.reduceBEq, isLd, e0, e1, e5]
  by_cases hj : (j : Int) < n
  · simp (maxSteps := 300000) (disch := omega) only [gs, gs2, gs3, gs4, ↓reduceIte, Nat.reduceEqDiff, Int.reduceToNat, Nat.reduceMul, Nat.reduceAdd, Nat.reduceBEq, isLd, e0, e1, e5, hj, r, eq_self]
    exact ⟨m - 1, by omega, _, Sub.refl _, j + 1, by congr 1; omega, rfl, by omega, by omega, rfl⟩
  · simp (maxSteps := 300000) (disch := omega) only [gs, gs2, gs3, gs4, ↓reduceIte, Nat.reduceEqDiff, Int.reduceToNat, Nat.reduceMul, Nat.reduceAdd, Nat.reduceBEq, isLd, e0, e1, e5, hj]
    obtain rfl : j = n := by omega
    exact hk
theorem laws_markInt64S_ok {G : GH} {A : Option Addr} {c n : Nat} {k : Int} {cs : List Value} (h : Own G A c cs 1 n) (hn : n ≤ 2 ^ 40) (hk0 : 0 ≤ k ∧ k ≤ 2 ^ 40) {K : Value → GH → Prop}
    (hk : ∀ G', Upd G G' A → Own G' A c ((marks k n).map I64) 1 n → K (.int .i64 (k + n)) G') : GC Try.prog 25 [.slice A n c, .int .i64 k] G K := by
  refine c_laws_markInt64S_i (by simp) ?_
  simp (maxSteps := 300000) (disch := omega) only [gs, gs2, gs3, gs4, ↓reduceIte, Nat.reduceEqDiff, Int.reduceToNat, Nat.reduceMul, Nat.reduceAdd, Nat.reduceBEq, isLd]
  rcases h with ⟨rfl, rfl, rfl, rfl⟩ | ⟨b, rs, rfl, hb, hl, hc, hnc⟩
  · refine gLoop_intro (fun m T G' => T 0 = .slice none 0 0 ∧ T 1 = .int .i64 k ∧ T 5 = .int .i64 0 ∧ G' = G) 0 ⟨by simp (maxSteps := 300000) (disch := omega) only [gs, gs2, gs3, gs4, ↓reduceIte, Nat.reduceEqDiff, Int.reduceToNat, Nat.reduceMul, Nat.reduceAdd, Nat.reduceBEq, isLd], by simp (maxSteps := 300000) (disch := omega) only [gs, gs2, gs3, gs4, ↓reduceIte, Nat.reduceEqDiff, Int.reduceToNat, Nat.reduceMul, Nat.reduceAdd, Nat.reduceBEq, isLd], by simp (maxSteps := 300000) (disch := omega) only [gs, gs2, gs3, gs4, ↓reduceIte, Nat.reduceEqDiff, Int.reduceToNat, Nat.reduceMul, Nat.reduceAdd, Nat.reduceBEq, isLd], rfl⟩ ?_
    rintro m T G' ⟨e0, e1, e5, rfl⟩
    simp (maxSteps := 300000) (disch := omega) only [gs, gs2, gs3, gs4, ↓reduceIte, Nat.reduceEqDiff, Int.reduceToNat, Nat.reduceMul, Nat.reduceAdd, Nat.reduceBEq, isLd, e0, e1, e5, Int.natCast_zero, Int.lt_irrefl]
    have := hk G' (.inl rfl) (.inl ⟨rfl, rfl, rfl, rfl⟩)
    simpa using this
  · refine gLoop_intro (fun m T G' => ∃ j : Nat, T 0 = .slice (some ⟨b, 0, none⟩) n c ∧ T 1 = .int .i64 (k + j) ∧ T 5 = .int .i64 j ∧ m + j = n ∧ j ≤ n ∧ G' = put G b ⟨(marks k j).map I64 ++ (cs.drop j ++ rs), true⟩) n
      ⟨0, by simp (maxSteps := 300000) (disch := omega) only [gs, gs2, gs3, gs4, ↓reduceIte, Nat.reduceEqDiff, Int.reduceToNat, Nat.reduceMul, Nat.reduceAdd, Nat.reduceBEq, isLd], by simp (maxSteps := 300000) (disch := omega) only [gs, gs2, gs3, gs4, ↓reduceIte, Nat.reduceEqDiff, Int.reduceToNat, Nat.reduceMul, Nat.reduceAdd, Nat.reduceBEq, isLd] <;> simp, by simp (maxSteps := 300000) (disch := omega) only [gs, gs2, gs3, gs4, ↓reduceIte, Nat.reduceEqDiff, Int.reduceToNat, Nat.reduceMul, Nat.reduceAdd, Nat.reduceBEq, isLd] <;> rfl, by omega, by omega, by simp [marks, put_self hb]⟩ ?_
    rintro m T G' ⟨j, e0, e1, e5, hm, hjn, rfl⟩
    simp (maxSteps := 300000) (disch := omega) only [gs, gs2, gs3, gs4, ↓reduceIte, Nat.reduceEqDiff, Int.reduceToNat, Nat.reduceMul, Nat.reduceAdd, Nat.reduceBEq, isLd, e0, e1, e5]
    by_cases hj : (j : Int) < n
    · simp (maxSteps := 300000) (disch := omega) only [gs, gs2, gs3, gs4, ↓reduceIte, Nat.reduceEqDiff, Int.reduceToNat, Nat.reduceMul, Nat.reduceAdd, Nat.reduceBEq, isLd, e0, e1, e5, hj]
      refine st_one (put_same _ _ _) (by simp [marks]; simp at hc; omega) rfl ?_
      simp (maxSteps := 300000) (disch := omega) only [gs, gs2, gs3, gs4, ↓reduceIte, Nat.reduceEqDiff, Int.reduceToNat, Nat.reduceMul, Nat.reduceAdd, Nat.reduceBEq, isLd, e0, e1, e5, put_put']
      refine ⟨m - 1, by omega, _, Sub.refl _, j + 1, by congr 1; omega, rfl, by omega, by omega, ?_⟩
      congr 2
      have hd : cs.drop j = cs[j]'(by omega) :: cs.drop (j + 1) := List.drop_eq_getElem_cons (by omega)
      rw [List.set_append_right _ _ (by simp [marks])]
      simp [marks, List.range_succ, I64]
      rw [hd, List.cons_append, List.set_cons_zero]
    · simp (maxSteps := 300000) (disch := omega) only [gs, gs2, gs3, gs4, ↓reduceIte, Nat.reduceEqDiff, Int.reduceToNat, Nat.reduceMul, Nat.reduceAdd, Nat.reduceBEq, isLd, e0, e1, e5, hj]
      obtain rfl : j = n := by omega
      refine hk _ (.inr ⟨b, _, rfl, by rw [hb]; simp, rfl⟩) (.inr ⟨b, cs.drop j ++ rs, rfl, put_same _ _ _, by simp [marks], ?_, hnc⟩)
      rw [List.drop_eq_nil_of_le (by omega), List.nil_append]
      simp [marks] at hc ⊢; omega
theorem own_ne {G : GH} {A : Option Addr} {c sz n : Nat} {cs : List Value} (h : Own G A c cs sz n) : ∀ a, A = some a → G a.block ≠ none := fun a ha => by
  rcases h with ⟨h, _⟩ | ⟨b, r, h1, h2, _⟩
  · rw [h] at ha; cases ha
  · rw [h1] at ha; cases ha; rw [h2]; simp
theorem Own.mk {G : GH} {A : Option Addr} {c n : Nat} {k : Int} (h : Own G A c ((marks k n).map I64) 1 n) : IntS G A c (marks k n) := ⟨by rw [marks_len]; exact h.cap, cells_int' h.cells⟩
theorem Own.len {G : GH} {A : Option Addr} {c sz n : Nat} {cs : List Value} (h : Own G A c cs sz n) : cs.length = n * sz := by
  rcases h with ⟨_, _, rfl, rfl⟩ | ⟨b, r, _, _, h, _⟩
  · simp
  · exact h
theorem ap_own {G : GH} {A B : Option Addr} {c n m d sz bytes : Nat} {z cs news : List Value} {K : Value → GH → Prop} (h : Own G A c cs sz n) (hnews : Cells G B news) (hm : news.length = m * sz) (h1 : ∀ v ∈ news, oneB v = true)
    (hz : z.length = sz) (hsz : 0 < sz) (hb : bytes ≤ 4096) (hlen : n + m < 2 ^ 33) (hk : ∀ G' A' c', Own G' A' c' (cs ++ news) sz (n + m) → (∀ H, Sub H G → Off H A → Sub H G' ∧ Off H A') → K (.slice A' (n + m) c') G') :
    gAp sz bytes z (.slice A n c) (.slice B m d) G K := by
  refine ⟨A, n, c, B, m, d, cs, news, rfl, rfl, h.len, fun j v hj => h.cells j v hj, hm, hnews, h1, ?_, by omega, fun hle => ?_, fun hlt b c' hb hc => ?_⟩
  · have : 2 * (n + m) * bytes ≤ 2 * 2 ^ 33 * 4096 := Nat.mul_le_mul (by omega) hb
    omega
  · rcases h with ⟨rfl, rfl, rfl, rfl⟩ | ⟨b, rest, rfl, hb, hcs, hrest, hnc⟩
    · obtain rfl : m = 0 := by omega
      have hn : news = [] := by simpa using hm
      subst hn
      exact .inl ⟨rfl, G, Sub.refl _, hk G none 0 (.inl ⟨rfl, rfl, rfl, rfl⟩) fun H s o => ⟨s, o⟩⟩
    · have hfit : (n + m) * sz ≤ c * sz := Nat.mul_le_mul_right _ hle
      rw [List.length_append] at hrest
      have hfit' := hfit
      rw [Nat.add_mul] at hfit'
      have ho : over (cs ++ rest) (0 + n * sz) news = cs ++ news ++ rest.drop news.length := by
        have := over_app news cs rest
        rw [if_pos (by omega)] at this
        rw [Nat.zero_add, ← hcs]; exact this
      refine .inr ⟨b, 0, cs ++ rest, rfl, hb, by rw [List.length_append]; omega, _, Sub.refl _, hk _ _ _ (.inr ⟨b, rest.drop news.length, rfl, by rw [put_same, ho], by simp [hcs, hm, Nat.add_mul], ?_, hle⟩) fun H s o => ⟨s.skip (o _ rfl), o⟩⟩
      simp only [List.length_append, List.length_drop]
      omega
  · have hcs := h.len
    refine ⟨_, Sub.refl _, hk _ _ _ (.inr ⟨b, zc z (c' - (n + m)), rfl, put_same _ _ _, by simp [hcs, hm, Nat.add_mul], ?_, hc⟩) fun H s o => ⟨s.skip (s.none hb), fun a ha => by cases ha; exact s.none hb⟩⟩
    have e1 : (zc z (c' - (n + m))).length = (c' - (n + m)) * sz := by simp [zc, hz]
    rw [List.length_append, e1, List.length_append, hcs, hm, ← Nat.add_mul, ← Nat.add_mul]
    congr 1; omega
theorem New.low {G H G' : GH} {A : Option Addr} {c sz n : Nat} {cs : List Value} (h : New G G' A c cs sz n) (s : Sub H G) : ∃ G'', Sub G'' G' ∧ New H G'' A c cs sz n := by
  rcases h with ⟨h1, h2, h3, h4, rfl⟩ | ⟨b, r, h1, h2, rfl, h3⟩
  · exact ⟨H, s, .inl ⟨h1, h2, h3, h4, rfl⟩⟩
  · exact ⟨put H b ⟨cs ++ r, true⟩, Sub.both s, .inr ⟨b, r, h1, s.none h2, rfl, h3⟩⟩
theorem Own.new {G H : GH} {A : Option Addr} {c sz n : Nat} {cs : List Value} (h : Own G A c cs sz n) (s : Sub H G) (o : Off H A) : ∃ G'', Sub G'' G ∧ New H G'' A c cs sz n := by
  rcases h with ⟨h1, h2, h3, h4⟩ | ⟨b, r, h1, h2, h3⟩
  · exact ⟨H, s, .inl ⟨h1, h2, h3, h4, rfl⟩⟩
  · exact ⟨put H b ⟨cs ++ r, true⟩, Sub.of_put s h2, .inr ⟨b, r, h1, o _ h1, rfl, h3⟩⟩
theorem Own.blk {G : GH} {b : Nat} {cs : List Value} {sz n : Nat} (h : G b = some ⟨cs, true⟩) (hl : cs.length = n * sz) : Own G (some ⟨b, 0, none⟩) n cs sz n :=
  .inr ⟨b, [], rfl, by simpa using h, hl, by simpa using hl, Nat.le_refl _⟩
theorem New.fresh {G G' : GH} {A : Option Addr} {c sz n : Nat} {cs : List Value} (h : New G G' A c cs sz n) : Own G' A c cs sz n := h.own.sub (Sub.rest _ _)
theorem Own.ints' {G : GH} {A : Option Addr} {c n : Nat} {xs : List Int} (h : Own G A c (xs.map I64) 1 n) (hn : n = xs.length) : IntS G A c xs := by subst hn; exact h.ints
theorem Off.nil (H : GH) : Off H none := fun a ha => by cases ha
theorem Own.cast {G : GH} {A : Option Addr} {c sz n : Nat} {cs cs' : List Value} (h : Own G A c cs sz n) (e : cs = cs') {n' : Nat} (en : n = n') : Own G A c cs' sz n' := e ▸ en ▸ h
theorem Own.nil (G : GH) (sz : Nat) : Own G none 0 [] sz 0 := .inl ⟨rfl, rfl, rfl, rfl⟩
theorem New.sn {G G' : GH} {A : Option Addr} {c sz n : Nat} {cs : List Value} (h : New G G' A c cs sz n) (hn : 0 < n) : 0 < Gh.sn A := by
  rcases h with ⟨_, _, h0, _, _⟩ | ⟨b, r, rfl, _⟩
  · omega
  · simp [Gh.sn]
/-- a list of lists, each in a block of its own. -/
structure OwnR (G : GH) (B : Option Addr) (d : Nat) (hs : Nat → Option Addr × Nat) (xss : List (List Int)) : Prop where
  out : Own G B d ((List.range xss.length).map fun i => Value.slice (hs i).1 (xss.getD i []).length (hs i).2) 1 xss.length
  row : ∀ i, i < xss.length → Own G (hs i).1 (hs i).2 ((xss.getD i []).map I64) 1 (xss.getD i []).length
  ne : ∀ i, i < xss.length → ∀ a b, (hs i).1 = some a → B = some b → a.block ≠ b.block
  inj : ∀ i j, i < xss.length → j < xss.length → i ≠ j → ∀ a b, (hs i).1 = some a → (hs j).1 = some b → a.block ≠ b.block
theorem OwnR.sub {G G' : GH} {B : Option Addr} {d : Nat} {hs : Nat → Option Addr × Nat} {xss : List (List Int)} (h : OwnR G B d hs xss) (s : Sub G G') : OwnR G' B d hs xss := ⟨h.out.sub s, fun i hi => (h.row i hi).sub s, h.ne, h.inj⟩
theorem OwnR.rows {G : GH} {B : Option Addr} {d : Nat} {hs : Nat → Option Addr × Nat} {xss : List (List Int)} (h : OwnR G B d hs xss) : RowS G B d hs xss := by
  refine ⟨h.out.cap, fun i hi => ?_, fun i hi => (h.row i hi).ints⟩
  have := h.out.cells i (Value.slice (hs i).1 (xss.getD i []).length (hs i).2) (by simp [hi])
  exact this
theorem OwnR.nil (G : GH) (hs : Nat → Option Addr × Nat) : OwnR G none 0 hs [] := ⟨Own.nil _ _, fun i hi => by simp at hi, fun i hi => by simp at hi, fun i j hi => by simp at hi⟩
/-- how many cells lie ahead of a list. -/
def pre (xss : List (List Int)) : Nat → Nat
  | 0 => 0
  | j + 1 => pre xss j + (xss.getD j []).length
def mks (k : Int) (xss : List (List Int)) : List (List Int) := (List.range xss.length).map fun j => marks (k + pre xss j) (xss.getD j []).length
theorem mks_len (k : Int) (xss : List (List Int)) : (mks k xss).length = xss.length := by simp [mks]
theorem mks_get {k : Int} {xss : List (List Int)} {j : Nat} (hj : j < xss.length) : (mks k xss).getD j [] = marks (k + pre xss j) (xss.getD j []).length := by simp [mks, List.getD, hj]
def midR (k : Int) (xss : List (List Int)) (i : Nat) : List (List Int) := (List.range xss.length).map fun j => if j < i then marks (k + pre xss j) (xss.getD j []).length else xss.getD j []
theorem midR_len (k : Int) (xss : List (List Int)) (i : Nat) : (midR k xss i).length = xss.length := by simp [midR]
theorem midR_get {k : Int} {xss : List (List Int)} {i j : Nat} (hj : j < xss.length) : (midR k xss i).getD j [] = if j < i then marks (k + pre xss j) (xss.getD j []).length else xss.getD j [] := by simp [midR, List.getD, hj]
theorem midR_zero (k : Int) (xss : List (List Int)) : midR k xss 0 = xss := by
  refine List.ext_getElem (by simp [midR]) fun j h1 h2 => ?_
  simp [midR, List.getD, h2]
theorem midR_all (k : Int) (xss : List (List Int)) : midR k xss xss.length = mks k xss := by
  unfold midR mks
  refine List.map_congr_left fun j hj => ?_
  rw [if_pos (List.mem_range.1 hj)]
theorem pre_bd {xss : List (List Int)} {M : Nat} (h : ∀ i, i < xss.length → (xss.getD i []).length ≤ M) : ∀ j, j ≤ xss.length → pre xss j ≤ M * j
  | 0, _ => Nat.zero_le _
  | j + 1, hj => by
    have := pre_bd h j (by omega)
    have := h j (by omega)
    show pre xss j + _ ≤ M * (j + 1)
    rw [Nat.mul_succ]; omega
/-- the blocks of the lists. -/
def rowB (hs : Nat → Option Addr × Nat) (n : Nat) : Nat → Prop := fun x => ∃ i, i < n ∧ ∃ a, (hs i).1 = some a ∧ a.block = x
/-- other blocks are as they were. -/
def Oth (S : Nat → Prop) (G G' : GH) : Prop := ∀ x, ¬ S x → G' x = G x
theorem Oth.refl (S : Nat → Prop) (G : GH) : Oth S G G := fun _ _ => rfl
theorem Oth.trans {S : Nat → Prop} {G G' G'' : GH} (h : Oth S G G') (h' : Oth S G' G'') : Oth S G G'' := fun x hx => (h' x hx).trans (h x hx)
theorem Oth.mono {S S' : Nat → Prop} {G G' : GH} (h : Oth S G G') (hs : ∀ x, S x → S' x) : Oth S' G G' := fun x hx => h x fun y => hx (hs x y)
theorem Oth.sub {S : Nat → Prop} {H G G' : GH} (h : Oth S G G') (s : Sub H G) (o : ∀ x, S x → H x = none) : Sub H G' := fun x e hx => by
  rw [h x fun y => by rw [o x y] at hx; cases hx]; exact s x e hx
theorem Upd.oth {G G' : GH} {A : Option Addr} (u : Upd G G' A) : Oth (fun x => ∃ a, A = some a ∧ a.block = x) G G' := fun x hx => by
  rcases u with rfl | ⟨b, e, rfl, _, rfl⟩
  · rfl
  · exact put_ne _ _ fun y => hx ⟨_, rfl, y.symm⟩
theorem Own.oth {G G' : GH} {S : Nat → Prop} {A : Option Addr} {c sz n : Nat} {cs : List Value} (h : Own G A c cs sz n) (u : Oth S G G') (hA : ∀ a, A = some a → ¬ S a.block) : Own G' A c cs sz n := by
  rcases h with h | ⟨b, r, rfl, hb, h⟩
  · exact .inl h
  · exact .inr ⟨b, r, rfl, by rw [u b (hA _ rfl)]; exact hb, h⟩
/-- one of the lists is written over. -/
theorem OwnR.set {G G' : GH} {B : Option Addr} {d i : Nat} {hs : Nat → Option Addr × Nat} {xss yss : List (List Int)} (h : OwnR G B d hs xss) (hi : i < xss.length) (u : Upd G G' (hs i).1) (hl : yss.length = xss.length) (hy : (yss.getD i []).length = (xss.getD i []).length)
    (ho : ∀ j, j < xss.length → j ≠ i → yss.getD j [] = xss.getD j []) (hw : Own G' (hs i).1 (hs i).2 ((yss.getD i []).map I64) 1 (yss.getD i []).length) : OwnR G' B d hs yss := by
  refine ⟨?_, fun j hj => ?_, fun j hj => h.ne j (by omega), fun j k hj hk => h.inj j k (by omega) (by omega)⟩
  · have e : ((List.range yss.length).map fun i => Value.slice (hs i).1 (yss.getD i []).length (hs i).2) = (List.range xss.length).map fun i => Value.slice (hs i).1 (xss.getD i []).length (hs i).2 := by
      rw [hl]
      refine List.map_congr_left fun j hj => ?_
      by_cases e : j = i
      · subst e; rw [hy]
      · rw [ho j (List.mem_range.1 hj) e]
    rw [e, hl]
    exact h.out.oth u.oth fun b hb => fun ⟨a, ha, hx⟩ => h.ne i hi a b ha hb hx
  · by_cases e : j = i
    · subst e; exact hw
    · rw [ho j (by omega) e]
      exact (h.row j (by omega)).oth u.oth fun b hb => fun ⟨a, ha, hx⟩ => h.inj i j hi (by omega) (fun y => e y.symm) a b ha hb hx
/-- a table whose lists lie in blocks of their own. -/
structure OwnT (G : GH) (N : Tab) (A : Option Addr) (c : Nat) (B : Option Addr) (d : Nat) (hs : Nat → Option Addr × Nat) : Prop where
  cols : Own G A c (N.cols.map I64) 1 N.cols.length
  rows : OwnR G B d hs N.rows
  nB : ∀ a b, A = some a → B = some b → a.block ≠ b.block
  nR : ∀ i, i < N.rows.length → ∀ a b, A = some a → (hs i).1 = some b → a.block ≠ b.block
theorem OwnT.sub {G G' : GH} {N : Tab} {A B : Option Addr} {c d : Nat} {hs : Nat → Option Addr × Nat} (h : OwnT G N A c B d hs) (s : Sub G G') : OwnT G' N A c B d hs := ⟨h.cols.sub s, h.rows.sub s, h.nB, h.nR⟩
def tabB (A B : Option Addr) (hs : Nat → Option Addr × Nat) (n : Nat) : Nat → Prop := fun x => (∃ a, A = some a ∧ a.block = x) ∨ (∃ a, B = some a ∧ a.block = x) ∨ rowB hs n x
def mkT (k : Int) (N : Tab) : Tab := ⟨marks k N.cols.length, mks (k + N.cols.length) N.rows⟩
/-- what is new, in blocks that were not known. -/
structure NewT (G G' : GH) (N : Tab) (A : Option Addr) (c : Nat) (B : Option Addr) (d : Nat) (hs : Nat → Option Addr × Nat) : Prop where
  sub : Sub G G'
  own : OwnT (rest G G') N A c B d hs
theorem NewT.off {G G' : GH} {N : Tab} {A B : Option Addr} {c d : Nat} {hs : Nat → Option Addr × Nat} (h : NewT G G' N A c B d hs) : ∀ x, tabB A B hs N.rows.length x → G x = none := by
  have key : ∀ {A : Option Addr} {c sz n : Nat} {cs : List Value}, Own (rest G G') A c cs sz n → ∀ a, A = some a → G a.block = none := fun h a ha => by
    rcases h with ⟨h, _⟩ | ⟨b, r, h1, h2, _⟩
    · rw [h] at ha; cases ha
    · rw [h1] at ha; cases ha; exact (rest_some.1 h2).1
  rintro x (⟨a, ha, rfl⟩ | ⟨a, ha, rfl⟩ | ⟨i, hi, a, ha, rfl⟩)
  · exact key h.own.cols a ha
  · exact key h.own.rows.out a ha
  · exact key (h.own.rows.row i hi) a ha
theorem OwnT.on {G : GH} {N : Tab} {A B : Option Addr} {c d : Nat} {hs : Nat → Option Addr × Nat} (h : OwnT G N A c B d hs) : ∀ x, tabB A B hs N.rows.length x → G x ≠ none := by
  rintro x (⟨a, ha, rfl⟩ | ⟨a, ha, rfl⟩ | ⟨i, hi, a, ha, rfl⟩)
  · exact own_ne h.cols a ha
  · exact own_ne h.rows.out a ha
  · exact own_ne (h.rows.row i hi) a ha
/-- the nodes on the way back from v, without the source. -/
def path (b : Int → Int) (s : Int) : Nat → Int → List Int
  | 0, _ => []
  | f + 1, v => if v = s then [] else v :: path b s f (b v)
theorem New.cast {G G' : GH} {A : Option Addr} {c sz n : Nat} {cs cs' : List Value} (h : New G G' A c cs sz n) (e : cs = cs') {n' : Nat} (en : n = n') : New G G' A c cs' sz n' := e ▸ en ▸ h
theorem New.ints' {G G' : GH} {A : Option Addr} {c n : Nat} {xs : List Int} (h : New G G' A c (xs.map I64) 1 n) (hn : n = xs.length) : IntS G' A c xs := by subst hn; exact h.ints
theorem IntS.cells {G : GH} {A : Option Addr} {c : Nat} {xs : List Int} (h : IntS G A c xs) : Cells G A (xs.map I64) := fun i v hv => by
  rw [List.getElem?_map] at hv
  obtain ⟨x, hx, rfl⟩ := Option.map_eq_some_iff.1 hv
  have hi := (List.getElem?_eq_some_iff.1 hx).1
  rw [h.rd i hi]
  simp [List.getD, hx, I64]
theorem map_one (xs : List Int) : ∀ v ∈ xs.map I64, oneB v = true := by
  intro v hv
  obtain ⟨x, _, rfl⟩ := List.mem_map.1 hv
  rfl
theorem spec_l00Own_ok {G : GH} {A : Option Addr} {c : Nat} {xs : List Int} (h : IntS G A c xs) (hl : xs.length < 2 ^ 30) {K : Value → GH → Prop}
    (hk : ∀ G' A' c', New G G' A' c' (xs.map I64) 1 xs.length → K (.slice A' xs.length c') G') : GC Try.prog 66 [.slice A xs.length c] G K := by
  refine c_spec_l00Own_i (by simp) ?_
  simp (maxSteps := 300000) (disch := omega) only [gs, gs2, gs3, gs4, ↓reduceIte, Nat.reduceEqDiff, Int.reduceToNat, Nat.reduceMul, Nat.reduceAdd, Nat.reduceBEq, isLd, gBs]
  refine ⟨by intro v hv; simp at hv, fun b hb => ?_⟩
  refine ap_new (New.mk hb [] 1 0 rfl) (Sub.refl _) (h.sub (Sub.put hb _)).cells (by simp) (map_one xs) rfl (by omega) (by omega) (by omega) fun G'' A' c' hN => ?_
  simp (maxSteps := 300000) (disch := omega) only [gs, gs2, gs3, gs4, ↓reduceIte, Nat.reduceEqDiff, Int.reduceToNat, Nat.reduceMul, Nat.reduceAdd, Nat.reduceBEq, isLd]
  simpa using hk _ _ _ (hN.cast (by simp) (by simp))
theorem slices_Clone_ok {G : GH} {A : Option Addr} {c : Nat} {xs : List Int} (h : IntS G A c xs) (hl : xs.length < 2 ^ 30) {K : Value → GH → Prop}
    (hk : ∀ G' A' c', New G G' A' c' (xs.map I64) 1 xs.length → K (.slice A' xs.length c') G') : GC Try.prog 35 [.slice A xs.length c] G K := by
  refine c_slices_Clone_int64_int64_i (by simp) ?_
  cases A with
  | none =>
    have h0 : xs.length = 0 := by
      rcases Nat.eq_zero_or_pos xs.length with h0 | h0
      · exact h0
      · have := h.sn h0; simp [sn] at this
    obtain rfl : xs = [] := List.length_eq_zero_iff.1 h0
    simp (maxSteps := 300000) (disch := omega) only [gs, gs2, gs3, gs4, ↓reduceIte, Nat.reduceEqDiff, Int.reduceToNat, Nat.reduceMul, Nat.reduceAdd, Nat.reduceBEq, isLd, Option.isNone_none]
    exact hk G none 0 (New.nil _ _)
  | some a =>
    simp (maxSteps := 300000) (disch := omega) only [gs, gs2, gs3, gs4, ↓reduceIte, Nat.reduceEqDiff, Int.reduceToNat, Nat.reduceMul, Nat.reduceAdd, Nat.reduceBEq, isLd, Option.isNone_some, gBs]
    refine ⟨by intro v hv; simp at hv, fun b hb => ?_⟩
    refine ap_new (New.mk hb [] 1 0 rfl) (Sub.refl _) (h.sub (Sub.put hb _)).cells (by simp) (map_one xs) rfl (by omega) (by omega) (by omega) fun G'' A' c' hN => ?_
    simp (maxSteps := 300000) (disch := omega) only [gs, gs2, gs3, gs4, ↓reduceIte, Nat.reduceEqDiff, Int.reduceToNat, Nat.reduceMul, Nat.reduceAdd, Nat.reduceBEq, isLd]
    simpa using hk _ _ _ (hN.cast (by simp) (by simp))
theorem spec_l20Ok_ok {G : GH} {q : Option Addr} {N : Tab} {A B : Option Addr} {c d : Nat} {hs : Nat → Option Addr × Nat} (h : TabP G q N A c B d hs) (hl : N.cols.length < 2 ^ 40) (hl1 : Sh N.rows) {K : Value → GH → Prop}
    (hk : ∀ b : Bool, (b = true ↔ TabOk N) → K (.bool b) G) : GC Try.prog 43 [.pointer q] G K := by
  refine c_spec_l20Ok_i (by simp) ?_
  obtain ⟨hl2, hl3⟩ := hl1
  have hq := rd_some h.f0
  have f0 := h.f0
  have f1 := h.f1
  have hr := h.rows
  have hno : ¬ TabOk N → K (.bool false) G := fun hx => hk false (by simp [hx])
  simp (maxSteps := 300000) (disch := omega) only [gs, gs2, gs3, gs4, ↓reduceIte, Nat.reduceEqDiff, Int.reduceToNat, Nat.reduceMul, Nat.reduceAdd, Nat.reduceBEq, isLd, f0]
  refine spec_l00Rises_ok h.cols hl fun b hb => ?_
  cases b
  · simp (maxSteps := 300000) (disch := omega) only [gs, gs2, gs3, gs4, ↓reduceIte, Nat.reduceEqDiff, Int.reduceToNat, Nat.reduceMul, Nat.reduceAdd, Nat.reduceBEq, isLd, f0, f1]
    exact hno fun hx => by simpa using hb.2 ⟨hx.2.1, hx.1⟩
  have hb := hb.1 rfl
  simp (maxSteps := 300000) (disch := omega) only [gs, gs2, gs3, gs4, ↓reduceIte, Nat.reduceEqDiff, Int.reduceToNat, Nat.reduceMul, Nat.reduceAdd, Nat.reduceBEq, isLd, f0, f1]
  by_cases h24 : (24 : Int) < N.rows.length
  · simp (maxSteps := 300000) (disch := omega) only [gs, gs2, gs3, gs4, ↓reduceIte, Nat.reduceEqDiff, Int.reduceToNat, Nat.reduceMul, Nat.reduceAdd, Nat.reduceBEq, isLd, h24, f0, f1]
    exact hno fun hx => by have := hx.2.2.1; omega
  simp (maxSteps := 300000) (disch := omega) only [gs, gs2, gs3, gs4, ↓reduceIte, Nat.reduceEqDiff, Int.reduceToNat, Nat.reduceMul, Nat.reduceAdd, Nat.reduceBEq, isLd, h24, f0, f1]
  refine gLoop_intro (fun m T G' => ∃ k : Nat, T 0 = .pointer q ∧ T 3 = .int .i64 k ∧ m + k = N.rows.length ∧ k ≤ N.rows.length ∧ G' = G ∧
    (∀ i, i < k → (N.rows.getD i []).length = N.cols.length ∧ InB (N.rows.getD i []) 0 3) ∧ ∀ i, i + 1 < k → lexC (N.rows.getD i []) (N.rows.getD (i + 1) []) < 0) N.rows.length
    ⟨0, by simp (maxSteps := 300000) (disch := omega) only [gs, gs2, gs3, gs4, ↓reduceIte, Nat.reduceEqDiff, Int.reduceToNat, Nat.reduceMul, Nat.reduceAdd, Nat.reduceBEq, isLd], by simp (maxSteps := 300000) (disch := omega) only [gs, gs2, gs3, gs4, ↓reduceIte, Nat.reduceEqDiff, Int.reduceToNat, Nat.reduceMul, Nat.reduceAdd, Nat.reduceBEq, isLd] <;> rfl, by omega, by omega, rfl, fun i hi => by omega, fun i hi => by omega⟩ ?_
  rintro m T G' ⟨k, e0, e3, hm, hkl, rfl, hin, hlt⟩
  have hsn := hr.sn
  have r := hr.r
  simp (maxSteps := 300000) (disch := omega) only [gs, gs2, gs3, gs4, ↓reduceIte, Nat.reduceEqDiff, Int.reduceToNat, Nat.reduceMul, Nat.reduceAdd, Nat.reduceBEq, isLd, e0, e3, f0, f1]
  by_cases hkk : (k : Int) < N.rows.length
  · simp (maxSteps := 300000) (disch := omega) only [gs, gs2, gs3, gs4, ↓reduceIte, Nat.reduceEqDiff, Int.reduceToNat, Nat.reduceMul, Nat.reduceAdd, Nat.reduceBEq, isLd, e0, e3, f0, f1, hkk, r]
    have inner : ((N.rows.getD k []).length = N.cols.length) → (∀ i, i + 1 < k + 1 → lexC (N.rows.getD i []) (N.rows.getD (i + 1) []) < 0) → True := fun _ _ => trivial
    by_cases hlen : ((N.rows.getD k []).length : Int) = N.cols.length
    · simp (maxSteps := 300000) (disch := omega) only [gs, gs2, gs3, gs4, ↓reduceIte, Nat.reduceEqDiff, Int.reduceToNat, Nat.reduceMul, Nat.reduceAdd, Nat.reduceBEq, isLd, eq_true hlen, e0, e3, f0, f1, r]
      by_cases hk0 : (0 : Int) < k
      · simp (maxSteps := 300000) (disch := omega) only [gs, gs2, gs3, gs4, ↓reduceIte, Nat.reduceEqDiff, Int.reduceToNat, Nat.reduceMul, Nat.reduceAdd, Nat.reduceBEq, isLd, hk0, e0, e3, f0, f1, r]
        refine spec_l16Before_ok (hr.row _ (by omega)) (hr.row k (by omega)) (hl3 _ (by omega)) (hl3 k (by omega)) fun b hb => ?_
        cases b
        · simp (maxSteps := 300000) (disch := omega) only [gs, gs2, gs3, gs4, ↓reduceIte, Nat.reduceEqDiff, Int.reduceToNat, Nat.reduceMul, Nat.reduceAdd, Nat.reduceBEq, isLd, e0, e3, f0, f1, r]
          exact hno fun hy => by
            have := hy.2.2.2.2 (k - 1) (by omega)
            rw [show k - 1 + 1 = k by omega, show k - 1 = ((k : Int) - 1).toNat by omega] at this
            simpa using hb.2 this
        · have hb := hb.1 rfl
          have hlt' : ∀ i, i + 1 < k + 1 → lexC (N.rows.getD i []) (N.rows.getD (i + 1) []) < 0 := fun i hi => by
            by_cases hik : i + 1 = k
            · rw [hik, show i = ((k : Int) - 1).toNat by omega]; omega
            · exact hlt i (by omega)
          simp (maxSteps := 300000) (disch := omega) only [gs, gs2, gs3, gs4, ↓reduceIte, Nat.reduceEqDiff, Int.reduceToNat, Nat.reduceMul, Nat.reduceAdd, Nat.reduceBEq, isLd, e0, e3, f0, f1, r]
          refine gLoop_intro (fun m' T G'' => ∃ j : Nat, T 0 = .pointer q ∧ T 3 = .int .i64 k ∧ T 4 = .int .i64 j ∧ m' + j = (N.rows.getD k []).length ∧ j ≤ (N.rows.getD k []).length ∧ G'' = G' ∧ ∀ i, i < j → 0 ≤ (N.rows.getD k []).getD i 0 ∧ (N.rows.getD k []).getD i 0 ≤ 3) (N.rows.getD k []).length
            ⟨0, by simp (maxSteps := 300000) (disch := omega) only [gs, gs2, gs3, gs4, ↓reduceIte, Nat.reduceEqDiff, Int.reduceToNat, Nat.reduceMul, Nat.reduceAdd, Nat.reduceBEq, isLd, e0], by simp (maxSteps := 300000) (disch := omega) only [gs, gs2, gs3, gs4, ↓reduceIte, Nat.reduceEqDiff, Int.reduceToNat, Nat.reduceMul, Nat.reduceAdd, Nat.reduceBEq, isLd, e3], by simp (maxSteps := 300000) (disch := omega) only [gs, gs2, gs3, gs4, ↓reduceIte, Nat.reduceEqDiff, Int.reduceToNat, Nat.reduceMul, Nat.reduceAdd, Nat.reduceBEq, isLd] <;> rfl, by omega, by omega, rfl, fun i hi => by omega⟩ ?_
          rintro m' T G'' ⟨j, e0, e3, e4, hm', hjl, rfl, hje⟩
          have hrk := hr.row k (by omega)
          have rr := hrk.rd
          have hsnk := hrk.sn
          have hl3k := hl3 k (by omega)
          simp (maxSteps := 300000) (disch := omega) only [gs, gs2, gs3, gs4, ↓reduceIte, Nat.reduceEqDiff, Int.reduceToNat, Nat.reduceMul, Nat.reduceAdd, Nat.reduceBEq, isLd, e0, e3, e4, f0, f1, r]
          by_cases hj : (j : Int) < (N.rows.getD k []).length
          · simp (maxSteps := 300000) (disch := omega) only [gs, gs2, gs3, gs4, ↓reduceIte, Nat.reduceEqDiff, Int.reduceToNat, Nat.reduceMul, Nat.reduceAdd, Nat.reduceBEq, isLd, e0, e3, e4, f0, f1, r, hj, rr]
            refine spec_l00In_ok _ _ _ ?_
            simp (maxSteps := 300000) (disch := omega) only [gs, gs2, gs3, gs4, ↓reduceIte, Nat.reduceEqDiff, Int.reduceToNat, Nat.reduceMul, Nat.reduceAdd, Nat.reduceBEq, isLd, e0, e3, e4]
            cases g : decide (0 ≤ (N.rows.getD k []).getD j 0 ∧ (N.rows.getD k []).getD j 0 ≤ 3)
            · simp (maxSteps := 300000) (disch := omega) only [gs, gs2, gs3, gs4, ↓reduceIte, Nat.reduceEqDiff, Int.reduceToNat, Nat.reduceMul, Nat.reduceAdd, Nat.reduceBEq, isLd, e0, e3, e4]
              have g := of_decide_eq_false g
              exact hno fun hx => g ((hx.2.2.2.1 k (by omega)).2 j (by omega))
            · simp (maxSteps := 300000) (disch := omega) only [gs, gs2, gs3, gs4, ↓reduceIte, Nat.reduceEqDiff, Int.reduceToNat, Nat.reduceMul, Nat.reduceAdd, Nat.reduceBEq, isLd, e0, e3, e4]
              have g := of_decide_eq_true g
              refine ⟨m' - 1, by omega, _, Sub.refl _, j + 1, rfl, by omega, by omega, rfl, fun i hi => ?_⟩
              by_cases hij : i = j
              · subst hij; exact g
              · exact hje i (by omega)
          · simp (maxSteps := 300000) (disch := omega) only [gs, gs2, gs3, gs4, ↓reduceIte, Nat.reduceEqDiff, Int.reduceToNat, Nat.reduceMul, Nat.reduceAdd, Nat.reduceBEq, isLd, e0, e3, e4, f0, f1, r, hj]
            refine ⟨m - 1, by omega, _, Sub.refl _, k + 1, rfl, by omega, by omega, rfl, fun i hi => ?_, hlt'⟩
            by_cases hik : i = k
            · subst hik; exact ⟨by omega, fun i hi => hje i (by omega)⟩
            · exact hin i (by omega)
      · have hlt' : ∀ i, i + 1 < k + 1 → lexC (N.rows.getD i []) (N.rows.getD (i + 1) []) < 0 := fun i hi => by omega
        simp (maxSteps := 300000) (disch := omega) only [gs, gs2, gs3, gs4, ↓reduceIte, Nat.reduceEqDiff, Int.reduceToNat, Nat.reduceMul, Nat.reduceAdd, Nat.reduceBEq, isLd, hk0, e0, e3, f0, f1, r]
        refine gLoop_intro (fun m' T G'' => ∃ j : Nat, T 0 = .pointer q ∧ T 3 = .int .i64 k ∧ T 4 = .int .i64 j ∧ m' + j = (N.rows.getD k []).length ∧ j ≤ (N.rows.getD k []).length ∧ G'' = G' ∧ ∀ i, i < j → 0 ≤ (N.rows.getD k []).getD i 0 ∧ (N.rows.getD k []).getD i 0 ≤ 3) (N.rows.getD k []).length
          ⟨0, by simp (maxSteps := 300000) (disch := omega) only [gs, gs2, gs3, gs4, ↓reduceIte, Nat.reduceEqDiff, Int.reduceToNat, Nat.reduceMul, Nat.reduceAdd, Nat.reduceBEq, isLd, e0], by simp (maxSteps := 300000) (disch := omega) only [gs, gs2, gs3, gs4, ↓reduceIte, Nat.reduceEqDiff, Int.reduceToNat, Nat.reduceMul, Nat.reduceAdd, Nat.reduceBEq, isLd, e3], by simp (maxSteps := 300000) (disch := omega) only [gs, gs2, gs3, gs4, ↓reduceIte, Nat.reduceEqDiff, Int.reduceToNat, Nat.reduceMul, Nat.reduceAdd, Nat.reduceBEq, isLd] <;> rfl, by omega, by omega, rfl, fun i hi => by omega⟩ ?_
        rintro m' T G'' ⟨j, e0, e3, e4, hm', hjl, rfl, hje⟩
        have hrk := hr.row k (by omega)
        have rr := hrk.rd
        have hsnk := hrk.sn
        have hl3k := hl3 k (by omega)
        simp (maxSteps := 300000) (disch := omega) only [gs, gs2, gs3, gs4, ↓reduceIte, Nat.reduceEqDiff, Int.reduceToNat, Nat.reduceMul, Nat.reduceAdd, Nat.reduceBEq, isLd, e0, e3, e4, f0, f1, r]
        by_cases hj : (j : Int) < (N.rows.getD k []).length
        · simp (maxSteps := 300000) (disch := omega) only [gs, gs2, gs3, gs4, ↓reduceIte, Nat.reduceEqDiff, Int.reduceToNat, Nat.reduceMul, Nat.reduceAdd, Nat.reduceBEq, isLd, e0, e3, e4, f0, f1, r, hj, rr]
          refine spec_l00In_ok _ _ _ ?_
          simp (maxSteps := 300000) (disch := omega) only [gs, gs2, gs3, gs4, ↓reduceIte, Nat.reduceEqDiff, Int.reduceToNat, Nat.reduceMul, Nat.reduceAdd, Nat.reduceBEq, isLd, e0, e3, e4]
          cases g : decide (0 ≤ (N.rows.getD k []).getD j 0 ∧ (N.rows.getD k []).getD j 0 ≤ 3)
          · simp (maxSteps := 300000) (disch := omega) only [gs, gs2, gs3, gs4, ↓reduceIte, Nat.reduceEqDiff, Int.reduceToNat, Nat.reduceMul, Nat.reduceAdd, Nat.reduceBEq, isLd, e0, e3, e4]
            have g := of_decide_eq_false g
            exact hno fun hx => g ((hx.2.2.2.1 k (by omega)).2 j (by omega))
          · simp (maxSteps := 300000) (disch := omega) only [gs, gs2, gs3, gs4, ↓reduceIte, Nat.reduceEqDiff, Int.reduceToNat, Nat.reduceMul, Nat.reduceAdd, Nat.reduceBEq, isLd, e0, e3, e4]
            have g := of_decide_eq_true g
            refine ⟨m' - 1, by omega, _, Sub.refl _, j + 1, rfl, by omega, by omega, rfl, fun i hi => ?_⟩
            by_cases hij : i = j
            · subst hij; exact g
            · exact hje i (by omega)
        · simp (maxSteps := 300000) (disch := omega) only [gs, gs2, gs3, gs4, ↓reduceIte, Nat.reduceEqDiff, Int.reduceToNat, Nat.reduceMul, Nat.reduceAdd, Nat.reduceBEq, isLd, e0, e3, e4, f0, f1, r, hj]
          refine ⟨m - 1, by omega, _, Sub.refl _, k + 1, rfl, by omega, by omega, rfl, fun i hi => ?_, hlt'⟩
          by_cases hik : i = k
          · subst hik; exact ⟨by omega, fun i hi => hje i (by omega)⟩
          · exact hin i (by omega)
    · simp (maxSteps := 300000) (disch := omega) only [gs, gs2, gs3, gs4, ↓reduceIte, Nat.reduceEqDiff, Int.reduceToNat, Nat.reduceMul, Nat.reduceAdd, Nat.reduceBEq, isLd, eq_false hlen, e0, e3, f0, f1, r]
      exact hno fun hx => hlen (by have := (hx.2.2.2.1 k (by omega)).1; omega)
  · simp (maxSteps := 300000) (disch := omega) only [gs, gs2, gs3, gs4, ↓reduceIte, Nat.reduceEqDiff, Int.reduceToNat, Nat.reduceMul, Nat.reduceAdd, Nat.reduceBEq, isLd, e0, e3, f0, f1, hkk]
    exact hk true (by simp; exact ⟨hb.2, hb.1, by omega, fun i hi => hin i (by omega), fun i hi => hlt i (by omega)⟩)
theorem flatMap_cong {α β : Type} {l : List α} {f g : α → List β} (h : ∀ a ∈ l, f a = g a) : l.flatMap f = l.flatMap g := by
  induction l with
  | nil => rfl
  | cons a l ih => rw [List.flatMap_cons, List.flatMap_cons, h a (by simp), ih fun b hb => h b (by simp [hb])]
theorem tabC_len (N : Tab) (A : Option Addr) (c : Nat) (B : Option Addr) (d : Nat) : (tabC N A c B d).length = 2 := rfl
theorem laws_toTableS_ok {G : GH} {A : Option Addr} {c : Nat} {H : Nat → TH} {ts : List Tab} (h : TabsS G A c H ts) (hsm : TabsSm ts) {K : Value → GH → Prop}
    (hk : ∀ A' H' G', Sub G G' → TabsS (rest G G') A' ts.length H' ts → K (.slice A' ts.length ts.length) G') : GC Try.prog 10 [.slice A ts.length c] G K := by
  refine c_laws_toTableS_i (by simp) ?_
  have hsn := h.sn
  obtain ⟨hs1, hs2⟩ := hsm
  simp (maxSteps := 300000) (disch := omega) only [gs, gs2, gs3, gs4, ↓reduceIte, Nat.reduceEqDiff, Int.reduceToNat, Nat.reduceMul, Nat.reduceAdd, Nat.reduceBEq, isLd]
  refine ⟨ts.length, ts.length, rfl, rfl, Nat.le_refl _, by omega, by omega, fun b hb => ?_⟩
  simp (maxSteps := 300000) (disch := omega) only [gs, gs2, gs3, gs4, ↓reduceIte, Nat.reduceEqDiff, Int.reduceToNat, Nat.reduceMul, Nat.reduceAdd, Nat.reduceBEq, isLd]
  refine gLoop_intro (fun m T G' => ∃ (k : Nat) (H' : Nat → TH), T 0 = .slice A ts.length c ∧ T 3 = .slice (some ⟨b, 0, none⟩) ts.length ts.length ∧ T 4 = .int .i64 k ∧ m + k = ts.length ∧ k ≤ ts.length ∧ Sub G G' ∧
    G' b = some ⟨((List.range k).flatMap (fun i => tabC (ts.getD i t0) (H' i).A (H' i).c (H' i).B (H' i).d)) ++ List.replicate ((ts.length - k) * 2) (.slice none 0 0), true⟩ ∧
    ∀ i, i < k → IntS (rest (put G b ⟨[], true⟩) G') (H' i).A (H' i).c (ts.getD i t0).cols ∧ RowS (rest (put G b ⟨[], true⟩) G') (H' i).B (H' i).d (H' i).hs (ts.getD i t0).rows)
    ts.length ⟨0, fun _ => ⟨none, 0, none, 0, fun _ => (none, 0)⟩, by simp (maxSteps := 300000) (disch := omega) only [gs, gs2, gs3, gs4, ↓reduceIte, Nat.reduceEqDiff, Int.reduceToNat, Nat.reduceMul, Nat.reduceAdd, Nat.reduceBEq, isLd], by simp (maxSteps := 300000) (disch := omega) only [gs, gs2, gs3, gs4, ↓reduceIte, Nat.reduceEqDiff, Int.reduceToNat, Nat.reduceMul, Nat.reduceAdd, Nat.reduceBEq, isLd], by simp (maxSteps := 300000) (disch := omega) only [gs, gs2, gs3, gs4, ↓reduceIte, Nat.reduceEqDiff, Int.reduceToNat, Nat.reduceMul, Nat.reduceAdd, Nat.reduceBEq, isLd] <;> rfl, by omega, by omega, Sub.put hb _, by rw [put_same, show [Value.slice none 0 0, .slice none 0 0] = List.replicate 2 (.slice none 0 0) from rfl, zc_rep]; simp, fun i hi => by omega⟩ ?_
  rintro m T G' ⟨k, H', e0, e3, e4, hm, hkl, hS, hB, hR⟩
  have hh := h.sub hS
  have r0 := hh.r0
  have r1 := hh.r1
  simp (maxSteps := 300000) (disch := omega) only [gs, gs2, gs3, gs4, ↓reduceIte, Nat.reduceEqDiff, Int.reduceToNat, Nat.reduceMul, Nat.reduceAdd, Nat.reduceBEq, isLd, e0, e3, e4]
  by_cases hkk : (k : Int) < ts.length
  · simp (maxSteps := 300000) (disch := omega) only [gs, gs2, gs3, gs4, ↓reduceIte, Nat.reduceEqDiff, Int.reduceToNat, Nat.reduceMul, Nat.reduceAdd, Nat.reduceBEq, isLd, e0, e3, e4, hkk, r0, r1]
    refine laws_toTable_ok (N := ts.getD k t0) (hh.cols k (by omega)) (hh.rows k (by omega)) (hs2 k (by omega)).1 (hs2 k (by omega)).2 fun A2 B2 hs2' G2 hS2 q1 q2 => ?_
    have hB2 := hS2 _ _ hB
    have hlen : ∀ j, ((List.range j).flatMap (fun i => tabC (ts.getD i t0) (H' i).A (H' i).c (H' i).B (H' i).d)).length = j * 2 := fun j => by
      induction j with
      | zero => rfl
      | succ j ih => rw [List.range_succ, List.flatMap_append, List.length_append, ih]; simp [tabC_len]; omega
    unfold tabV tabC
    simp (maxSteps := 300000) (disch := omega) only [gs, gs2, gs3, gs4, ↓reduceIte, Nat.reduceEqDiff, Int.reduceToNat, Nat.reduceMul, Nat.reduceAdd, Nat.reduceBEq, isLd, e0, e3, e4]
    refine st_many (vs := tabC (ts.getD k t0) A2 (ts.getD k t0).cols.length B2 (ts.getD k t0).rows.length) rfl hB2 rfl (by rw [List.length_append, hlen, List.length_replicate]; omega) (tabC_one _ _ _ _ _) ?_
    simp (maxSteps := 300000) (disch := omega) only [gs, gs2, gs3, gs4, ↓reduceIte, Nat.reduceEqDiff, Int.reduceToNat, Nat.reduceMul, Nat.reduceAdd, Nat.reduceBEq, isLd, e0, e3, e4]
    refine ⟨m - 1, by omega, _, Sub.refl _, k + 1, fun i => if i = k then ⟨A2, (ts.getD k t0).cols.length, B2, (ts.getD k t0).rows.length, hs2'⟩ else H' i, rfl, by omega, by omega, (hS.trans hS2).skip hb, ?_, fun i hi => ?_⟩
    · rw [put_same]
      congr 2
      have := over_app (tabC (ts.getD k t0) A2 (ts.getD k t0).cols.length B2 (ts.getD k t0).rows.length) ((List.range k).flatMap (fun i => tabC (ts.getD i t0) (H' i).A (H' i).c (H' i).B (H' i).d)) (List.replicate ((ts.length - k) * 2) (.slice none 0 0))
      rw [hlen] at this
      rw [this, if_pos (by rw [tabC_len, List.length_replicate]; omega), List.range_succ, List.flatMap_append, List.drop_replicate, tabC_len]
      congr 1
      · congr 1
        · exact flatMap_cong fun i hi => by have := List.mem_range.1 hi; simp only [tabC, if_neg (show ¬ i = k by omega)]
        · simp [tabC]
      · congr 1; omega
    · have hbne : put G b ⟨[], true⟩ b ≠ none := by rw [put_same]; simp
      have sA : Sub (rest (put G b ⟨[], true⟩) G') (rest (put G b ⟨[], true⟩) (put G2 b ⟨over (((List.range k).flatMap (fun i => tabC (ts.getD i t0) (H' i).A (H' i).c (H' i).B (H' i).d)) ++ List.replicate ((ts.length - k) * 2) (.slice none 0 0)) (k * 2) (tabC (ts.getD k t0) A2 (ts.getD k t0).cols.length B2 (ts.getD k t0).rows.length), true⟩)) := (Sub.rest_mono hS2).trans (Sub.rest_put' hbne)
      have sB : Sub (rest G' G2) (rest (put G b ⟨[], true⟩) (put G2 b ⟨over (((List.range k).flatMap (fun i => tabC (ts.getD i t0) (H' i).A (H' i).c (H' i).B (H' i).d)) ++ List.replicate ((ts.length - k) * 2) (.slice none 0 0)) (k * 2) (tabC (ts.getD k t0) A2 (ts.getD k t0).cols.length B2 (ts.getD k t0).rows.length), true⟩)) :=
        (Sub.rest_dom fun x hx => by rw [put_ne]; exact hS.none hx; rintro rfl; rw [hB] at hx; cases hx).trans (Sub.rest_put' hbne)
      dsimp only
      by_cases hik : i = k
      · subst hik
        rw [if_pos rfl]
        exact ⟨q1.sub sB, q2.sub sB⟩
      · rw [if_neg hik]
        obtain ⟨q1, q2⟩ := hR i (by omega)
        exact ⟨q1.sub sA, q2.sub sA⟩
  · simp (maxSteps := 300000) (disch := omega) only [gs, gs2, gs3, gs4, ↓reduceIte, Nat.reduceEqDiff, Int.reduceToNat, Nat.reduceMul, Nat.reduceAdd, Nat.reduceBEq, isLd, e0, e3, e4, hkk]
    obtain rfl : k = ts.length := by omega
    have sC : Sub (rest (put G b ⟨[], true⟩) G') (rest G G') := Sub.rest_anti (Sub.put hb _)
    have hlen : ∀ j, ((List.range j).flatMap (fun i => tabC (ts.getD i t0) (H' i).A (H' i).c (H' i).B (H' i).d)).length = j * 2 := fun j => by
      induction j with
      | zero => rfl
      | succ j ih => rw [List.range_succ, List.flatMap_append, List.length_append, ih]; simp [tabC_len]; omega
    have hget : ∀ n i, i < n → ((List.range n).flatMap (fun i => tabC (ts.getD i t0) (H' i).A (H' i).c (H' i).B (H' i).d))[i * 2]? = some (.slice (H' i).A (ts.getD i t0).cols.length (H' i).c) ∧ ((List.range n).flatMap (fun i => tabC (ts.getD i t0) (H' i).A (H' i).c (H' i).B (H' i).d))[i * 2 + 1]? = some (.slice (H' i).B (ts.getD i t0).rows.length (H' i).d) := fun n => by
      induction n with
      | zero => intro i hi; omega
      | succ n ih =>
        intro i hi
        rw [List.range_succ, List.flatMap_append]
        by_cases hin : i = n
        · subst hin
          rw [List.getElem?_append_right (by rw [hlen]; omega), List.getElem?_append_right (by rw [hlen]; omega), hlen]
          simp [tabC]
        · rw [List.getElem?_append_left (by rw [hlen]; omega), List.getElem?_append_left (by rw [hlen]; omega)]
          exact ih i (by omega)
    have hB' := rest_some.2 ⟨hb, hB⟩
    refine hk (some ⟨b, 0, none⟩) H' _ hS ⟨Nat.le_refl _, fun i hi => ?_, fun i hi => ?_, fun i hi => (hR i hi).1.sub sC, fun i hi => (hR i hi).2.sub sC⟩
    · simp only [pa_mk, rd, hB', Option.bind_some]
      rw [Nat.zero_add, List.getElem?_append_left (by rw [hlen]; omega)]
      exact (hget _ i hi).1
    · simp only [pa_mk, rd, hB', Option.bind_some]
      rw [Nat.zero_add, List.getElem?_append_left (by rw [hlen]; omega)]
      exact (hget _ i hi).2
theorem laws_toTableS_ok' {G : GH} {A : Option Addr} {c : Nat} {H : Nat → TH} {N : List Tab} (h : TabsS G A c H N) (hsm : TabsSm N) {K : Value → GH → Prop}
    (hk : ∀ A' H' G', Sub G G' → TabsS G' A' N.length H' N → K (.slice A' N.length N.length) G') : GC Try.prog 10 [.slice A N.length c] G K :=
  laws_toTableS_ok h hsm fun A' H' G' s q => hk A' H' G' s (q.sub (Sub.rest _ _))
theorem laws_eqTableS_ok {G : GH} {A B : Option Addr} {c d : Nat} {H H' : Nat → TH} {xs ys : List Tab} (h : TabsS G A c H xs) (h' : TabsS G B d H' ys) (hl : TabsSm xs) {K : Value → GH → Prop}
    (hk : ∀ b : Bool, (b = true ↔ xs = ys) → K (.bool b) G) : GC Try.prog 12 [.slice A xs.length c, .slice B ys.length d] G K := by
  refine c_laws_eqTableS_i (by simp) ?_
  obtain ⟨hl1, hl2⟩ := hl
  have hsn := h.sn
  have hsn' := h'.sn
  have r0 := h.r0
  have r1 := h.r1
  have r0' := h'.r0
  have r1' := h'.r1
  simp (maxSteps := 300000) (disch := omega) only [gs, gs2, gs3, gs4, ↓reduceIte, Nat.reduceEqDiff, Int.reduceToNat, Nat.reduceMul, Nat.reduceAdd, Nat.reduceBEq, isLd]
  by_cases hne : xs.length = ys.length
  · simp (maxSteps := 300000) (disch := omega) only [gs, gs2, gs3, gs4, ↓reduceIte, Nat.reduceEqDiff, Int.reduceToNat, Nat.reduceMul, Nat.reduceAdd, Nat.reduceBEq, isLd, eq_true (show (xs.length : Int) = ys.length by rw [hne])]
    refine gLoop_intro (fun m T G' => ∃ k : Nat, T 0 = .slice A xs.length c ∧ T 1 = .slice B ys.length d ∧ T 5 = .int .i64 k ∧ m + k = xs.length ∧ k ≤ xs.length ∧ G' = G ∧ ∀ i, i < k → xs.getD i t0 = ys.getD i t0) xs.length
      ⟨0, by simp (maxSteps := 300000) (disch := omega) only [gs, gs2, gs3, gs4, ↓reduceIte, Nat.reduceEqDiff, Int.reduceToNat, Nat.reduceMul, Nat.reduceAdd, Nat.reduceBEq, isLd], by simp (maxSteps := 300000) (disch := omega) only [gs, gs2, gs3, gs4, ↓reduceIte, Nat.reduceEqDiff, Int.reduceToNat, Nat.reduceMul, Nat.reduceAdd, Nat.reduceBEq, isLd], by simp (maxSteps := 300000) (disch := omega) only [gs, gs2, gs3, gs4, ↓reduceIte, Nat.reduceEqDiff, Int.reduceToNat, Nat.reduceMul, Nat.reduceAdd, Nat.reduceBEq, isLd] <;> rfl, by omega, by omega, rfl, fun i hi => by omega⟩ ?_
    rintro m T G' ⟨k, e0, e1, e5, hm, hkl, rfl, hin⟩
    simp (maxSteps := 300000) (disch := omega) only [gs, gs2, gs3, gs4, ↓reduceIte, Nat.reduceEqDiff, Int.reduceToNat, Nat.reduceMul, Nat.reduceAdd, Nat.reduceBEq, isLd, e0, e1, e5]
    by_cases hkk : (k : Int) < xs.length
    · simp (maxSteps := 300000) (disch := omega) only [gs, gs2, gs3, gs4, ↓reduceIte, Nat.reduceEqDiff, Int.reduceToNat, Nat.reduceMul, Nat.reduceAdd, Nat.reduceBEq, isLd, e0, e1, e5, hkk, r0, r0', r1, r1']
      have := hl2 k (by omega)
      refine laws_eqTable_ok (N := xs.getD k t0) (M := ys.getD k t0) (h.cols k (by omega)) (h.rows k (by omega)) (h'.cols k (by omega)) (h'.rows k (by omega)) (by have := this.1; omega) this.2.sh.1 this.2.sh.2 fun b hb => ?_
      cases b
      · simp (maxSteps := 300000) (disch := omega) only [gs, gs2, gs3, gs4, ↓reduceIte, Nat.reduceEqDiff, Int.reduceToNat, Nat.reduceMul, Nat.reduceAdd, Nat.reduceBEq, isLd, e0, e1, e5, hkk, r0, r0', r1, r1']
        exact hk false (by simp; rintro rfl; simpa using hb.2 rfl)
      · simp (maxSteps := 300000) (disch := omega) only [gs, gs2, gs3, gs4, ↓reduceIte, Nat.reduceEqDiff, Int.reduceToNat, Nat.reduceMul, Nat.reduceAdd, Nat.reduceBEq, isLd, e0, e1, e5, hkk, r0, r0', r1, r1']
        refine ⟨m - 1, by omega, _, Sub.refl _, k + 1, rfl, by omega, by omega, rfl, fun i hi => ?_⟩
        by_cases hik : i = k
        · subst hik; exact hb.1 rfl
        · exact hin i (by omega)
    · simp (maxSteps := 300000) (disch := omega) only [gs, gs2, gs3, gs4, ↓reduceIte, Nat.reduceEqDiff, Int.reduceToNat, Nat.reduceMul, Nat.reduceAdd, Nat.reduceBEq, isLd, e0, e1, e5, hkk]
      exact hk true (by simp; exact (tabs_eq_iff hne).2 fun i hi => hin i (by omega))
  · simp (maxSteps := 300000) (disch := omega) only [gs, gs2, gs3, gs4, ↓reduceIte, Nat.reduceEqDiff, Int.reduceToNat, Nat.reduceMul, Nat.reduceAdd, Nat.reduceBEq, isLd, eq_false (show ¬ (xs.length : Int) = ys.length by omega)]
    exact hk false (by simp; rintro rfl; exact hne rfl)
/-- few tables, which are all valid. -/
def TabsOk (ts : List Tab) : Prop := ts.length ≤ 6 ∧ ∀ i, i < ts.length → TabOk (ts.getD i t0)
theorem spec_l20List_ok {G : GH} {A : Option Addr} {c : Nat} {H : Nat → TH} {ts : List Tab} (h : TabsS G A c H ts) (hl : TabsSm ts) {K : Value → GH → Prop}
    (hk : ∀ b : Bool, (b = true ↔ TabsOk ts) → K (.bool b) G) : GC Try.prog 31 [.slice A ts.length c] G K := by
  refine c_spec_l20List_i (by simp) ?_
  obtain ⟨hl1, hl2⟩ := hl
  have hsn := h.sn
  simp (maxSteps := 300000) (disch := omega) only [gs, gs2, gs3, gs4, ↓reduceIte, Nat.reduceEqDiff, Int.reduceToNat, Nat.reduceMul, Nat.reduceAdd, Nat.reduceBEq, isLd]
  refine gLoop_intro (fun m T G' => ∃ k : Nat, T 0 = .slice A ts.length c ∧ T 3 = .int .i64 k ∧ m + k = ts.length ∧ k ≤ ts.length ∧ G' = G ∧ ∀ i, i < k → TabOk (ts.getD i t0)) ts.length
    ⟨0, by simp (maxSteps := 300000) (disch := omega) only [gs, gs2, gs3, gs4, ↓reduceIte, Nat.reduceEqDiff, Int.reduceToNat, Nat.reduceMul, Nat.reduceAdd, Nat.reduceBEq, isLd], by simp (maxSteps := 300000) (disch := omega) only [gs, gs2, gs3, gs4, ↓reduceIte, Nat.reduceEqDiff, Int.reduceToNat, Nat.reduceMul, Nat.reduceAdd, Nat.reduceBEq, isLd] <;> rfl, by omega, by omega, rfl, fun i hi => by omega⟩ ?_
  rintro m T G' ⟨k, e0, e3, hm, hkl, rfl, hin⟩
  simp (maxSteps := 300000) (disch := omega) only [gs, gs2, gs3, gs4, ↓reduceIte, Nat.reduceEqDiff, Int.reduceToNat, Nat.reduceMul, Nat.reduceAdd, Nat.reduceBEq, isLd, e0, e3]
  by_cases hkk : (k : Int) < ts.length
  · simp (maxSteps := 300000) (disch := omega) only [gs, gs2, gs3, gs4, ↓reduceIte, Nat.reduceEqDiff, Int.reduceToNat, Nat.reduceMul, Nat.reduceAdd, Nat.reduceBEq, isLd, e0, e3, hkk]
    have := hl2 k (by omega)
    refine spec_l20Ok_ok (q := pa A (k * 2)) (N := ts.getD k t0) ⟨h.r0 k (by omega), by rw [pa_pa]; exact h.r1 k (by omega), h.cols k (by omega), h.rows k (by omega)⟩ (by have := this.1; omega) this.2.sh fun b hb => ?_
    cases b
    · simp (maxSteps := 300000) (disch := omega) only [gs, gs2, gs3, gs4, ↓reduceIte, Nat.reduceEqDiff, Int.reduceToNat, Nat.reduceMul, Nat.reduceAdd, Nat.reduceBEq, isLd, e0, e3]
      exact hk false (by simp; intro hx; simpa using hb.2 (hx.2 k (by omega)))
    · simp (maxSteps := 300000) (disch := omega) only [gs, gs2, gs3, gs4, ↓reduceIte, Nat.reduceEqDiff, Int.reduceToNat, Nat.reduceMul, Nat.reduceAdd, Nat.reduceBEq, isLd, e0, e3]
      refine ⟨m - 1, by omega, _, Sub.refl _, k + 1, rfl, by omega, by omega, rfl, fun i hi => ?_⟩
      by_cases hik : i = k
      · subst hik; exact hb.1 rfl
      · exact hin i (by omega)
  · simp (maxSteps := 300000) (disch := omega) only [gs, gs2, gs3, gs4, ↓reduceIte, Nat.reduceEqDiff, Int.reduceToNat, Nat.reduceMul, Nat.reduceAdd, Nat.reduceBEq, isLd, e0, e3, hkk]
    refine hk _ ?_
    rw [decide_eq_true_eq]
    exact ⟨fun hx => ⟨by omega, fun i hi => hin i (by omega)⟩, fun hx => by have := hx.1; omega⟩
theorem impl_ValidTables_ok {G : GH} {A : Option Addr} {c : Nat} {H : Nat → TH} {ts : List Tab} (h : TabsS G A c H ts) (hl : TabsSm ts) {K : Value → GH → Prop}
    (hk : ∀ b : Bool, (b = true ↔ TabsOk ts) → K (.bool b) G) : GC Try.prog 34 [.slice A ts.length c] G K := by
  refine c_impl_ValidTables_i (by simp) ?_
  obtain ⟨hl1, hl2⟩ := hl
  have hsn := h.sn
  have r0 := h.r0
  have r1 := h.r1
  simp (maxSteps := 300000) (disch := omega) only [gs, gs2, gs3, gs4, ↓reduceIte, Nat.reduceEqDiff, Int.reduceToNat, Nat.reduceMul, Nat.reduceAdd, Nat.reduceBEq, isLd]
  by_cases h6 : (ts.length : Int) ≤ 6
  · simp (maxSteps := 300000) (disch := omega) only [gs, gs2, gs3, gs4, ↓reduceIte, Nat.reduceEqDiff, Int.reduceToNat, Nat.reduceMul, Nat.reduceAdd, Nat.reduceBEq, isLd, h6]
    refine c_slices_ContainsFunc_impl_Table_impl_Table_i (by simp) ?_
    simp (maxSteps := 300000) (disch := omega) only [gs, gs2, gs3, gs4, ↓reduceIte, Nat.reduceEqDiff, Int.reduceToNat, Nat.reduceMul, Nat.reduceAdd, Nat.reduceBEq, isLd]
    refine c_slices_IndexFunc_impl_Table_impl_Table_i (by simp) ?_
    simp (maxSteps := 300000) (disch := omega) only [gs, gs2, gs3, gs4, ↓reduceIte, Nat.reduceEqDiff, Int.reduceToNat, Nat.reduceMul, Nat.reduceAdd, Nat.reduceBEq, isLd]
    refine gLoop_intro (fun m T G' => ∃ k : Nat, T 0 = .slice A ts.length c ∧ T 1 = .func (.func 68) #[] #[] ∧ T 7 = .int .i64 ts.length ∧ T 8 = .int .i64 k ∧ m + k = ts.length ∧ k ≤ ts.length ∧ G' = G ∧ ∀ i, i < k → TabOk (ts.getD i t0)) ts.length
      ⟨0, by simp (maxSteps := 300000) (disch := omega) only [gs, gs2, gs3, gs4, ↓reduceIte, Nat.reduceEqDiff, Int.reduceToNat, Nat.reduceMul, Nat.reduceAdd, Nat.reduceBEq, isLd], by simp (maxSteps := 300000) (disch := omega) only [gs, gs2, gs3, gs4, ↓reduceIte, Nat.reduceEqDiff, Int.reduceToNat, Nat.reduceMul, Nat.reduceAdd, Nat.reduceBEq, isLd], by simp (maxSteps := 300000) (disch := omega) only [gs, gs2, gs3, gs4, ↓reduceIte, Nat.reduceEqDiff, Int.reduceToNat, Nat.reduceMul, Nat.reduceAdd, Nat.reduceBEq, isLd], by simp (maxSteps := 300000) (disch := omega) only [gs, gs2, gs3, gs4, ↓reduceIte, Nat.reduceEqDiff, Int.reduceToNat, Nat.reduceMul, Nat.reduceAdd, Nat.reduceBEq, isLd] <;> rfl, by omega, by omega, rfl, fun i hi => by omega⟩ ?_
    rintro m T G' ⟨k, e0, e1, e7, e8, hm, hkl, rfl, hin⟩
    simp (maxSteps := 300000) (disch := omega) only [gs, gs2, gs3, gs4, ↓reduceIte, Nat.reduceEqDiff, Int.reduceToNat, Nat.reduceMul, Nat.reduceAdd, Nat.reduceBEq, isLd, e0, e1, e7, e8]
    by_cases hkk : (k : Int) < ts.length
    · simp (maxSteps := 300000) (disch := omega) only [gs, gs2, gs3, gs4, ↓reduceIte, Nat.reduceEqDiff, Int.reduceToNat, Nat.reduceMul, Nat.reduceAdd, Nat.reduceBEq, isLd, e0, e1, e7, e8, hkk, r0, r1]
      have := hl2 k (by omega)
      refine GC_drop (c_impl_ValidTables_fn1_i (by simp) ?_)
      simp (maxSteps := 300000) (disch := omega) only [gs, gs2, gs3, gs4, ↓reduceIte, Nat.reduceEqDiff, Int.reduceToNat, Nat.reduceMul, Nat.reduceAdd, Nat.reduceBEq, isLd]
      intro b1 hb1
      have s1 := Sub.put hb1 ⟨tabC (ts.getD k t0) (H k).A (H k).c (H k).B (H k).d, true⟩
      unfold tabC at s1
      simp (maxSteps := 300000) (disch := omega) only [gs, gs2, gs3, gs4, ↓reduceIte, Nat.reduceEqDiff, Int.reduceToNat, Nat.reduceMul, Nat.reduceAdd, Nat.reduceBEq, isLd]
      refine impl_ValidTable_ok (N := ts.getD k t0) ((h.cols k (by omega)).sub s1) ((h.rows k (by omega)).sub s1) (by have := this.1; omega) this.2.sh fun b hb => ?_
      simp (maxSteps := 300000) (disch := omega) only [gs, gs2, gs3, gs4, ↓reduceIte, Nat.reduceEqDiff, Int.reduceToNat, Nat.reduceMul, Nat.reduceAdd, Nat.reduceBEq, isLd]
      refine ⟨G', s1, ?_⟩
      cases b
      · simp (maxSteps := 300000) (disch := omega) only [gs, gs2, gs3, gs4, ↓reduceIte, Nat.reduceEqDiff, Int.reduceToNat, Nat.reduceMul, Nat.reduceAdd, Nat.reduceBEq, isLd, e0, e1, e7, e8, show (0 : Int) ≤ (k : Int) by omega]
        exact hk false (by simp; intro hx; simpa using hb.2 (hx.2 k (by omega)))
      · simp (maxSteps := 300000) (disch := omega) only [gs, gs2, gs3, gs4, ↓reduceIte, Nat.reduceEqDiff, Int.reduceToNat, Nat.reduceMul, Nat.reduceAdd, Nat.reduceBEq, isLd, e0, e1, e7, e8]
        refine ⟨m - 1, by omega, _, Sub.refl _, k + 1, rfl, by omega, by omega, rfl, fun i hi => ?_⟩
        by_cases hik : i = k
        · subst hik; exact hb.1 rfl
        · exact hin i (by omega)
    · simp (maxSteps := 300000) (disch := omega) only [gs, gs2, gs3, gs4, ↓reduceIte, Nat.reduceEqDiff, Int.reduceToNat, Nat.reduceMul, Nat.reduceAdd, Nat.reduceBEq, isLd, e0, e1, e7, e8, hkk]
      rw [show decide ((0 : Int) ≤ -1) = false by decide]
      simp (maxSteps := 300000) (disch := omega) only [gs, gs2, gs3, gs4, ↓reduceIte, Nat.reduceEqDiff, Int.reduceToNat, Nat.reduceMul, Nat.reduceAdd, Nat.reduceBEq, isLd]
      exact hk true (by simp; exact ⟨by omega, fun i hi => hin i (by omega)⟩)
  · simp (maxSteps := 300000) (disch := omega) only [gs, gs2, gs3, gs4, ↓reduceIte, Nat.reduceEqDiff, Int.reduceToNat, Nat.reduceMul, Nat.reduceAdd, Nat.reduceBEq, isLd, h6]
    exact hk false (by simp; intro hx; have := hx.1; omega)
theorem sl_rest {b n i c : Nat} (hi : i < n) (hn : n ≤ c) : slV 1 (.slice (some ⟨b, 0, none⟩) n c) (some (.int .i64 (i : Int))) none = some (.slice (some ⟨b, i, none⟩) (n - i) (c - i)) := by
  simp only [slV, onSl, bndV, onInt, Option.bind_some]
  rw [if_pos ⟨by omega, by omega⟩]
  simp only [Option.bind_some, Int.toNat_natCast]
  rw [if_pos (by omega), if_neg (by omega)]
  simp [pa_mk]
theorem sl_init {A : Option Addr} {n i c : Nat} (hi : i ≤ n) (hn : n ≤ c) : slV 1 (.slice A n c) none (some (.int .i64 (i : Int))) = some (.slice A i c) := by
  simp only [slV, onSl, bndV, onInt]
  rw [if_pos ⟨by omega, by omega⟩, Int.toNat_natCast]
  simp [pa_zero]
theorem slices_DeleteFunc_ok {H G : GH} {A : Option Addr} {c : Nat} {f : Value} {xs : List Int} (p : Int → Bool) (hO : Own G A c (xs.map I64) 1 xs.length) (hs : Sub H G) (ho : Off H A) (hl : xs.length < 2 ^ 30)
    (hf : ∀ G', Sub H G' → ∀ (v : Int) (K : Value → GH → Prop), K (.bool (p v)) G' → gCl Try.prog f [.int .i64 v] G' K) {K : Value → GH → Prop}
    (hk : ∀ G', Sub H G' → Own G' A c ((xs.filter fun v => !(p v)).map I64) 1 (xs.filter fun v => !(p v)).length → K (.slice A (xs.filter fun v => !(p v)).length c) G') : GC Try.prog 104 [.slice A xs.length c, f] G K := by
  refine c_slices_DeleteFunc_int64_int64_i (by simp) ?_
  simp (maxSteps := 300000) (disch := omega) only [gs, gs2, gs3, gs4, ↓reduceIte, Nat.reduceEqDiff, Int.reduceToNat, Nat.reduceMul, Nat.reduceAdd, Nat.reduceBEq, isLd]
  refine slices_IndexFunc_ok p hO.ints (by omega) (fun i hi K' hk' => hf G hs _ K' hk') ?_
  simp (maxSteps := 300000) (disch := omega) only [gs, gs2, gs3, gs4, ↓reduceIte, Nat.reduceEqDiff, Int.reduceToNat, Nat.reduceMul, Nat.reduceAdd, Nat.reduceBEq, isLd]
  unfold idxI
  cases hi0 : xs.findIdx? p with
  | none =>
    rw [List.findIdx?_eq_none_iff] at hi0
    have hfl : (xs.filter fun v => !(p v)) = xs := List.filter_eq_self.2 fun v hv => by rw [hi0 v hv]; rfl
    rw [hfl] at hk
    simp (maxSteps := 300000) (disch := omega) only [gs, gs2, gs3, gs4, ↓reduceIte, Nat.reduceEqDiff, Int.reduceToNat, Nat.reduceMul, Nat.reduceAdd, Nat.reduceBEq, isLd, eq_true (show (-1 : Int) = -1 from rfl)]
    exact hk G hs hO
  | some i0 =>
    obtain ⟨h0, hp0, hb0⟩ := List.findIdx?_eq_some_iff_getElem.1 hi0
    have hne : ((i0 : Int) = -1) = False := eq_false (by omega)
    rcases hO with ⟨_, _, hz, _⟩ | ⟨b, r, rfl, hb, hlen, hc, hnc⟩
    · omega
    have hHb : H b = none := ho _ rfl
    simp (maxSteps := 300000) (disch := omega) only [gs, gs2, gs3, gs4, ↓reduceIte, Nat.reduceEqDiff, Int.reduceToNat, Nat.reduceMul, Nat.reduceAdd, Nat.reduceBEq, isLd, hne]
    have hk0 : ((xs.take (i0 + 1)).filter fun v => !(p v)) = xs.take i0 := by
      rw [List.take_succ_eq_append_getElem h0, List.filter_append, List.filter_eq_self.2 fun v hv => ?_]
      · simp [hp0]
      · obtain ⟨j, hj, rfl⟩ := List.mem_iff_getElem.1 hv
        rw [List.length_take] at hj
        rw [List.getElem_take]
        have := hb0 j (by omega)
        simp at this; rw [this]; rfl
    refine gLoop_intro (fun m T G' => ∃ (j : Nat) (m1 : List Value), T 0 = .slice (some ⟨b, 0, none⟩) xs.length c ∧ T 1 = f ∧ T 5 = .int .i64 ((xs.take j).filter fun v => !(p v)).length ∧ T 6 = .int .i64 j ∧ m + j = xs.length ∧ j ≤ xs.length ∧ 0 < m1.length ∧
        ((xs.take j).filter fun v => !(p v)).length + m1.length = j ∧ Sub H G' ∧ G' b = some ⟨((xs.take j).filter fun v => !(p v)).map I64 ++ (m1 ++ ((xs.drop j).map I64 ++ r)), true⟩) (xs.length - (i0 + 1))
      ⟨i0 + 1, [I64 (xs[i0])], by simp (maxSteps := 300000) (disch := omega) only [gs, gs2, gs3, gs4, ↓reduceIte, Nat.reduceEqDiff, Int.reduceToNat, Nat.reduceMul, Nat.reduceAdd, Nat.reduceBEq, isLd], by simp (maxSteps := 300000) (disch := omega) only [gs, gs2, gs3, gs4, ↓reduceIte, Nat.reduceEqDiff, Int.reduceToNat, Nat.reduceMul, Nat.reduceAdd, Nat.reduceBEq, isLd], by rw [hk0, List.length_take, Nat.min_eq_left (by omega)]; simp (maxSteps := 300000) (disch := omega) only [gs, gs2, gs3, gs4, ↓reduceIte, Nat.reduceEqDiff, Int.reduceToNat, Nat.reduceMul, Nat.reduceAdd, Nat.reduceBEq, isLd], by simp (maxSteps := 300000) (disch := omega) only [gs, gs2, gs3, gs4, ↓reduceIte, Nat.reduceEqDiff, Int.reduceToNat, Nat.reduceMul, Nat.reduceAdd, Nat.reduceBEq, isLd] <;> rfl, by omega, by omega, by simp, by rw [hk0, List.length_take, Nat.min_eq_left (by omega)]; rfl, hs, by
        rw [hk0, hb]
        have e1 : xs.take i0 ++ (xs[i0] :: xs.drop (i0 + 1)) = xs := by rw [← List.drop_eq_getElem_cons h0, List.take_append_drop]
        have e2 : (xs.take i0).map I64 ++ ([I64 xs[i0]] ++ ((xs.drop (i0 + 1)).map I64 ++ r)) = xs.map I64 ++ r := by
          rw [← congrArg (List.map I64) e1]
          simp only [List.map_append, List.map_cons, List.append_assoc, List.cons_append, List.nil_append]
        rw [e2]⟩ ?_
    rintro m T G' ⟨j, m1, e0, e1, e5, e6, hm, hj, hm1, hmj, hS, hB⟩
    simp (maxSteps := 300000) (disch := omega) only [gs, gs2, gs3, gs4, ↓reduceIte, Nat.reduceEqDiff, Int.reduceToNat, Nat.reduceMul, Nat.reduceAdd, Nat.reduceBEq, isLd, e0, e1, e5, e6]
    by_cases hjj : (j : Int) < xs.length
    · have hd : xs.drop j = xs.getD j 0 :: xs.drop (j + 1) := drop_cons (by omega)
      have ht : xs.take (j + 1) = xs.take j ++ [xs.getD j 0] := by
        rw [List.take_succ_eq_append_getElem (by omega)]; simp [List.getD, show j < xs.length by omega]
      have hr : rd G' (some ⟨b, j, none⟩) = some (.int .i64 (xs.getD j 0)) := by
        simp only [rd, hB, Option.bind_some]
        rw [List.getElem?_append_right (by rw [List.length_map]; omega), List.length_map, List.getElem?_append_right (by omega), hd]
        rw [show j - ((xs.take j).filter fun v => !(p v)).length - m1.length = 0 by omega]
        rfl
      simp (maxSteps := 300000) (disch := omega) only [gs, gs2, gs3, gs4, ↓reduceIte, Nat.reduceEqDiff, Int.reduceToNat, Nat.reduceMul, Nat.reduceAdd, Nat.reduceBEq, isLd, e0, e1, e5, e6, hjj, hr]
      refine hf G' hS _ _ ?_
      cases hp : p (xs.getD j 0)
      · simp (maxSteps := 300000) (disch := omega) only [gs, gs2, gs3, gs4, ↓reduceIte, Nat.reduceEqDiff, Int.reduceToNat, Nat.reduceMul, Nat.reduceAdd, Nat.reduceBEq, isLd, e0, e1, e5, e6]
        have hkl : ((((xs.take j).filter fun v => !(p v)).length : Nat) : Int) < xs.length := by omega
        refine st_one hB (by simp; omega) rfl ?_
        simp (maxSteps := 300000) (disch := omega) only [gs, gs2, gs3, gs4, ↓reduceIte, Nat.reduceEqDiff, Int.reduceToNat, Nat.reduceMul, Nat.reduceAdd, Nat.reduceBEq, isLd, e0, e1, e5, e6]
        have hf2 : ((xs.take (j + 1)).filter fun v => !(p v)) = ((xs.take j).filter fun v => !(p v)) ++ [xs.getD j 0] := by rw [ht, List.filter_append, List.filter_cons_of_pos (by rw [hp]; rfl), List.filter_nil]
        obtain ⟨y, m2, rfl⟩ : ∃ y m2, m1 = y :: m2 := by
          cases m1 with
          | nil => simp at hm1
          | cons y m2 => exact ⟨y, m2, rfl⟩
        rw [List.length_cons] at hmj
        refine ⟨m - 1, by omega, _, Sub.refl _, j + 1, m2 ++ [I64 (xs.getD j 0)], by rw [hf2, List.length_append]; rfl, rfl, by omega, by omega, by simp, by rw [hf2, List.length_append, List.length_append]; simp; omega, hS.skip hHb, ?_⟩
        rw [put_same, hf2]
        congr 2
        rw [List.set_append_right _ _ (by rw [List.length_map]; exact Nat.le_refl _), List.length_map, Nat.sub_self, List.cons_append, List.set_cons_zero, hd]
        simp [I64]
      · simp (maxSteps := 300000) (disch := omega) only [gs, gs2, gs3, gs4, ↓reduceIte, Nat.reduceEqDiff, Int.reduceToNat, Nat.reduceMul, Nat.reduceAdd, Nat.reduceBEq, isLd, e0, e1, e5, e6]
        have hf2 : ((xs.take (j + 1)).filter fun v => !(p v)) = ((xs.take j).filter fun v => !(p v)) := by rw [ht, List.filter_append, List.filter_cons_of_neg (by rw [hp]; simp), List.filter_nil, List.append_nil]
        refine ⟨m - 1, by omega, G', Sub.refl _, j + 1, m1 ++ [I64 (xs.getD j 0)], by rw [hf2], rfl, by omega, by omega, by simp, by rw [hf2, List.length_append]; simp; omega, hS, ?_⟩
        rw [hB, hf2, hd]
        simp
    · obtain rfl : j = xs.length := by omega
      rw [List.take_length] at e5 hmj hB
      rw [List.drop_length, List.map_nil, List.nil_append] at hB
      have hkl : ((xs.filter fun v => !(p v)).length) < xs.length := by omega
      simp (maxSteps := 300000) (disch := omega) only [gs, gs2, gs3, gs4, ↓reduceIte, Nat.reduceEqDiff, Int.reduceToNat, Nat.reduceMul, Nat.reduceAdd, Nat.reduceBEq, isLd, e0, e1, e5, e6, hjj, sl_rest hkl hnc, Option.map_none]
      have ho' := over_app (zc [Value.int IntKind.i64 0] (xs.length - (xs.filter fun v => !(p v)).length)) ((xs.filter fun v => !(p v)).map I64) (m1 ++ r)
      have hzl : (zc [Value.int IntKind.i64 0] (xs.length - (xs.filter fun v => !(p v)).length)).length = xs.length - (xs.filter fun v => !(p v)).length := by rw [zc_one, List.length_replicate]
      rw [hzl, if_pos (by rw [List.length_append]; omega), List.length_map, show (m1 ++ r).drop (xs.length - (xs.filter fun v => !(p v)).length) = r by rw [← show m1.length = xs.length - (xs.filter fun v => !(p v)).length by omega]; simp] at ho'
      have hcl : xs.length + r.length = c := by rw [List.length_append, List.length_map] at hc; omega
      refine ⟨_, _, _, rfl, .inr ⟨b, _, _, rfl, hB, by simp; omega, fun v hv => by rw [zc_one] at hv; rw [List.eq_of_mem_replicate hv]; rfl, ?_⟩⟩
      rw [ho']
      simp (maxSteps := 300000) (disch := omega) only [gs, gs2, gs3, gs4, ↓reduceIte, Nat.reduceEqDiff, Int.reduceToNat, Nat.reduceMul, Nat.reduceAdd, Nat.reduceBEq, isLd, e0, e1, e5, e6, Option.map_none, sl_init (A := some ⟨b, 0, none⟩) (Nat.le_of_lt hkl) hnc]
      refine hk _ (hS.skip hHb) (.inr ⟨b, zc [Value.int IntKind.i64 0] (xs.length - (xs.filter fun v => !(p v)).length) ++ r, rfl, ?_, by simp, ?_, by omega⟩)
      · rw [put_same, List.append_assoc]
      · rw [List.length_append, List.length_append, List.length_map, hzl]; omega
theorem impl_without_fn1_ok {G : GH} {q A : Option Addr} {c : Nat} {xs : List Int} {v : Int} (hq : rd G q = some (.slice A xs.length c)) (h : IntS G A c xs) (hl : xs.length < 2 ^ 40) {K : Value → GH → Prop} (hk : K (.bool (decide (v ∈ xs))) G) :
    GC Try.prog 105 [.int .i64 v, .pointer q] G K := by
  refine c_impl_without_fn1_i (by simp) ?_
  simp (maxSteps := 300000) (disch := omega) only [gs, gs2, gs3, gs4, ↓reduceIte, Nat.reduceEqDiff, Int.reduceToNat, Nat.reduceMul, Nat.reduceAdd, Nat.reduceBEq, isLd, hq]
  refine slices_Contains_ok h hl fun b hb => ?_
  have : b = decide (v ∈ xs) := Bool.eq_iff_iff.2 (by rw [hb, decide_eq_true_eq])
  subst this
  simp (maxSteps := 300000) (disch := omega) only [gs, gs2, gs3, gs4, ↓reduceIte, Nat.reduceEqDiff, Int.reduceToNat, Nat.reduceMul, Nat.reduceAdd, Nat.reduceBEq, isLd]
  exact hk
theorem impl_without_ok {G : GH} {A B : Option Addr} {c d : Nat} {xs ys : List Int} (h : IntS G A c xs) (h' : IntS G B d ys) (hl : xs.length < 2 ^ 30) (hl' : ys.length < 2 ^ 30) {K : Value → GH → Prop}
    (hk : ∀ G' A' c', New G G' A' c' ((wo' xs ys).map I64) 1 (wo' xs ys).length → K (.slice A' (wo' xs ys).length c') G') : GC Try.prog 96 [.slice A xs.length c, .slice B ys.length d] G K := by
  refine GC_drop (c_impl_without_i (by simp) ?_)
  simp (maxSteps := 300000) (disch := omega) only [gs, gs2, gs3, gs4, ↓reduceIte, Nat.reduceEqDiff, Int.reduceToNat, Nat.reduceMul, Nat.reduceAdd, Nat.reduceBEq, isLd]
  intro b3 hb3
  have s3 := Sub.put hb3 ⟨[.slice B ys.length d], true⟩
  have f3 : rd (put G b3 ⟨[.slice B ys.length d], true⟩) (some ⟨b3, 0, none⟩) = some (.slice B ys.length d) := rd_box _ _ _ 0 _ rfl
  revert s3 f3
  generalize put G b3 ⟨[.slice B ys.length d], true⟩ = G1
  intro s3 f3
  simp (maxSteps := 300000) (disch := omega) only [gs, gs2, gs3, gs4, ↓reduceIte, Nat.reduceEqDiff, Int.reduceToNat, Nat.reduceMul, Nat.reduceAdd, Nat.reduceBEq, isLd]
  refine slices_Clone_ok (h.sub s3) hl fun G2 A2 c2 hN => ?_
  simp (maxSteps := 300000) (disch := omega) only [gs, gs2, gs3, gs4, ↓reduceIte, Nat.reduceEqDiff, Int.reduceToNat, Nat.reduceMul, Nat.reduceAdd, Nat.reduceBEq, isLd]
  refine slices_DeleteFunc_ok (H := G1) (fun v => decide (v ∈ ys)) hN.fresh hN.sub hN.off hl (fun G' s v K' hk' => ?_) fun G' hS hW => ?_
  · simp (maxSteps := 300000) (disch := omega) only [gs, gs2, gs3, gs4, ↓reduceIte, Nat.reduceEqDiff, Int.reduceToNat, Nat.reduceMul, Nat.reduceAdd, Nat.reduceBEq, isLd]
    exact impl_without_fn1_ok (rd_sub s f3) ((h'.sub s3).sub s) (by omega) hk'
  · have e : (xs.filter fun v => !(decide (v ∈ ys))) = wo' xs ys := by
      unfold wo'
      refine List.filter_congr fun v _ => ?_
      by_cases hv : v ∈ ys <;> simp [hv]
    rw [e] at hW ⊢
    simp (maxSteps := 300000) (disch := omega) only [gs, gs2, gs3, gs4, ↓reduceIte, Nat.reduceEqDiff, Int.reduceToNat, Nat.reduceMul, Nat.reduceAdd, Nat.reduceBEq, isLd]
    obtain ⟨G'', s'', hN2⟩ := hW.new (s3.trans hS) (hN.off.mono s3)
    exact ⟨G'', s'', hk _ _ _ hN2⟩
theorem wo_len (xs ys : List Int) : (wo' xs ys).length ≤ xs.length := List.length_filter_le _ _
theorem comm_len (xs ys : List Int) : (comm xs ys).length ≤ xs.length := List.length_filter_le _ _
theorem impl_commonColumns_ok {G : GH} {a b : Tab} {A B A' B' : Option Addr} {c d c' d' : Nat} (h : IntS G A c a.cols) (h' : IntS G A' c' b.cols) (hl : a.cols.length < 2 ^ 30) (hl' : b.cols.length < 2 ^ 30) {K : Value → GH → Prop}
    (hk : ∀ G' D e, New G G' D e ((comm a.cols b.cols).map I64) 1 (comm a.cols b.cols).length → K (.slice D (comm a.cols b.cols).length e) G') : GC Try.prog 76 [tabV a A c B d, tabV b A' c' B' d'] G K := by
  refine GC_drop (c_impl_commonColumns_i (by simp) ?_)
  unfold tabV tabC
  simp (maxSteps := 300000) (disch := omega) only [gs, gs2, gs3, gs4, ↓reduceIte, Nat.reduceEqDiff, Int.reduceToNat, Nat.reduceMul, Nat.reduceAdd, Nat.reduceBEq, isLd]
  intro b2 hb2
  simp (maxSteps := 300000) (disch := omega) only [gs, gs2, gs3, gs4, ↓reduceIte, Nat.reduceEqDiff, Int.reduceToNat, Nat.reduceMul, Nat.reduceAdd, Nat.reduceBEq, isLd]
  intro b3 hb3
  simp only [put_none] at hb3
  obtain ⟨n23, hb3'⟩ := hb3
  have s2 := Sub.put hb2 ⟨[.slice A a.cols.length c, .slice B a.rows.length d], true⟩
  have s3 := Sub.put (show put G b2 ⟨[.slice A a.cols.length c, .slice B a.rows.length d], true⟩ b3 = none from by rw [put_ne _ _ (by omega)]; exact hb3') ⟨[.slice A' b.cols.length c', .slice B' b.rows.length d'], true⟩
  have f2 := rd_sub s3 (show rd (put G b2 ⟨[.slice A a.cols.length c, .slice B a.rows.length d], true⟩) (some ⟨b2, 0, none⟩) = some (.slice A a.cols.length c) from rd_box _ _ _ 0 _ rfl)
  have f3 : rd (put (put G b2 ⟨[.slice A a.cols.length c, .slice B a.rows.length d], true⟩) b3 ⟨[.slice A' b.cols.length c', .slice B' b.rows.length d'], true⟩) (some ⟨b3, 0, none⟩) = some (.slice A' b.cols.length c') := rd_box _ _ _ 0 _ rfl
  have s1 := s2.trans s3
  revert s1 f2 f3
  generalize put (put G b2 ⟨[.slice A a.cols.length c, .slice B a.rows.length d], true⟩) b3 ⟨[.slice A' b.cols.length c', .slice B' b.rows.length d'], true⟩ = G1
  intro f2 f3 s1
  simp (maxSteps := 300000) (disch := omega) only [gs, gs2, gs3, gs4, ↓reduceIte, Nat.reduceEqDiff, Int.reduceToNat, Nat.reduceMul, Nat.reduceAdd, Nat.reduceBEq, isLd, f2, f3]
  refine impl_without_ok (h.sub s1) (h'.sub s1) hl hl' fun G2 D2 e2 hN => ?_
  have s2 := hN.sub
  simp (maxSteps := 300000) (disch := omega) only [gs, gs2, gs3, gs4, ↓reduceIte, Nat.reduceEqDiff, Int.reduceToNat, Nat.reduceMul, Nat.reduceAdd, Nat.reduceBEq, isLd, rd_sub s2 f2, rd_sub s2 f3]
  refine impl_without_ok ((h.sub s1).sub s2) hN.ints hl (by have := wo_len a.cols b.cols; omega) fun G3 D3 e3 hN3 => ?_
  have s3 := hN3.sub
  rw [wo_wo] at hN3 ⊢
  simp (maxSteps := 300000) (disch := omega) only [gs, gs2, gs3, gs4, ↓reduceIte, Nat.reduceEqDiff, Int.reduceToNat, Nat.reduceMul, Nat.reduceAdd, Nat.reduceBEq, isLd, rd_sub (s2.trans s3) f2, rd_sub (s2.trans s3) f3]
  obtain ⟨G4, s4, hN4⟩ := hN3.low (s1.trans s2)
  exact ⟨G4, s4, hk _ _ _ hN4⟩
theorem idxI_mem' {xs : List Int} {v : Int} (h : v ∈ xs) : idxI (fun x => decide (x = v)) xs = xs.idxOf v ∧ xs.idxOf v < xs.length := by
  have hlt := List.idxOf_lt_length_iff.2 h
  refine ⟨?_, hlt⟩
  unfold idxI
  have : xs.findIdx? (fun x => decide (x = v)) = some (xs.idxOf v) := by
    rw [List.findIdx?_eq_some_iff_findIdx_eq]
    exact ⟨hlt, rfl⟩
  rw [this]
theorem impl_project_ok {G : GH} {A B D : Option Addr} {c d e : Nat} {cols row wanted : List Int} (h : IntS G A c cols) (h' : IntS G B d row) (hw : IntS G D e wanted) (hmem : ∀ v ∈ wanted, v ∈ cols) (hlen : row.length = cols.length) (hl : cols.length < 2 ^ 30) (hl2 : wanted.length < 2 ^ 30) {K : Value → GH → Prop}
    (hk : ∀ G' A' c', New G G' A' c' ((wanted.map (cellAt cols row)).map I64) 1 wanted.length → K (.slice A' wanted.length c') G') : GC Try.prog 64 [.slice A cols.length c, .slice B row.length d, .slice D wanted.length e] G K := by
  refine GC_drop (c_impl_project_i (by simp) ?_)
  have hsw := hw.sn
  have rw' := hw.rd
  simp (maxSteps := 300000) (disch := omega) only [gs, gs2, gs3, gs4, ↓reduceIte, Nat.reduceEqDiff, Int.reduceToNat, Nat.reduceMul, Nat.reduceAdd, Nat.reduceBEq, isLd]
  refine gLoop_intro (fun m T G' => ∃ (k : Nat) (Z : Option Addr) (z : Nat), T 0 = .slice A cols.length c ∧ T 1 = .slice B row.length d ∧ T 10 = .slice D wanted.length e ∧ T 11 = .int .i64 wanted.length ∧ T 7 = .slice Z k z ∧ T 12 = .int .i64 k ∧ m + k = wanted.length ∧ k ≤ wanted.length ∧ Sub G G' ∧ Off G Z ∧ Own G' Z z (((wanted.take k).map (cellAt cols row)).map I64) 1 k) wanted.length
    ⟨0, none, 0, by simp (maxSteps := 300000) (disch := omega) only [gs, gs2, gs3, gs4, ↓reduceIte, Nat.reduceEqDiff, Int.reduceToNat, Nat.reduceMul, Nat.reduceAdd, Nat.reduceBEq, isLd], by simp (maxSteps := 300000) (disch := omega) only [gs, gs2, gs3, gs4, ↓reduceIte, Nat.reduceEqDiff, Int.reduceToNat, Nat.reduceMul, Nat.reduceAdd, Nat.reduceBEq, isLd], by simp (maxSteps := 300000) (disch := omega) only [gs, gs2, gs3, gs4, ↓reduceIte, Nat.reduceEqDiff, Int.reduceToNat, Nat.reduceMul, Nat.reduceAdd, Nat.reduceBEq, isLd], by simp (maxSteps := 300000) (disch := omega) only [gs, gs2, gs3, gs4, ↓reduceIte, Nat.reduceEqDiff, Int.reduceToNat, Nat.reduceMul, Nat.reduceAdd, Nat.reduceBEq, isLd], by simp (maxSteps := 300000) (disch := omega) only [gs, gs2, gs3, gs4, ↓reduceIte, Nat.reduceEqDiff, Int.reduceToNat, Nat.reduceMul, Nat.reduceAdd, Nat.reduceBEq, isLd] <;> rfl, by simp (maxSteps := 300000) (disch := omega) only [gs, gs2, gs3, gs4, ↓reduceIte, Nat.reduceEqDiff, Int.reduceToNat, Nat.reduceMul, Nat.reduceAdd, Nat.reduceBEq, isLd] <;> rfl, by omega, by omega, Sub.refl _, Off.nil _, Own.nil _ _⟩ ?_
  rintro m T G' ⟨k, Z, z, e0, e1, e10, e11, e7, e12, hm, hkl, hS, hO, hW⟩
  simp (maxSteps := 300000) (disch := omega) only [gs, gs2, gs3, gs4, ↓reduceIte, Nat.reduceEqDiff, Int.reduceToNat, Nat.reduceMul, Nat.reduceAdd, Nat.reduceBEq, isLd, e0, e1, e10, e11, e7, e12]
  by_cases hkk : (k : Int) < wanted.length
  · have rk := rd_sub hS (rw' k (by omega))
    have hv : wanted.getD k 0 ∈ cols := hmem _ (by simp [List.getD, show k < wanted.length by omega])
    obtain ⟨hid, hlt⟩ := idxI_mem' hv
    have rr := rd_sub hS (h'.rd (cols.idxOf (wanted.getD k 0)) (by omega))
    have hsr := h'.sn (by omega)
    simp (maxSteps := 300000) (disch := omega) only [gs, gs2, gs3, gs4, ↓reduceIte, Nat.reduceEqDiff, Int.reduceToNat, Nat.reduceMul, Nat.reduceAdd, Nat.reduceBEq, isLd, e0, e1, e10, e11, e7, e12, hkk, rk]
    refine slices_Index_ok (h.sub hS) (by omega) ?_
    rw [hid]
    have hlt' : ((cols.idxOf (wanted.getD k 0) : Nat) : Int) < row.length := by omega
    simp (maxSteps := 300000) (disch := omega) only [gs, gs2, gs3, gs4, ↓reduceIte, Nat.reduceEqDiff, Int.reduceToNat, Nat.reduceMul, Nat.reduceAdd, Nat.reduceBEq, isLd, e0, e1, e10, e11, e7, e12, hlt', rr, gBs]
    refine ⟨by intro v hv; simp at hv; subst hv; rfl, fun by' hby => ?_⟩
    have sy := Sub.put hby ⟨[I64 (row.getD (cols.idxOf (wanted.getD k 0)) 0)], true⟩
    refine ap_own (hW.sub sy) (news := [I64 (row.getD (cols.idxOf (wanted.getD k 0)) 0)]) (m := 1) (cells_one _ true) rfl (by intro v hv; simp at hv; subst hv; rfl) rfl (by omega) (by omega) (by omega) fun G3 A3 c3' hW3 keep => ?_
    obtain ⟨hS3, hO3⟩ := keep G (hS.trans sy) hO
    simp (maxSteps := 300000) (disch := omega) only [gs, gs2, gs3, gs4, ↓reduceIte, Nat.reduceEqDiff, Int.reduceToNat, Nat.reduceMul, Nat.reduceAdd, Nat.reduceBEq, isLd, e0, e1, e10, e11, e7, e12]
    refine ⟨m - 1, by omega, G3, Sub.refl _, k + 1, A3, c3', rfl, rfl, by omega, by omega, hS3, hO3, ?_⟩
    refine hW3.cast ?_ rfl
    rw [List.take_succ_eq_append_getElem (show k < wanted.length by omega), List.map_append, List.map_append]
    simp [cellAt, List.getD, show k < wanted.length by omega]
  · simp (maxSteps := 300000) (disch := omega) only [gs, gs2, gs3, gs4, ↓reduceIte, Nat.reduceEqDiff, Int.reduceToNat, Nat.reduceMul, Nat.reduceAdd, Nat.reduceBEq, isLd, e0, e1, e10, e11, e7, e12, hkk]
    obtain rfl : k = wanted.length := by omega
    rw [List.take_length] at hW
    obtain ⟨G4, s4, hN4⟩ := hW.new hS hO
    exact ⟨G4, s4, hk _ _ _ hN4⟩
theorem impl_fit_ok {G : GH} {a b : Tab} {A B A' B' D D' : Option Addr} {c d c' d' e e' : Nat} {x y : List Int} (h : IntS G A c a.cols) (h' : IntS G A' c' b.cols) (hx : IntS G D e x) (hy : IntS G D' e' y) (hl : a.cols.length < 2 ^ 30) (hl' : b.cols.length < 2 ^ 30) (hxl : x.length = a.cols.length) (hyl : y.length = b.cols.length) {K : Value → GH → Prop}
    (hk : ∀ z : Bool, (z = true ↔ FitP a.cols b.cols x y) → K (.bool z) G) : GC Try.prog 63 [tabV a A c B d, tabV b A' c' B' d', .slice D x.length e, .slice D' y.length e'] G K := by
  refine GC_drop (c_impl_fit_i (by simp) ?_)
  unfold tabV tabC
  simp (maxSteps := 300000) (disch := omega) only [gs, gs2, gs3, gs4, ↓reduceIte, Nat.reduceEqDiff, Int.reduceToNat, Nat.reduceMul, Nat.reduceAdd, Nat.reduceBEq, isLd]
  intro b2 hb2
  simp (maxSteps := 300000) (disch := omega) only [gs, gs2, gs3, gs4, ↓reduceIte, Nat.reduceEqDiff, Int.reduceToNat, Nat.reduceMul, Nat.reduceAdd, Nat.reduceBEq, isLd]
  intro b3 hb3
  simp only [put_none] at hb3
  obtain ⟨n23, hb3'⟩ := hb3
  have s2 := Sub.put hb2 ⟨[.slice A a.cols.length c, .slice B a.rows.length d], true⟩
  have s3 := Sub.put (show put G b2 ⟨[.slice A a.cols.length c, .slice B a.rows.length d], true⟩ b3 = none from by rw [put_ne _ _ (by omega)]; exact hb3') ⟨[.slice A' b.cols.length c', .slice B' b.rows.length d'], true⟩
  have f2 := rd_sub s3 (show rd (put G b2 ⟨[.slice A a.cols.length c, .slice B a.rows.length d], true⟩) (some ⟨b2, 0, none⟩) = some (.slice A a.cols.length c) from rd_box _ _ _ 0 _ rfl)
  have f2' := rd_sub s3 (show rd (put G b2 ⟨[.slice A a.cols.length c, .slice B a.rows.length d], true⟩) (some ⟨b2, 1, none⟩) = some (.slice B a.rows.length d) from rd_box _ _ _ 1 _ rfl)
  have f3 : rd (put (put G b2 ⟨[.slice A a.cols.length c, .slice B a.rows.length d], true⟩) b3 ⟨[.slice A' b.cols.length c', .slice B' b.rows.length d'], true⟩) (some ⟨b3, 0, none⟩) = some (.slice A' b.cols.length c') := rd_box _ _ _ 0 _ rfl
  have f3' : rd (put (put G b2 ⟨[.slice A a.cols.length c, .slice B a.rows.length d], true⟩) b3 ⟨[.slice A' b.cols.length c', .slice B' b.rows.length d'], true⟩) (some ⟨b3, 1, none⟩) = some (.slice B' b.rows.length d') := rd_box _ _ _ 1 _ rfl
  have s1 := s2.trans s3
  revert s1 f2 f3 f2' f3'
  generalize put (put G b2 ⟨[.slice A a.cols.length c, .slice B a.rows.length d], true⟩) b3 ⟨[.slice A' b.cols.length c', .slice B' b.rows.length d'], true⟩ = G1
  intro f2 f2' f3 f3' s1
  simp (maxSteps := 300000) (disch := omega) only [gs, gs2, gs3, gs4, ↓reduceIte, Nat.reduceEqDiff, Int.reduceToNat, Nat.reduceMul, Nat.reduceAdd, Nat.reduceBEq, isLd, f2, f3, f2', f3']
  refine impl_commonColumns_ok (a := a) (b := b) (h.sub s1) (h'.sub s1) hl hl' fun G2 D2 e2 hN => ?_
  have s2 := s1.trans hN.sub
  have hcl := comm_len a.cols b.cols
  have g2 := rd_sub hN.sub f2
  have g3 := rd_sub hN.sub f3
  simp (maxSteps := 300000) (disch := omega) only [gs, gs2, gs3, gs4, ↓reduceIte, Nat.reduceEqDiff, Int.reduceToNat, Nat.reduceMul, Nat.reduceAdd, Nat.reduceBEq, isLd, g2, g3]
  refine impl_project_ok (h.sub s2) (hx.sub s2) hN.ints (fun v hv => by unfold comm at hv; simp at hv; exact hv.1) hxl hl (by omega) fun G3 D3 e3 hN3 => ?_
  have s3 := s2.trans hN3.sub
  simp (maxSteps := 300000) (disch := omega) only [gs, gs2, gs3, gs4, ↓reduceIte, Nat.reduceEqDiff, Int.reduceToNat, Nat.reduceMul, Nat.reduceAdd, Nat.reduceBEq, isLd, rd_sub hN3.sub g2, rd_sub hN3.sub g3]
  refine impl_project_ok (h'.sub s3) (hy.sub s3) (hN.ints.sub hN3.sub) (fun v hv => by unfold comm at hv; simp at hv; exact hv.2) hyl hl' (by omega) fun G4 D4 e4 hN4 => ?_
  have s4 := s3.trans hN4.sub
  simp (maxSteps := 300000) (disch := omega) only [gs, gs2, gs3, gs4, ↓reduceIte, Nat.reduceEqDiff, Int.reduceToNat, Nat.reduceMul, Nat.reduceAdd, Nat.reduceBEq, isLd, rd_sub hN4.sub (rd_sub hN3.sub g2), rd_sub hN4.sub (rd_sub hN3.sub g3)]
  have hI3 := (hN3.ints' (by rw [List.length_map])).sub hN4.sub
  have hI4 := hN4.ints' (by rw [List.length_map])
  have heq := fun K => slices_Equal_int64_ok hI3 hI4 (by rw [List.length_map]; omega) (K := K)
  simp only [List.length_map] at heq
  refine heq _ ?_
  simp (maxSteps := 300000) (disch := omega) only [gs, gs2, gs3, gs4, ↓reduceIte, Nat.reduceEqDiff, Int.reduceToNat, Nat.reduceMul, Nat.reduceAdd, Nat.reduceBEq, isLd, rd_sub hN4.sub (rd_sub hN3.sub g2), rd_sub hN4.sub (rd_sub hN3.sub g3)]
  exact ⟨G, s4, hk _ (by rw [decide_eq_true_eq]; exact fit_map)⟩
theorem slices_IndexFuncR_ok {G : GH} {A : Option Addr} {c : Nat} {hs : Nat → Option Addr × Nat} {xss : List (List Int)} {f : Value} (p : List Int → Bool) (h : RowS G A c hs xss) (hl : xss.length < 2 ^ 40)
    (hf : ∀ i, i < xss.length → ∀ K : Value → GH → Prop, K (.bool (p (xss.getD i []))) G → gCl Try.prog f [.slice (hs i).1 (xss.getD i []).length (hs i).2] G K) {K : Value → GH → Prop}
    (hk : ∀ v : Int, (0 ≤ v ↔ ∃ x ∈ xss, p x = true) → K (.int .i64 v) G) : GC Try.prog 91 [.slice A xss.length c, f] G K := by
  refine c_slices_IndexFunc_SS_int64_int64_i (by simp) ?_
  have hsn := h.sn
  have hrd := h.r
  simp (maxSteps := 300000) (disch := omega) only [gs, gs2, gs3, gs4, ↓reduceIte, Nat.reduceEqDiff, Int.reduceToNat, Nat.reduceMul, Nat.reduceAdd, Nat.reduceBEq, isLd]
  refine gLoop_intro (fun m T G' => ∃ k : Nat, T 0 = .slice A xss.length c ∧ T 1 = f ∧ T 7 = .int .i64 xss.length ∧ T 8 = .int .i64 k ∧ m + k = xss.length ∧ k ≤ xss.length ∧ G' = G ∧ ∀ i, i < k → p (xss.getD i []) = false) xss.length
    ⟨0, by simp (maxSteps := 300000) (disch := omega) only [gs, gs2, gs3, gs4, ↓reduceIte, Nat.reduceEqDiff, Int.reduceToNat, Nat.reduceMul, Nat.reduceAdd, Nat.reduceBEq, isLd], by simp (maxSteps := 300000) (disch := omega) only [gs, gs2, gs3, gs4, ↓reduceIte, Nat.reduceEqDiff, Int.reduceToNat, Nat.reduceMul, Nat.reduceAdd, Nat.reduceBEq, isLd], by simp (maxSteps := 300000) (disch := omega) only [gs, gs2, gs3, gs4, ↓reduceIte, Nat.reduceEqDiff, Int.reduceToNat, Nat.reduceMul, Nat.reduceAdd, Nat.reduceBEq, isLd], by simp (maxSteps := 300000) (disch := omega) only [gs, gs2, gs3, gs4, ↓reduceIte, Nat.reduceEqDiff, Int.reduceToNat, Nat.reduceMul, Nat.reduceAdd, Nat.reduceBEq, isLd] <;> rfl, by omega, by omega, rfl, fun i hi => by omega⟩ ?_
  rintro m T G' ⟨k, h0, h1, h7, h8, hm, hkl, rfl, hinv⟩
  simp (maxSteps := 300000) (disch := omega) only [gs, gs2, gs3, gs4, ↓reduceIte, Nat.reduceEqDiff, Int.reduceToNat, Nat.reduceMul, Nat.reduceAdd, Nat.reduceBEq, isLd, h0, h1, h7, h8]
  by_cases hlt : (k : Int) < xss.length
  · simp (maxSteps := 300000) (disch := omega) only [gs, gs2, gs3, gs4, ↓reduceIte, Nat.reduceEqDiff, Int.reduceToNat, Nat.reduceMul, Nat.reduceAdd, Nat.reduceBEq, isLd, h0, h1, h7, h8, hlt, hrd]
    refine hf k (by omega) _ ?_
    simp (maxSteps := 300000) (disch := omega) only [gs, gs2, gs3, gs4, ↓reduceIte, Nat.reduceEqDiff, Int.reduceToNat, Nat.reduceMul, Nat.reduceAdd, Nat.reduceBEq, isLd, h0, h1, h7, h8]
    cases hp : p (xss.getD k [])
    · simp (maxSteps := 300000) (disch := omega) only [gs, gs2, gs3, gs4, ↓reduceIte, Nat.reduceEqDiff, Int.reduceToNat, Nat.reduceMul, Nat.reduceAdd, Nat.reduceBEq, isLd, h0, h1, h7, h8]
      refine ⟨m - 1, by omega, _, Sub.refl _, k + 1, rfl, by omega, by omega, rfl, fun i hi => ?_⟩
      by_cases hik : i = k
      · subst hik; exact hp
      · exact hinv i (by omega)
    · simp (maxSteps := 300000) (disch := omega) only [gs, gs2, gs3, gs4, ↓reduceIte, Nat.reduceEqDiff, Int.reduceToNat, Nat.reduceMul, Nat.reduceAdd, Nat.reduceBEq, isLd, h0, h1, h7, h8]
      exact hk _ ⟨fun _ => ⟨xss.getD k [], by simp [List.getD, show k < xss.length by omega], hp⟩, fun _ => by omega⟩
  · simp (maxSteps := 300000) (disch := omega) only [gs, gs2, gs3, gs4, ↓reduceIte, Nat.reduceEqDiff, Int.reduceToNat, Nat.reduceMul, Nat.reduceAdd, Nat.reduceBEq, isLd, h0, h1, h7, h8, hlt]
    refine hk _ ⟨fun x => by omega, fun ⟨x, hx, hp⟩ => ?_⟩
    obtain ⟨i, hi, rfl⟩ := List.mem_iff_getElem.1 hx
    have := hinv i (by omega)
    rw [show xss.getD i [] = xss[i] by simp [List.getD, hi]] at this
    rw [this] at hp; cases hp
theorem slices_ContainsFuncR_ok {G : GH} {A : Option Addr} {c : Nat} {hs : Nat → Option Addr × Nat} {xss : List (List Int)} {f : Value} (p : List Int → Bool) (h : RowS G A c hs xss) (hl : xss.length < 2 ^ 40)
    (hf : ∀ i, i < xss.length → ∀ K : Value → GH → Prop, K (.bool (p (xss.getD i []))) G → gCl Try.prog f [.slice (hs i).1 (xss.getD i []).length (hs i).2] G K) {K : Value → GH → Prop}
    (hk : ∀ z : Bool, (z = true ↔ ∃ x ∈ xss, p x = true) → K (.bool z) G) : GC Try.prog 69 [.slice A xss.length c, f] G K := by
  refine c_slices_ContainsFunc_SS_int64_int64_i (by simp) ?_
  simp (maxSteps := 300000) (disch := omega) only [gs, gs2, gs3, gs4, ↓reduceIte, Nat.reduceEqDiff, Int.reduceToNat, Nat.reduceMul, Nat.reduceAdd, Nat.reduceBEq, isLd]
  refine slices_IndexFuncR_ok p h hl hf fun v hv => ?_
  simp (maxSteps := 300000) (disch := omega) only [gs, gs2, gs3, gs4, ↓reduceIte, Nat.reduceEqDiff, Int.reduceToNat, Nat.reduceMul, Nat.reduceAdd, Nat.reduceBEq, isLd]
  exact hk _ (by rw [decide_eq_true_eq]; exact hv)
/-- what is known but for a list's block. -/
def wz (G : GH) (A : Option Addr) : GH := fun x => if A.map (·.block) = some x then none else G x
theorem Sub.wz (G : GH) (A : Option Addr) : Sub (Gh.wz G A) G := fun x e h => by
  unfold Gh.wz at h; split at h
  · cases h
  · exact h
theorem Off.wz (G : GH) (A : Option Addr) : Off (Gh.wz G A) A := fun a ha => by unfold Gh.wz; rw [if_pos (by rw [ha]; rfl)]
theorem wz_ne {G : GH} {A : Option Addr} {x : Nat} (h : ∀ a, A = some a → a.block ≠ x) : wz G A x = G x := by
  unfold wz; rw [if_neg]
  intro y
  cases A with
  | none => cases y
  | some a => simp at y; exact h a rfl y
theorem Own.wz {G : GH} {Z A : Option Addr} {c sz n : Nat} {cs : List Value} (h : Own G A c cs sz n) (hne : ∀ a b, A = some a → Z = some b → a.block ≠ b.block) : Own (Gh.wz G Z) A c cs sz n := by
  rcases h with h | ⟨b, r, rfl, hb, h⟩
  · exact .inl h
  · exact .inr ⟨b, r, rfl, by rw [wz_ne fun a ha x => hne _ a rfl ha x.symm]; exact hb, h⟩
/-- one more list is laid behind the others. -/
theorem OwnR.snoc {G G' : GH} {Z Z' D : Option Addr} {z z' e : Nat} {hs : Nat → Option Addr × Nat} {xss : List (List Int)} {x : List Int} (h : OwnR G Z z hs xss) (hx : Own G D e (x.map I64) 1 x.length) (hZ : ∀ a b, D = some a → Z = some b → a.block ≠ b.block)
    (hR : ∀ i, i < xss.length → ∀ a b, (hs i).1 = some a → D = some b → a.block ≠ b.block) (s : Sub (wz G Z) G') (o : Off (wz G Z) Z')
    (hO : Own G' Z' z' (((List.range xss.length).map fun i => Value.slice (hs i).1 (xss.getD i []).length (hs i).2) ++ [.slice D x.length e]) 1 (xss.length + 1)) : OwnR G' Z' z' (fun i => if i = xss.length then (D, e) else hs i) (xss ++ [x]) := by
  have hg : ∀ i, i < xss.length → (xss ++ [x]).getD i [] = xss.getD i [] := fun i hi => by simp [List.getD, List.getElem?_append_left hi]
  have hgl : (xss ++ [x]).getD xss.length [] = x := by simp [List.getD]
  have hl : (xss ++ [x]).length = xss.length + 1 := by simp
  have offZ : ∀ {A : Option Addr} {c sz n : Nat} {cs : List Value}, Own G A c cs sz n → (∀ a b, A = some a → Z = some b → a.block ≠ b.block) → ∀ a b, A = some a → Z' = some b → a.block ≠ b.block := fun hA hn a b ha hb y => by
    have h1 := own_ne (hA.wz hn) a ha
    have h2 := o b hb
    rw [← y] at h2; exact h1 h2
  refine ⟨?_, fun i hi => ?_, fun i hi => ?_, fun i j hi hj => ?_⟩
  · refine hO.cast ?_ hl.symm
    rw [hl, List.range_succ, List.map_append]
    congr 1
    · exact List.map_congr_left fun i hi => by
        have := List.mem_range.1 hi
        rw [if_neg (by omega), hg i this]
    · simp
  · rw [hl] at hi
    by_cases c : i = xss.length
    · subst c
      simp only [if_true]
      rw [hgl]
      exact (hx.wz hZ).sub s
    · simp only [if_neg c]
      rw [hg i (by omega)]
      exact ((h.row i (by omega)).wz (h.ne i (by omega))).sub s
  · rw [hl] at hi
    by_cases c : i = xss.length
    · subst c
      simp only [if_true]
      exact offZ hx hZ
    · simp only [if_neg c]
      exact offZ (h.row i (by omega)) (h.ne i (by omega))
  · rw [hl] at hi hj
    intro hij
    by_cases ci : i = xss.length
    · subst ci
      have cj : ¬ j = xss.length := fun y => hij y.symm
      simp only [if_true, if_neg cj]
      exact fun a b ha hb y => hR j (by omega) b a hb ha y.symm
    · by_cases cj : j = xss.length
      · subst cj
        simp only [if_true, if_neg ci]
        exact hR i (by omega)
      · simp only [if_neg ci, if_neg cj]
        exact h.inj i j (by omega) (by omega) hij
theorem OwnR.oth {G G' : GH} {S : Nat → Prop} {B : Option Addr} {d : Nat} {hs : Nat → Option Addr × Nat} {xss : List (List Int)} (h : OwnR G B d hs xss) (u : Oth S G G') (hB : ∀ a, B = some a → ¬ S a.block) (hR : ∀ i, i < xss.length → ∀ a, (hs i).1 = some a → ¬ S a.block) : OwnR G' B d hs xss :=
  ⟨h.out.oth u hB, fun i hi => (h.row i hi).oth u (hR i hi), h.ne, h.inj⟩
theorem Oth.put (G : GH) (b : Nat) (e : Ent) : Oth (fun x => x = b) G (Gh.put G b e) := fun x hx => put_ne _ _ hx
/-- the rows that a table which is being made has so far. -/
structure SemG (H G : GH) (b5 : Nat) (A1 : Option Addr) (n c1 : Nat) (Z : Option Addr) (z : Nat) (hs : Nat → Option Addr × Nat) (xss : List (List Int)) : Prop where
  nb : H b5 = none
  sub : Sub (put H b5 ⟨[.slice A1 n c1, .slice Z xss.length z], true⟩) G
  own : OwnR G Z z hs xss
  oZ : Off (put H b5 ⟨[], true⟩) Z
  oR : ∀ i, i < xss.length → Off (put H b5 ⟨[], true⟩) (hs i).1
theorem SemG.up {H G G' : GH} {b5 n c1 z : Nat} {A1 Z : Option Addr} {hs : Nat → Option Addr × Nat} {xss : List (List Int)} (h : SemG H G b5 A1 n c1 Z z hs xss) (s : Sub G G') : SemG H G' b5 A1 n c1 Z z hs xss := ⟨h.nb, h.sub.trans s, h.own.sub s, h.oZ, h.oR⟩
theorem SemG.low {H G : GH} {b5 n c1 z : Nat} {A1 Z : Option Addr} {hs : Nat → Option Addr × Nat} {xss : List (List Int)} (h : SemG H G b5 A1 n c1 Z z hs xss) : Sub H G := (Sub.put h.nb _).trans h.sub
theorem Off.ne {H : GH} {b : Nat} {e : Ent} {A : Option Addr} (h : Off (Gh.put H b e) A) : ∀ a, A = some a → a.block ≠ b := fun a ha x => by
  have := h a ha; rw [x, put_same] at this; cases this
theorem Off.pute {H : GH} {b : Nat} {e e' : Ent} {A : Option Addr} (h : Off (Gh.put H b e) A) : Off (Gh.put H b e') A := fun a ha => by
  have h1 := h a ha
  have h2 := h.ne a ha
  rw [put_ne _ _ h2] at h1 ⊢; exact h1
theorem SemG.add {H G : GH} {b5 n c1 z bs e : Nat} {A1 Z D : Option Addr} {hs : Nat → Option Addr × Nat} {xss : List (List Int)} {x : List Int} (h : SemG H G b5 A1 n c1 Z z hs xss) (hD : Own G D e (x.map I64) 1 x.length) (oD : Off (put H b5 ⟨[], true⟩) D)
    (nZ : ∀ a b, D = some a → Z = some b → a.block ≠ b.block) (nR : ∀ i, i < xss.length → ∀ a b, (hs i).1 = some a → D = some b → a.block ≠ b.block) (hb : G bs = some ⟨[.slice D x.length e], true⟩) (hl : xss.length < 2 ^ 30) {K : Value → GH → Prop}
    (hK : ∀ G4 Z' z', Sub (wz G Z) G4 → Sub H G4 → (∀ K' : Value → GH → Prop, (∀ G5 hs', SemG H G5 b5 A1 n c1 Z' z' hs' (xss ++ [x]) → K' undef G5) → gSt 1 (.pointer (some ⟨b5, 1, none⟩)) (.slice Z' (xss.length + 1) z') G4 K') → K (.slice Z' (xss.length + 1) z') G4) :
    gAp 1 24 [.slice none 0 0] (.slice Z xss.length z) (.slice (some ⟨bs, 0, none⟩) 1 1) G K := by
  refine ap_own h.own.out (Own.blk (n := 1) (sz := 1) hb rfl).cells (by rfl) (by intro v hv; simp at hv; subst hv; rfl) rfl (by omega) (by omega) (by omega) fun G4 Z' z' hO keep => ?_
  obtain ⟨s4, o4⟩ := keep _ (Sub.wz G Z) (Off.wz G Z)
  have sw : ∀ {e : Ent}, Sub (put H b5 e) G → Sub (put H b5 e) (wz G Z) := fun {e} s y f hy => by
    rw [wz_ne fun a ha => fun q => by
      have := (h.oZ.pute (e' := e)) a ha
      rw [q, hy] at this; cases this]
    exact s y f hy
  have s5 := (sw h.sub).trans s4
  refine hK G4 Z' z' s4 ((Sub.put h.nb _).trans s5) fun K' hK' => ?_
  have hbox : G4 b5 = some ⟨[.slice A1 n c1, .slice Z xss.length z], true⟩ := s5 _ _ (put_same _ _ _)
  have oZ' : Off (put H b5 ⟨[], true⟩) Z' := (o4.mono (sw h.sub)).pute
  have hR' := h.own.snoc hD nZ nR s4 o4 hO
  have oR' : ∀ i, i < (xss ++ [x]).length → Off (put H b5 ⟨[], true⟩) ((fun i => if i = xss.length then (D, e) else hs i) i).1 := fun i hi => by
    rw [List.length_append, List.length_singleton] at hi
    by_cases c : i = xss.length
    · simp only [if_pos c]; exact oD
    · simp only [if_neg c]; exact h.oR i (by omega)
  refine st_one hbox (by simp) rfl (hK' _ _ ⟨h.nb, fun y f hy => ?_, hR'.oth (Oth.put _ _ _) (oZ'.ne) fun i hi a ha => (oR' i hi).ne a ha, oZ', oR'⟩)
  by_cases c : y = b5
  · subst c
    rw [put_same] at hy ⊢
    rw [← hy, List.length_append]; rfl
  · rw [put_ne _ _ c] at hy ⊢
    exact s5 _ _ (by rw [put_ne _ _ c]; exact hy)
theorem TabP.rd {G : GH} {q : Option Addr} {N : Tab} {A B : Option Addr} {c d : Nat} {hs : Nat → Option Addr × Nat} (h : TabP G q N A c B d hs) : rd G q = some (.slice A N.cols.length c) ∧ rd G (pa q 1) = some (.slice B N.rows.length d) := ⟨h.f0, h.f1⟩
/-- rows of a table as long as it has columns. -/
def RowL (N : Tab) : Prop := ∀ i, i < N.rows.length → (N.rows.getD i []).length = N.cols.length
theorem impl_semiJoin_fn1_ok {G : GH} {q q' r : Option Addr} {a b : Tab} {A B A' B' D D' : Option Addr} {c d c' d' e e' : Nat} {hs hs' : Nat → Option Addr × Nat} {x y : List Int} (h : TabP G q a A c B d hs) (h' : TabP G q' b A' c' B' d' hs') (hr : rd G r = some (.slice D x.length e)) (hx : IntS G D e x) (hy : IntS G D' e' y)
    (hl : a.cols.length < 2 ^ 30) (hl' : b.cols.length < 2 ^ 30) (hxl : x.length = a.cols.length) (hyl : y.length = b.cols.length) {K : Value → GH → Prop}
    (hk : ∀ z : Bool, (z = true ↔ FitP a.cols b.cols x y) → K (.bool z) G) : GC Try.prog 70 [.slice D' y.length e', .pointer q, .pointer q', .pointer r] G K := by
  refine c_impl_semiJoin_fn1_i (by simp) ?_
  simp (maxSteps := 300000) (disch := omega) only [gs, gs2, gs3, gs4, ↓reduceIte, Nat.reduceEqDiff, Int.reduceToNat, Nat.reduceMul, Nat.reduceAdd, Nat.reduceBEq, isLd, h.f0, h.f1, h'.f0, h'.f1, hr]
  refine impl_fit_ok (a := a) (b := b) (B := B) (d := d) (B' := B') (d' := d') h.cols h'.cols hx hy hl hl' hxl hyl fun z hz => ?_
  simp (maxSteps := 300000) (disch := omega) only [gs, gs2, gs3, gs4, ↓reduceIte, Nat.reduceEqDiff, Int.reduceToNat, Nat.reduceMul, Nat.reduceAdd, Nat.reduceBEq, isLd]
  exact hk z hz
theorem Own.rest {G G' : GH} {A : Option Addr} {c sz n : Nat} {cs : List Value} (h : Own G' A c cs sz n) (o : Off G A) : Own (Gh.rest G G') A c cs sz n := by
  rcases h with h | ⟨b, r, rfl, hb, h⟩
  · exact .inl h
  · exact .inr ⟨b, r, rfl, rest_some.2 ⟨o _ rfl, hb⟩, h⟩
theorem OwnR.rest {G G' : GH} {B : Option Addr} {d : Nat} {hs : Nat → Option Addr × Nat} {xss : List (List Int)} (h : OwnR G' B d hs xss) (o : Off G B) (oR : ∀ i, i < xss.length → Off G (hs i).1) : OwnR (Gh.rest G G') B d hs xss := ⟨h.out.rest o, fun i hi => (h.row i hi).rest (oR i hi), h.ne, h.inj⟩
theorem semi_take {a : Tab} {P : List Int → Bool} {k : Nat} (hk : k < a.rows.length) : (a.rows.take (k + 1)).filter P = if P (a.rows.getD k []) = true then (a.rows.take k).filter P ++ [a.rows.getD k []] else (a.rows.take k).filter P := by
  rw [List.take_succ_eq_append_getElem hk, List.filter_append]
  have e : a.rows.getD k [] = a.rows[k] := by simp [List.getD, hk]
  rw [e]
  by_cases h : P a.rows[k] = true
  · rw [if_pos h]; simp [h]
  · rw [if_neg h]; simp [h]
/-- the table that is made, when it is taken out of its box. -/
theorem SemG.newT {G H G' G'' : GH} {b5 c1 z : Nat} {A1 Z : Option Addr} {hs : Nat → Option Addr × Nat} {N : Tab} (h : SemG H G' b5 A1 N.cols.length c1 Z z hs N.rows) (s : Sub G H) (hA : Own H A1 c1 (N.cols.map I64) 1 N.cols.length) (oA : Off G A1)
    (s' : Sub G G'') {S : Nat → Prop} (u : Oth S G' G'') (uA : ∀ a, A1 = some a → ¬ S a.block) (uH : ∀ x, S x → H x ≠ none) : NewT G G'' N A1 c1 Z z hs := by
  have oH : ∀ {A : Option Addr}, Off (put H b5 ⟨[], true⟩) A → Off H A := fun o => o.mono (Sub.put h.nb _)
  have oS : ∀ {A : Option Addr}, Off (put H b5 ⟨[], true⟩) A → ∀ a, A = some a → ¬ S a.block := fun o a ha y => uH _ y (oH o a ha)
  have key : ∀ {A : Option Addr}, Off (put H b5 ⟨[], true⟩) A → ∀ a b, A1 = some a → A = some b → a.block ≠ b.block := fun o a b ha hb y => by
    have := oH o b hb
    rw [← y] at this
    exact own_ne hA a ha this
  exact ⟨s', ⟨((hA.sub h.low).oth u uA).rest oA, (h.own.oth u (oS h.oZ) fun i hi => oS (h.oR i hi)).rest ((oH h.oZ).mono s) fun i hi => (oH (h.oR i hi)).mono s, key h.oZ, fun i hi => key (h.oR i hi)⟩⟩
open Classical in
theorem impl_semiJoin_ok {G : GH} {a b : Tab} {A B A' B' : Option Addr} {c d c' d' : Nat} {hs hs' : Nat → Option Addr × Nat} (h : IntS G A c a.cols) (hr : RowS G B d hs a.rows) (h' : IntS G A' c' b.cols) (hr' : RowS G B' d' hs' b.rows) (hl : a.cols.length < 2 ^ 30) (hl' : b.cols.length < 2 ^ 30) (ra : RowL a) (rb : RowL b) (na : a.rows.length < 2 ^ 20) (nb : b.rows.length < 2 ^ 20)
    {K : Value → GH → Prop} (hk : ∀ G' X x Y y hs'', NewT G G' (semiT a b) X x Y y hs'' → K (tabV (semiT a b) X x Y y) G') : GC Try.prog 37 [tabV a A c B d, tabV b A' c' B' d'] G K := by
  refine GC_drop (c_impl_semiJoin_i (by simp) ?_)
  unfold tabV tabC
  simp (maxSteps := 300000) (disch := omega) only [gs, gs2, gs3, gs4, ↓reduceIte, Nat.reduceEqDiff, Int.reduceToNat, Nat.reduceMul, Nat.reduceAdd, Nat.reduceBEq, isLd]
  intro b2 hb2
  have p2 := TabP.box hb2 h hr
  have s2 := Sub.put hb2 ⟨tabC a A c B d, true⟩
  unfold tabC at p2 s2
  simp (maxSteps := 300000) (disch := omega) only [gs, gs2, gs3, gs4, ↓reduceIte, Nat.reduceEqDiff, Int.reduceToNat, Nat.reduceMul, Nat.reduceAdd, Nat.reduceBEq, isLd]
  intro b3 hb3
  have p3 := TabP.box hb3 (h'.sub s2) (hr'.sub s2)
  have s3 := Sub.put hb3 ⟨tabC b A' c' B' d', true⟩
  unfold tabC at p3 s3
  have p2 := p2.sub s3
  have s1 := s2.trans s3
  revert s1 p2 p3
  generalize put (put G b2 ⟨[.slice A a.cols.length c, .slice B a.rows.length d], true⟩) b3 ⟨[.slice A' b.cols.length c', .slice B' b.rows.length d'], true⟩ = G1
  intro p3 p2 s1
  clear hb2 hb3 s2 s3
  simp (maxSteps := 300000) (disch := omega) only [gs, gs2, gs3, gs4, ↓reduceIte, Nat.reduceEqDiff, Int.reduceToNat, Nat.reduceMul, Nat.reduceAdd, Nat.reduceBEq, isLd]
  intro b4 hb4
  have s4 := Sub.put hb4 ⟨[.slice none 0 0, .slice none 0 0], true⟩
  have g4 := put_same G1 b4 ⟨[.slice none 0 0, .slice none 0 0], true⟩
  have p2 := p2.sub s4
  have p3 := p3.sub s4
  have s1' := s1.trans s4
  have n4 : G b4 = none := s1.none hb4
  revert s1' p2 p3 g4
  generalize put G1 b4 ⟨[.slice none 0 0, .slice none 0 0], true⟩ = G2
  intro g4 p2 p3 s1'
  clear s4
  simp (maxSteps := 300000) (disch := omega) only [gs, gs2, gs3, gs4, ↓reduceIte, Nat.reduceEqDiff, Int.reduceToNat, Nat.reduceMul, Nat.reduceAdd, Nat.reduceBEq, isLd, p2.f0, p2.f1, p3.f0, p3.f1]
  refine slices_Clone_ok p2.cols hl fun H A1 c1 hN1 => ?_
  have p2 := p2.sub hN1.sub
  have p3 := p3.sub hN1.sub
  have g4' := hN1.sub _ _ g4
  have hbl : bldV [Value.slice none 0 0, Value.slice none 0 0] [(0, 1, Value.slice A1 a.cols.length c1)] = some [Value.slice A1 a.cols.length c1, .slice none 0 0] := rfl
  simp (maxSteps := 300000) (disch := omega) only [gs, gs2, gs3, gs4, ↓reduceIte, Nat.reduceEqDiff, Int.reduceToNat, Nat.reduceMul, Nat.reduceAdd, Nat.reduceBEq, isLd, hbl]
  intro b5 hb5
  simp (maxSteps := 300000) (disch := omega) only [gs, gs2, gs3, gs4, ↓reduceIte, Nat.reduceEqDiff, Int.reduceToNat, Nat.reduceMul, Nat.reduceAdd, Nat.reduceBEq, isLd]
  refine st_fresh (vs := [.slice A1 a.cols.length c1, .slice none 0 0]) rfl rfl rfl (by intro v hv; simp at hv; rcases hv with rfl | rfl <;> rfl) ?_
  have hX0 : SemG H (put H b5 ⟨[.slice A1 a.cols.length c1, .slice none 0 0], true⟩) b5 A1 a.cols.length c1 none 0 (fun _ => (none, 0)) [] := ⟨hb5, Sub.refl _, OwnR.nil _ _, Off.nil _, fun i hi => by simp at hi⟩
  have sH := s1'.trans hN1.sub
  have hA1 : Own H A1 c1 (a.cols.map I64) 1 a.cols.length := hN1.fresh
  have oA1 : Off G A1 := hN1.off.mono s1'
  have n41 : ∀ x, A1 = some x → x.block ≠ b4 := fun x hx y => by have := hN1.off x hx; rw [y, g4] at this; cases this
  clear hN1 g4
  generalize put H b5 ⟨[.slice A1 a.cols.length c1, .slice none 0 0], true⟩ = G3 at hX0 ⊢
  have fb : ∀ {G' : GH} {q : Nat} {N : Tab} {A B : Option Addr} {c d : Nat} {hs : Nat → Option Addr × Nat}, TabP G' (some ⟨q, 0, none⟩) N A c B d hs → rd G' (some ⟨q, 1, none⟩) = some (.slice B N.rows.length d) := fun h => by
    have := h.f1; rwa [pa_mk] at this
  have q2 := p2.sub hX0.low
  simp (maxSteps := 300000) (disch := omega) only [gs, gs2, gs3, gs4, ↓reduceIte, Nat.reduceEqDiff, Int.reduceToNat, Nat.reduceMul, Nat.reduceAdd, Nat.reduceBEq, isLd, q2.f0, fb q2]
  refine gLoop_intro (fun m T G' => ∃ (k : Nat) (Z : Option Addr) (z : Nat) (hz : Nat → Option Addr × Nat), T 2 = .pointer (some ⟨b2, 0, none⟩) ∧ T 3 = .pointer (some ⟨b3, 0, none⟩) ∧ T 4 = .pointer (some ⟨b4, 0, none⟩) ∧ T 5 = .pointer (some ⟨b5, 0, none⟩) ∧ T 13 = .slice B a.rows.length d ∧ T 14 = .int .i64 a.rows.length ∧ T 15 = .int .i64 k ∧ m + k = a.rows.length ∧ k ≤ a.rows.length ∧
      SemG H G' b5 A1 a.cols.length c1 Z z hz ((a.rows.take k).filter fun x => decide (∃ y ∈ b.rows, FitP a.cols b.cols x y))) a.rows.length
    ⟨0, none, 0, _, by simp (maxSteps := 300000) (disch := omega) only [gs, gs2, gs3, gs4, ↓reduceIte, Nat.reduceEqDiff, Int.reduceToNat, Nat.reduceMul, Nat.reduceAdd, Nat.reduceBEq, isLd], by simp (maxSteps := 300000) (disch := omega) only [gs, gs2, gs3, gs4, ↓reduceIte, Nat.reduceEqDiff, Int.reduceToNat, Nat.reduceMul, Nat.reduceAdd, Nat.reduceBEq, isLd], by simp (maxSteps := 300000) (disch := omega) only [gs, gs2, gs3, gs4, ↓reduceIte, Nat.reduceEqDiff, Int.reduceToNat, Nat.reduceMul, Nat.reduceAdd, Nat.reduceBEq, isLd], by simp (maxSteps := 300000) (disch := omega) only [gs, gs2, gs3, gs4, ↓reduceIte, Nat.reduceEqDiff, Int.reduceToNat, Nat.reduceMul, Nat.reduceAdd, Nat.reduceBEq, isLd], by simp (maxSteps := 300000) (disch := omega) only [gs, gs2, gs3, gs4, ↓reduceIte, Nat.reduceEqDiff, Int.reduceToNat, Nat.reduceMul, Nat.reduceAdd, Nat.reduceBEq, isLd], by simp (maxSteps := 300000) (disch := omega) only [gs, gs2, gs3, gs4, ↓reduceIte, Nat.reduceEqDiff, Int.reduceToNat, Nat.reduceMul, Nat.reduceAdd, Nat.reduceBEq, isLd], by simp (maxSteps := 300000) (disch := omega) only [gs, gs2, gs3, gs4, ↓reduceIte, Nat.reduceEqDiff, Int.reduceToNat, Nat.reduceMul, Nat.reduceAdd, Nat.reduceBEq, isLd] <;> rfl, by omega, by omega, hX0⟩ ?_
  clear hX0 q2
  rintro m T G' ⟨k, Z, z, hz, e2, e3, e4, e5, e13, e14, e15, hm, hkl, hX⟩
  simp (maxSteps := 300000) (disch := omega) only [gs, gs2, gs3, gs4, ↓reduceIte, Nat.reduceEqDiff, Int.reduceToNat, Nat.reduceMul, Nat.reduceAdd, Nat.reduceBEq, isLd, e2, e3, e4, e5, e13, e14, e15]
  have hlen : ((a.rows.take k).filter fun x => decide (∃ y ∈ b.rows, FitP a.cols b.cols x y)).length ≤ k := Nat.le_trans (List.length_filter_le _ _) (by rw [List.length_take]; omega)
  by_cases hkk : (k : Int) < a.rows.length
  · have q2 := p2.sub hX.low
    have q3 := p3.sub hX.low
    have rk := q2.rows.r k (by omega)
    have hsB := q2.rows.sn (by omega)
    simp (maxSteps := 300000) (disch := omega) only [gs, gs2, gs3, gs4, ↓reduceIte, Nat.reduceEqDiff, Int.reduceToNat, Nat.reduceMul, Nat.reduceAdd, Nat.reduceBEq, isLd, e2, e3, e4, e5, e13, e14, e15, hkk, rk]
    intro b7 hb7
    simp (maxSteps := 300000) (disch := omega) only [gs, gs2, gs3, gs4, ↓reduceIte, Nat.reduceEqDiff, Int.reduceToNat, Nat.reduceMul, Nat.reduceAdd, Nat.reduceBEq, isLd]
    refine st_one (put_same _ _ _) (by simp) rfl ?_
    rw [put_put', List.set_cons_zero]
    have s7 := Sub.put hb7 ⟨[.slice (hs k).1 (a.rows.getD k []).length (hs k).2], true⟩
    have f7 : rd (put G' b7 ⟨[.slice (hs k).1 (a.rows.getD k []).length (hs k).2], true⟩) (some ⟨b7, 0, none⟩) = some (.slice (hs k).1 (a.rows.getD k []).length (hs k).2) := rd_box _ _ _ 0 _ rfl
    have hX7 := hX.up s7
    have nZ7 : ∀ z', Z = some z' → z'.block ≠ b7 := fun z' hz' y => by have := own_ne hX.own.out z' hz'; rw [y, hb7] at this; exact this rfl
    revert s7 f7 hX7
    generalize put G' b7 ⟨[.slice (hs k).1 (a.rows.getD k []).length (hs k).2], true⟩ = G7
    intro s7 f7 hX7
    have q2 := q2.sub s7
    have q3 := q3.sub s7
    have hxl := ra k (by omega)
    simp (maxSteps := 300000) (disch := omega) only [gs, gs2, gs3, gs4, ↓reduceIte, Nat.reduceEqDiff, Int.reduceToNat, Nat.reduceMul, Nat.reduceAdd, Nat.reduceBEq, isLd, e2, e3, e4, e5, e13, e14, e15, fb q3]
    refine slices_ContainsFuncR_ok (fun y => decide (FitP a.cols b.cols (a.rows.getD k []) y)) q3.rows (by omega) (fun i hi K' hk' => ?_) fun zz hzz => ?_
    · simp (maxSteps := 300000) (disch := omega) only [gs, gs2, gs3, gs4, ↓reduceIte, Nat.reduceEqDiff, Int.reduceToNat, Nat.reduceMul, Nat.reduceAdd, Nat.reduceBEq, isLd]
      refine impl_semiJoin_fn1_ok q2 q3 f7 (q2.rows.row k (by omega)) (q3.rows.row i hi) hl hl' hxl (rb i hi) fun w hw => ?_
      have : w = decide (FitP a.cols b.cols (a.rows.getD k []) (b.rows.getD i [])) := Bool.eq_iff_iff.2 (by rw [hw, decide_eq_true_eq])
      subst this
      exact hk'
    · have hzz' : zz = decide (∃ y ∈ b.rows, FitP a.cols b.cols (a.rows.getD k []) y) := Bool.eq_iff_iff.2 (by rw [hzz, decide_eq_true_eq]; simp)
      have htk := semi_take (a := a) (P := fun x => decide (∃ y ∈ b.rows, FitP a.cols b.cols x y)) (k := k) (by omega)
      rw [← hzz'] at htk
      clear hzz hzz'
      cases zz
      · rw [if_neg (by simp)] at htk
        simp (maxSteps := 300000) (disch := omega) only [gs, gs2, gs3, gs4, ↓reduceIte, Nat.reduceEqDiff, Int.reduceToNat, Nat.reduceMul, Nat.reduceAdd, Nat.reduceBEq, isLd, e2, e3, e4, e5, e13, e14, e15]
        exact ⟨m - 1, by omega, G7, Sub.refl _, k + 1, Z, z, hz, rfl, by omega, by omega, by rw [htk]; exact hX7⟩
      · rw [if_pos rfl] at htk
        have f50 : rd G7 (some ⟨b5, 1, none⟩) = some (.slice Z ((a.rows.take k).filter fun x => decide (∃ y ∈ b.rows, FitP a.cols b.cols x y)).length z) := rd_sub hX7.sub (rd_box _ _ _ 1 _ rfl)
        simp (maxSteps := 300000) (disch := omega) only [gs, gs2, gs3, gs4, ↓reduceIte, Nat.reduceEqDiff, Int.reduceToNat, Nat.reduceMul, Nat.reduceAdd, Nat.reduceBEq, isLd, e2, e3, e4, e5, e13, e14, e15, f50, f7]
        refine slices_Clone_ok (q2.rows.row k (by omega)) (by omega) fun G8 D8 d8 hN8 => ?_
        have g50 := rd_sub hN8.sub f50
        have g7 := rd_sub hN8.sub f7
        simp (maxSteps := 300000) (disch := omega) only [gs, gs2, gs3, gs4, ↓reduceIte, Nat.reduceEqDiff, Int.reduceToNat, Nat.reduceMul, Nat.reduceAdd, Nat.reduceBEq, isLd, e2, e3, e4, e5, e13, e14, e15, g50, g7, gBs]
        refine ⟨by intro v hv; simp at hv; subst hv; rfl, fun bs hbs => ?_⟩
        have s9 := Sub.put hbs ⟨[.slice D8 (a.rows.getD k []).length d8], true⟩
        refine ⟨⟨rd_sub s9 g7, rd_sub s9 g50⟩, ?_⟩
        have s79 := hN8.sub.trans s9
        have hDo : ∀ x, D8 = some x → G7 x.block = none := hN8.off
        refine SemG.add (hX7.up s79) (hN8.fresh.sub s9) ((hN8.off.mono hX7.sub).pute) (fun x y hx hy q => ?_) (fun i hi x y hx hy q => ?_) (put_same _ _ _) (by omega) fun G4 Z' z' s4 _ hst => ?_
        · have := own_ne hX7.own.out y hy
          rw [← q, hDo x hx] at this; exact this rfl
        · have := own_ne (hX7.own.row i hi) x hx
          rw [q, hDo y hy] at this; exact this rfl
        · have f74 : rd G4 (some ⟨b7, 0, none⟩) = some (.slice (hs k).1 (a.rows.getD k []).length (hs k).2) := by
            refine rd_sub s4 ?_
            have := rd_sub s9 g7
            simp only [rd] at this ⊢
            rw [wz_ne nZ7]; exact this
          simp (maxSteps := 300000) (disch := omega) only [gs, gs2, gs3, gs4, ↓reduceIte, Nat.reduceEqDiff, Int.reduceToNat, Nat.reduceMul, Nat.reduceAdd, Nat.reduceBEq, isLd, e2, e3, e4, e5, e13, e14, e15, f74]
          refine hst _ fun G5 hs5 hX5 => ?_
          simp (maxSteps := 300000) (disch := omega) only [gs, gs2, gs3, gs4, ↓reduceIte, Nat.reduceEqDiff, Int.reduceToNat, Nat.reduceMul, Nat.reduceAdd, Nat.reduceBEq, isLd, e2, e3, e4, e5, e13, e14, e15]
          exact ⟨m - 1, by omega, G5, Sub.refl _, k + 1, Z', z', hs5, rfl, by omega, by omega, by rw [htk]; exact hX5⟩
  · obtain rfl : k = a.rows.length := by omega
    rw [List.take_length] at hX
    have f50 : rd G' (some ⟨b5, 0, none⟩) = some (.slice A1 a.cols.length c1) := rd_sub hX.sub (rd_box _ _ _ 0 _ rfl)
    have f51 : rd G' (some ⟨b5, 1, none⟩) = some (.slice Z (a.rows.filter fun x => decide (∃ y ∈ b.rows, FitP a.cols b.cols x y)).length z) := rd_sub hX.sub (rd_box _ _ _ 1 _ rfl)
    simp (maxSteps := 300000) (disch := omega) only [gs, gs2, gs3, gs4, ↓reduceIte, Nat.reduceEqDiff, Int.reduceToNat, Nat.reduceMul, Nat.reduceAdd, Nat.reduceBEq, isLd, e2, e3, e4, e5, e13, e14, e15, hkk, f50, f51]
    refine st_many (vs := [.slice A1 a.cols.length c1, .slice Z (a.rows.filter fun x => decide (∃ y ∈ b.rows, FitP a.cols b.cols x y)).length z]) rfl (hX.low _ _ g4') rfl (by simp) (by intro v hv; simp at hv; rcases hv with rfl | rfl <;> rfl) ?_
    simp only [over, List.set_cons_zero, List.set_cons_succ]
    have k0 : rd (put G' b4 ⟨[.slice A1 a.cols.length c1, .slice Z (a.rows.filter fun x => decide (∃ y ∈ b.rows, FitP a.cols b.cols x y)).length z], true⟩) (some ⟨b4, 0, none⟩) = some (.slice A1 a.cols.length c1) := rd_box _ _ _ 0 _ rfl
    have k1 : rd (put G' b4 ⟨[.slice A1 a.cols.length c1, .slice Z (a.rows.filter fun x => decide (∃ y ∈ b.rows, FitP a.cols b.cols x y)).length z], true⟩) (some ⟨b4, 1, none⟩) = some (.slice Z (a.rows.filter fun x => decide (∃ y ∈ b.rows, FitP a.cols b.cols x y)).length z) := rd_box _ _ _ 1 _ rfl
    simp (maxSteps := 300000) (disch := omega) only [gs, gs2, gs3, gs4, ↓reduceIte, Nat.reduceEqDiff, Int.reduceToNat, Nat.reduceMul, Nat.reduceAdd, Nat.reduceBEq, isLd, e4, k0, k1]
    exact ⟨_, Sub.refl _, hk _ _ _ _ _ _ (hX.newT (N := semiT a b) sH hA1 oA1 ((sH.trans hX.low).skip n4) (Oth.put _ _ _) n41 (fun x hx => by subst hx; rw [g4']; simp))⟩
/-- a row's cells in some columns. -/
def prj (cs wanted row : List Int) : List Int := wanted.map (cellAt cs row)
theorem prj_len (cs wanted row : List Int) : (prj cs wanted row).length = wanted.length := by simp [prj]
def projT (t : Tab) (wanted : List Int) : Tab := ⟨wanted, srt (t.rows.map (prj t.cols wanted))⟩
theorem map_take {α β : Type} [Inhabited α] {f : α → β} {xs : List α} {k : Nat} {d : α} (hk : k < xs.length) : (xs.take (k + 1)).map f = (xs.take k).map f ++ [f (xs.getD k d)] := by
  rw [List.take_succ_eq_append_getElem hk, List.map_append]; simp [List.getD, hk]
theorem Sub.wz_mono {G G' : GH} {Z : Option Addr} (s : Sub G G') : Sub (Gh.wz G Z) (Gh.wz G' Z) := fun y e h => by
  unfold Gh.wz at h ⊢
  split at h
  · cases h
  · next c => rw [if_neg c]; exact s y e h
def old (hs : Nat → Option Addr × Nat) (xss : List (List Int)) (i : Nat) : Value × List Int := (.slice (hs i).1 (xss.getD i []).length (hs i).2, xss.getD i [])
/-- rows taken from a list, with a new one among them. -/
structure PutI (G G' : GH) (Z : Option Addr) (z : Nat) (hs : Nat → Option Addr × Nat) (xss : List (List Int)) (x : List Int) (E : List (Value × List Int)) : Prop where
  sub : Sub G G'
  off : Off G Z
  own : Own G' Z z (E.map (·.1)) 1 E.length
  ent : ∀ e ∈ E, (∃ i, i < xss.length ∧ e = old hs xss i) ∨ ∃ D d, e = (.slice D x.length d, x) ∧ Off G D ∧ Own (wz G' Z) D d (x.map I64) 1 x.length
theorem PutI.up {G G' G'' : GH} {Z : Option Addr} {z : Nat} {hs : Nat → Option Addr × Nat} {xss : List (List Int)} {x : List Int} {E : List (Value × List Int)} (h : PutI G G' Z z hs xss x E) (s : Sub G' G'') : PutI G G'' Z z hs xss x E :=
  ⟨h.sub.trans s, h.off, h.own.sub s, fun e he => (h.ent e he).imp id fun ⟨D, d, a, b, c⟩ => ⟨D, d, a, b, c.sub (Sub.wz_mono s)⟩⟩
theorem PutI.push {G G' : GH} {Z : Option Addr} {z bs : Nat} {hs : Nat → Option Addr × Nat} {xss : List (List Int)} {x : List Int} {E : List (Value × List Int)} {e : Value × List Int} (h : PutI G G' Z z hs xss x E)
    (hv : (∃ i, i < xss.length ∧ e = old hs xss i) ∨ ∃ D d, e = (.slice D x.length d, x) ∧ Off G D ∧ Own G' D d (x.map I64) 1 x.length ∧ ∀ a b, D = some a → Z = some b → a.block ≠ b.block)
    (hb : G' bs = some ⟨[e.1], true⟩) (hl : E.length < 2 ^ 30) {K : Value → GH → Prop} (hK : ∀ G4 Z' z', PutI G G4 Z' z' hs xss x (E ++ [e]) → K (.slice Z' (E.length + 1) z') G4) :
    gAp 1 24 [.slice none 0 0] (.slice Z E.length z) (.slice (some ⟨bs, 0, none⟩) 1 1) G' K := by
  have h1 : oneB e.1 = true := by
    rcases hv with ⟨i, _, rfl⟩ | ⟨D, d, rfl, _⟩ <;> rfl
  refine ap_own h.own (Own.blk (n := 1) (sz := 1) hb rfl).cells (by rfl) (by intro v hv; simp at hv; subst hv; exact h1) rfl (by omega) (by omega) (by omega) fun G4 Z' z' hO keep => ?_
  obtain ⟨s4, o4⟩ := keep _ (Sub.wz G' Z) (Off.wz G' Z)
  obtain ⟨s0, o0⟩ := keep G h.sub h.off
  have key : ∀ {D : Option Addr} {d sz n : Nat} {cs : List Value}, Own (wz G' Z) D d cs sz n → Own (wz G4 Z') D d cs sz n := fun hw => (hw.sub s4).wz fun a b ha hb q => by
    have h1 := own_ne hw a ha
    have h2 := o4 b hb
    rw [← q] at h2; exact h1 h2
  refine hK G4 Z' z' ⟨s0, o0, hO.cast (by simp) (by simp), fun e' he' => ?_⟩
  rcases List.mem_append.1 he' with he' | he'
  · exact (h.ent e' he').imp id fun ⟨D, d, a, b, c⟩ => ⟨D, d, a, b, key c⟩
  · rw [List.mem_singleton] at he'
    subst he'
    exact hv.imp id fun ⟨D, d, a, b, c, n⟩ => ⟨D, d, a, b, key (c.wz n)⟩
def VB : Value → Option Addr × Nat
  | .slice A _ d => (A, d)
  | _ => (none, 0)
theorem PutI.fin {G G' : GH} {Z Z0 : Option Addr} {z z0 : Nat} {hs : Nat → Option Addr × Nat} {xss : List (List Int)} {x : List Int} {E : List (Value × List Int)} (h : PutI G G' Z z hs xss x E) (ho : OwnR G Z0 z0 hs xss) (ha : Asc (E.map (·.2))) :
    ∃ hs', OwnR G' Z z hs' (E.map (·.2)) ∧ ∀ p, p < E.length → (∃ i, i < xss.length ∧ hs' p = hs i) ∨ Off G (hs' p).1 := by
  have hg : ∀ p, p < E.length → ∃ e, E[p]? = some e ∧ e ∈ E := fun p hp => ⟨E[p], List.getElem?_eq_getElem hp, List.getElem_mem hp⟩
  have hc : ∀ p, p < E.length → ∃ e, E[p]? = some e ∧ (E.map (·.2)).getD p [] = e.2 ∧ VB (E.getD p (.bool false, [])).1 = VB e.1 ∧ ((∃ i, i < xss.length ∧ e = old hs xss i) ∨ ∃ D d, e = (.slice D x.length d, x) ∧ Off G D ∧ Own (wz G' Z) D d (x.map I64) 1 x.length) := fun p hp => by
    obtain ⟨e, he, hm⟩ := hg p hp
    exact ⟨e, he, by rw [List.getD, List.getElem?_map, he]; rfl, by rw [List.getD, he]; rfl, h.ent e hm⟩
  refine ⟨fun p => VB (E.getD p (.bool false, [])).1, ⟨h.own.cast ?_ (by simp), fun p hp => ?_, fun p hp => ?_, fun p q hp hq hpq => ?_⟩, fun p hp => ?_⟩
  · apply List.ext_getElem?
    intro p
    rw [List.length_map, List.getElem?_map, List.getElem?_map]
    by_cases hp : p < E.length
    · obtain ⟨e, h1, h2, h3, h4⟩ := hc p hp
      rw [h1, List.getElem?_range hp, Option.map_some, Option.map_some, h2, h3]
      rcases h4 with ⟨i, _, rfl⟩ | ⟨D, d, rfl, _⟩ <;> rfl
    · rw [List.getElem?_eq_none (by omega), List.getElem?_eq_none (by simpa using hp)]; rfl
  · rw [List.length_map] at hp
    obtain ⟨e, h1, h2, h3, h4⟩ := hc p hp
    rw [h2, h3]
    rcases h4 with ⟨i, hi, rfl⟩ | ⟨D, d, rfl, _, hw⟩
    · exact (ho.row i hi).sub h.sub
    · exact hw.sub (Sub.wz _ _)
  · rw [List.length_map] at hp
    obtain ⟨e, h1, h2, h3, h4⟩ := hc p hp
    rw [h3]
    intro a b hA hB q
    rcases h4 with ⟨i, hi, rfl⟩ | ⟨D, d, rfl, _, hw⟩
    · have k1 := own_ne (ho.row i hi) a hA
      have k2 := h.off b hB
      rw [← q] at k2; exact k1 k2
    · have k1 := own_ne hw a hA
      have k2 := Off.wz G' Z b hB
      rw [← q] at k2; exact k1 k2
  · rw [List.length_map] at hp hq
    obtain ⟨e, h1, h2, h3, h4⟩ := hc p hp
    obtain ⟨f, k1, k2, k3, k4⟩ := hc q hq
    rw [h3, k3]
    have hne : e.2 ≠ f.2 := fun y => by
      have hP := List.pairwise_iff_getElem.1 ha
      have gp : (E.map (·.2)).getD p [] = (E.map (·.2))[p]'(by simpa using hp) := by simp [List.getD, hp]
      have gq : (E.map (·.2)).getD q [] = (E.map (·.2))[q]'(by simpa using hq) := by simp [List.getD, hq]
      rw [← h2, ← k2, gp, gq] at y
      rcases Nat.lt_or_gt_of_ne hpq with k | k
      · have := hP p q (by simpa using hp) (by simpa using hq) k; rw [y, lexC_self] at this; omega
      · have := hP q p (by simpa using hq) (by simpa using hp) k; rw [y, lexC_self] at this; omega
    intro a b hA hB r
    rcases h4 with ⟨i, hi, rfl⟩ | ⟨D, d, rfl, oD, hw⟩ <;> rcases k4 with ⟨j, hj, rfl⟩ | ⟨D', d', rfl, oD', hw'⟩
    · exact ho.inj i j hi hj (fun y => hne (by rw [y])) a b hA hB r
    · have := own_ne (ho.row i hi) a hA
      rw [r, oD' b hB] at this; exact this rfl
    · have := own_ne (ho.row j hj) b hB
      rw [← r, oD a hA] at this; exact this rfl
    · exact hne rfl
  · obtain ⟨e, h1, h2, h3, h4⟩ := hc p hp
    show (∃ i, i < xss.length ∧ VB (E.getD p (.bool false, [])).1 = hs i) ∨ Off G (VB (E.getD p (.bool false, [])).1).1
    rw [h3]
    rcases h4 with ⟨i, hi, rfl⟩ | ⟨D, d, rfl, oD, hw⟩
    · exact .inl ⟨i, hi, rfl⟩
    · exact .inr oD
theorem dropL {xss : List (List Int)} {k : Nat} (h : k < xss.length) : xss.drop k = xss.getD k [] :: xss.drop (k + 1) := by
  rw [List.drop_eq_getElem_cons h]; simp [List.getD, h]
theorem takeL {xss : List (List Int)} {k : Nat} (h : k < xss.length) : xss.take (k + 1) = xss.take k ++ [xss.getD k []] := by
  rw [List.take_succ_eq_append_getElem h]; simp [List.getD, h]
theorem spec_l20Put_ok {G : GH} {Z D : Option Addr} {z e : Nat} {hs : Nat → Option Addr × Nat} {xss : List (List Int)} {x : List Int} (h : OwnR G Z z hs xss) (ha : Asc xss) (hx : IntS G D e x) (hl : xss.length < 2 ^ 20) (hl2 : ∀ i, i < xss.length → (xss.getD i []).length < 2 ^ 30) (hxl : x.length < 2 ^ 30) {K : Value → GH → Prop}
    (hk : ∀ G' Z' z' hs', Sub G G' → OwnR G' Z' z' hs' (ins x xss) → Off G Z' → (∀ p, p < (ins x xss).length → (∃ i, i < xss.length ∧ hs' p = hs i) ∨ Off G (hs' p).1) → K (.slice Z' (ins x xss).length z') G') : GC Try.prog 60 [.slice Z xss.length z, .slice D x.length e] G K := by
  refine c_spec_l20Put_i (by simp) ?_
  have hR := h.rows
  simp (maxSteps := 300000) (disch := omega) only [gs, gs2, gs3, gs4, ↓reduceIte, Nat.reduceEqDiff, Int.reduceToNat, Nat.reduceMul, Nat.reduceAdd, Nat.reduceBEq, isLd, gBs]
  refine ⟨fun v hv => (by cases hv), fun bz hbz => ?_⟩
  refine gLoop_intro (fun m T G' => ∃ (k : Nat) (Zo : Option Addr) (zo : Nat) (E : List (Value × List Int)) (dn : Bool), T 0 = .slice Z xss.length z ∧ T 1 = .slice D x.length e ∧ T 5 = .slice Zo E.length zo ∧ T 6 = .bool dn ∧ T 7 = .int .i64 k ∧ m + k = xss.length ∧ k ≤ xss.length ∧ E.length ≤ k + 1 ∧ PutI G G' Zo zo hs xss x E ∧
      (dn = false → E.map (·.2) = xss.take k ∧ ins x xss = xss.take k ++ ins x (xss.drop k)) ∧ (dn = true → E.map (·.2) ++ xss.drop k = ins x xss)) xss.length
    ⟨0, some ⟨bz, 0, none⟩, 0, [], false, by simp (maxSteps := 300000) (disch := omega) only [gs, gs2, gs3, gs4, ↓reduceIte, Nat.reduceEqDiff, Int.reduceToNat, Nat.reduceMul, Nat.reduceAdd, Nat.reduceBEq, isLd], by simp (maxSteps := 300000) (disch := omega) only [gs, gs2, gs3, gs4, ↓reduceIte, Nat.reduceEqDiff, Int.reduceToNat, Nat.reduceMul, Nat.reduceAdd, Nat.reduceBEq, isLd], by simp (maxSteps := 300000) (disch := omega) only [gs, gs2, gs3, gs4, ↓reduceIte, Nat.reduceEqDiff, Int.reduceToNat, Nat.reduceMul, Nat.reduceAdd, Nat.reduceBEq, isLd] <;> rfl, by simp (maxSteps := 300000) (disch := omega) only [gs, gs2, gs3, gs4, ↓reduceIte, Nat.reduceEqDiff, Int.reduceToNat, Nat.reduceMul, Nat.reduceAdd, Nat.reduceBEq, isLd], by simp (maxSteps := 300000) (disch := omega) only [gs, gs2, gs3, gs4, ↓reduceIte, Nat.reduceEqDiff, Int.reduceToNat, Nat.reduceMul, Nat.reduceAdd, Nat.reduceBEq, isLd] <;> rfl, by omega, by omega, by simp, ⟨Sub.put hbz _, fun a ha => by cases ha; exact hbz, Own.blk (put_same _ _ _) rfl, fun e he => by cases he⟩, fun _ => by simp, fun y => by cases y⟩ ?_
  rintro m T G' ⟨k, Zo, zo, E, dn, t0, t1, t5, t6, t7, hm, hkl, hEl, hP, hF, hT⟩
  simp (maxSteps := 300000) (disch := omega) only [gs, gs2, gs3, gs4, ↓reduceIte, Nat.reduceEqDiff, Int.reduceToNat, Nat.reduceMul, Nat.reduceAdd, Nat.reduceBEq, isLd, t0, t1, t5, t6, t7]
  have hsn := hR.sn
  by_cases hkk : (k : Int) < xss.length
  · have rk : ∀ {G' : GH}, Sub G G' → rd G' (pa Z k) = some (.slice (hs k).1 (xss.getD k []).length (hs k).2) := fun s => rd_sub s (hR.r k (by omega))
    have hsk := hsn (by omega)
    have hd := dropL (show k < xss.length by omega)
    have ht := takeL (show k < xss.length by omega)
    simp (maxSteps := 300000) (disch := omega) only [gs, gs2, gs3, gs4, ↓reduceIte, Nat.reduceEqDiff, Int.reduceToNat, Nat.reduceMul, Nat.reduceAdd, Nat.reduceBEq, isLd, t0, t1, t5, t6, t7, hkk, rk hP.sub]
    refine spec_l00Same_ok ((hR.row k (by omega)).sub hP.sub) (hx.sub hP.sub) (by have := hl2 k (by omega); omega) ?_
    by_cases hq : xss.getD k [] = x
    · have hqT : (xss.getD k [] = x) = True := eq_true hq
      simp (maxSteps := 300000) (disch := omega) only [gs, gs2, gs3, gs4, ↓reduceIte, Nat.reduceEqDiff, Int.reduceToNat, Nat.reduceMul, Nat.reduceAdd, Nat.reduceBEq, isLd, t0, t1, t5, t6, t7, hkk, rk hP.sub, hqT, gBs]
      refine ⟨fun v hv => (by simp at hv; subst hv; rfl), fun bs hbs => ?_⟩
      refine PutI.push (e := old hs xss k) (hP.up (Sub.put hbs _)) (.inl ⟨k, by omega, rfl⟩) (put_same _ _ _) (by omega) fun G4 Z4 z4 hP4 => ?_
      simp (maxSteps := 300000) (disch := omega) only [gs, gs2, gs3, gs4, ↓reduceIte, Nat.reduceEqDiff, Int.reduceToNat, Nat.reduceMul, Nat.reduceAdd, Nat.reduceBEq, isLd, t0, t1, t5, t6, t7]
      refine ⟨m - 1, by omega, G4, Sub.refl _, k + 1, Z4, z4, E ++ [old hs xss k], true, by simp, rfl, rfl, by omega, by omega, by simp; omega, hP4, fun y => (by cases y), fun _ => ?_⟩
      rw [List.map_append]
      show E.map (·.2) ++ [xss.getD k []] ++ _ = _
      rw [List.append_assoc, List.singleton_append, ← hd]
      cases dn
      · obtain ⟨hF1, hF2⟩ := hF rfl
        rw [hF1, hF2, hd, hq, ins, if_pos (lexC_self x)]
      · exact hT rfl
    · have hqF : (xss.getD k [] = x) = False := eq_false hq
      cases dn
      · obtain ⟨hF1, hF2⟩ := hF rfl
        simp (maxSteps := 300000) (disch := omega) only [gs, gs2, gs3, gs4, ↓reduceIte, Nat.reduceEqDiff, Int.reduceToNat, Nat.reduceMul, Nat.reduceAdd, Nat.reduceBEq, isLd, t0, t1, t5, t6, t7, hkk, rk hP.sub, hqF, gBs]
        refine spec_l16Before_ok (hx.sub hP.sub) ((hR.row k (by omega)).sub hP.sub) (by omega) (by have := hl2 k (by omega); omega) fun w hw => ?_
        cases w
        · simp (maxSteps := 300000) (disch := omega) only [gs, gs2, gs3, gs4, ↓reduceIte, Nat.reduceEqDiff, Int.reduceToNat, Nat.reduceMul, Nat.reduceAdd, Nat.reduceBEq, isLd, t0, t1, t5, t6, t7, hkk, rk hP.sub, gBs]
          refine ⟨fun v hv => (by simp at hv; subst hv; rfl), fun bs hbs => ?_⟩
          refine PutI.push (e := old hs xss k) (hP.up (Sub.put hbs _)) (.inl ⟨k, by omega, rfl⟩) (put_same _ _ _) (by omega) fun G4 Z4 z4 hP4 => ?_
          simp (maxSteps := 300000) (disch := omega) only [gs, gs2, gs3, gs4, ↓reduceIte, Nat.reduceEqDiff, Int.reduceToNat, Nat.reduceMul, Nat.reduceAdd, Nat.reduceBEq, isLd, t0, t1, t5, t6, t7]
          refine ⟨m - 1, by omega, G4, Sub.refl _, k + 1, Z4, z4, E ++ [old hs xss k], false, by simp, rfl, rfl, by omega, by omega, by simp; omega, hP4, fun _ => ⟨?_, ?_⟩, fun y => (by cases y)⟩
          · rw [List.map_append, hF1, ht]; rfl
          · have hn : ¬ lexC x (xss.getD k []) < 0 := fun y => by have := hw.2 y; cases this
            have hz : ¬ lexC x (xss.getD k []) = 0 := fun y => hq (lexC_zero.1 y).symm
            rw [hF2, hd, ins, if_neg hz, if_neg hn, ht, List.append_assoc]; rfl
        · have hlt := hw.1 rfl
          simp (maxSteps := 300000) (disch := omega) only [gs, gs2, gs3, gs4, ↓reduceIte, Nat.reduceEqDiff, Int.reduceToNat, Nat.reduceMul, Nat.reduceAdd, Nat.reduceBEq, isLd, t0, t1, t5, t6, t7, hkk, rk hP.sub]
          refine spec_l00Own_ok (hx.sub hP.sub) hxl fun G5 D5 d5 hN => ?_
          have hDo : ∀ x, D5 = some x → G' x.block = none := hN.off
          simp (maxSteps := 300000) (disch := omega) only [gs, gs2, gs3, gs4, ↓reduceIte, Nat.reduceEqDiff, Int.reduceToNat, Nat.reduceMul, Nat.reduceAdd, Nat.reduceBEq, isLd, t0, t1, t5, t6, t7, gBs]
          refine ⟨fun v hv => (by simp at hv; subst hv; rfl), fun bs hbs => ?_⟩
          have s9 := Sub.put hbs ⟨[.slice D5 x.length d5], true⟩
          refine PutI.push (e := (.slice D5 x.length d5, x)) (hP.up (hN.sub.trans s9)) (.inr ⟨D5, d5, rfl, hN.off.mono hP.sub, hN.fresh.sub s9, fun a b ha hb q => ?_⟩) (put_same _ _ _) (by omega) fun G4 Z4 z4 hP4 => ?_
          · have := own_ne hP.own b hb
            rw [← q, hDo a ha] at this; exact this rfl
          simp (maxSteps := 300000) (disch := omega) only [gs, gs2, gs3, gs4, ↓reduceIte, Nat.reduceEqDiff, Int.reduceToNat, Nat.reduceMul, Nat.reduceAdd, Nat.reduceBEq, isLd, t0, t1, t5, t6, t7, rk hP4.sub, gBs]
          refine ⟨fun v hv => (by simp at hv; subst hv; rfl), fun bs hbs => ?_⟩
          rw [show E.length + 1 = (E ++ [(Value.slice D5 x.length d5, x)]).length by simp]
          refine PutI.push (e := old hs xss k) (hP4.up (Sub.put hbs _)) (.inl ⟨k, by omega, rfl⟩) (put_same _ _ _) (by simp; omega) fun G6 Z6 z6 hP6 => ?_
          simp (maxSteps := 300000) (disch := omega) only [gs, gs2, gs3, gs4, ↓reduceIte, Nat.reduceEqDiff, Int.reduceToNat, Nat.reduceMul, Nat.reduceAdd, Nat.reduceBEq, isLd, t0, t1, t5, t6, t7]
          refine ⟨m - 1, by omega, G6, Sub.refl _, k + 1, Z6, z6, (E ++ [(Value.slice D5 x.length d5, x)]) ++ [old hs xss k], true, by simp, rfl, rfl, by omega, by omega, ?_, hP6, fun y => (by cases y), fun _ => ?_⟩
          · have : E.length = k := by rw [← List.length_map (f := (·.2)), hF1, List.length_take]; omega
            simp; omega
          · have hz : ¬ lexC x (xss.getD k []) = 0 := fun y => hq (lexC_zero.1 y).symm
            rw [List.map_append, List.map_append, hF1, hF2, hd, ins, if_neg hz, if_pos hlt]
            simp [old]
      · simp (maxSteps := 300000) (disch := omega) only [gs, gs2, gs3, gs4, ↓reduceIte, Nat.reduceEqDiff, Int.reduceToNat, Nat.reduceMul, Nat.reduceAdd, Nat.reduceBEq, isLd, t0, t1, t5, t6, t7, hkk, rk hP.sub, hqF, gBs]
        refine ⟨fun v hv => (by simp at hv; subst hv; rfl), fun bs hbs => ?_⟩
        refine PutI.push (e := old hs xss k) (hP.up (Sub.put hbs _)) (.inl ⟨k, by omega, rfl⟩) (put_same _ _ _) (by omega) fun G4 Z4 z4 hP4 => ?_
        simp (maxSteps := 300000) (disch := omega) only [gs, gs2, gs3, gs4, ↓reduceIte, Nat.reduceEqDiff, Int.reduceToNat, Nat.reduceMul, Nat.reduceAdd, Nat.reduceBEq, isLd, t0, t1, t5, t6, t7]
        refine ⟨m - 1, by omega, G4, Sub.refl _, k + 1, Z4, z4, E ++ [old hs xss k], true, by simp, rfl, rfl, by omega, by omega, by simp; omega, hP4, fun y => (by cases y), fun _ => ?_⟩
        rw [List.map_append]
        show E.map (·.2) ++ [xss.getD k []] ++ _ = _
        rw [List.append_assoc, List.singleton_append, ← hd]
        exact hT rfl
  · obtain rfl : k = xss.length := by omega
    rw [List.take_length, List.drop_length] at hF
    rw [List.drop_length, List.append_nil] at hT
    cases dn
    · obtain ⟨hF1, hF2⟩ := hF rfl
      simp (maxSteps := 300000) (disch := omega) only [gs, gs2, gs3, gs4, ↓reduceIte, Nat.reduceEqDiff, Int.reduceToNat, Nat.reduceMul, Nat.reduceAdd, Nat.reduceBEq, isLd, t0, t1, t5, t6, t7, hkk]
      refine spec_l00Own_ok (hx.sub hP.sub) hxl fun G5 D5 d5 hN => ?_
      have hDo : ∀ x, D5 = some x → G' x.block = none := hN.off
      simp (maxSteps := 300000) (disch := omega) only [gs, gs2, gs3, gs4, ↓reduceIte, Nat.reduceEqDiff, Int.reduceToNat, Nat.reduceMul, Nat.reduceAdd, Nat.reduceBEq, isLd, t0, t1, t5, t6, t7, gBs]
      refine ⟨fun v hv => (by simp at hv; subst hv; rfl), fun bs hbs => ?_⟩
      have s9 := Sub.put hbs ⟨[.slice D5 x.length d5], true⟩
      refine PutI.push (e := (.slice D5 x.length d5, x)) (hP.up (hN.sub.trans s9)) (.inr ⟨D5, d5, rfl, hN.off.mono hP.sub, hN.fresh.sub s9, fun a b ha hb q => ?_⟩) (put_same _ _ _) (by omega) fun G4 Z4 z4 hP4 => ?_
      · have := own_ne hP.own b hb
        rw [← q, hDo a ha] at this; exact this rfl
      simp (maxSteps := 300000) (disch := omega) only [gs, gs2, gs3, gs4, ↓reduceIte, Nat.reduceEqDiff, Int.reduceToNat, Nat.reduceMul, Nat.reduceAdd, Nat.reduceBEq, isLd, t0, t1, t5, t6, t7]
      have hE : (E ++ [(Value.slice D5 x.length d5, x)]).map (·.2) = ins x xss := by
        rw [List.map_append, hF1, hF2]; rfl
      obtain ⟨hs', ho', hh⟩ := hP4.fin h (by rw [hE]; exact asc_ins ha)
      have hlen : (E ++ [(Value.slice D5 x.length d5, x)]).length = (ins x xss).length := by rw [← hE, List.length_map]
      rw [hE] at ho'
      rw [show E.length + 1 = (ins x xss).length by rw [← hlen]; simp]
      exact hk G4 Z4 z4 hs' hP4.sub ho' hP4.off fun p hp => hh p (by omega)
    · have hT := hT rfl
      simp (maxSteps := 300000) (disch := omega) only [gs, gs2, gs3, gs4, ↓reduceIte, Nat.reduceEqDiff, Int.reduceToNat, Nat.reduceMul, Nat.reduceAdd, Nat.reduceBEq, isLd, t0, t1, t5, t6, t7, hkk]
      obtain ⟨hs', ho', hh⟩ := hP.fin h (by rw [hT]; exact asc_ins ha)
      have hlen : E.length = (ins x xss).length := by rw [← hT, List.length_map]
      rw [hT] at ho'
      rw [hlen]
      exact hk G' Zo zo hs' hP.sub ho' hP.off fun p hp => hh p (by omega)
theorem NewT.offs {G G' : GH} {N : Tab} {A B : Option Addr} {c d : Nat} {hs : Nat → Option Addr × Nat} (h : NewT G G' N A c B d hs) : Off G A ∧ Off G B ∧ ∀ i, i < N.rows.length → Off G (hs i).1 :=
  ⟨fun a ha => h.off _ (.inl ⟨a, ha, rfl⟩), fun a ha => h.off _ (.inr (.inl ⟨a, ha, rfl⟩)), fun i hi a ha => h.off _ (.inr (.inr ⟨i, hi, a, ha, rfl⟩))⟩
theorem NewT.low {G G1 G' G'' : GH} {N : Tab} {A B : Option Addr} {c d : Nat} {hs : Nat → Option Addr × Nat} (h : NewT G1 G' N A c B d hs) (s : Sub G G1) (s'' : Sub G G'') {S : Nat → Prop} (u : Oth S G' G'') (uS : ∀ x, S x → G1 x ≠ none) : NewT G G'' N A c B d hs := by
  obtain ⟨oA, oB, oR⟩ := h.offs
  have hw := h.own.sub (Sub.rest _ _)
  have nS : ∀ {A : Option Addr}, Off G1 A → ∀ a, A = some a → ¬ S a.block := fun o a ha y => uS _ y (o a ha)
  exact ⟨s'', ⟨(hw.cols.oth u (nS oA)).rest (oA.mono s), (hw.rows.oth u (nS oB) fun i hi => nS (oR i hi)).rest (oB.mono s) fun i hi => (oR i hi).mono s, hw.nB, hw.nR⟩⟩
theorem NewT.nil (G : GH) (hs : Nat → Option Addr × Nat) : NewT G G ⟨[], []⟩ none 0 none 0 hs := ⟨Sub.refl _, ⟨Own.nil _ _, OwnR.nil _ _, fun a b h => (by cases h), fun i hi => (by simp at hi)⟩⟩
theorem TabOk.rowL {t : Tab} (h : TabOk t) : RowL t ∧ t.cols.length ≤ 8 ∧ t.rows.length ≤ 24 := by
  refine ⟨fun i hi => (h.2.2.2.1 i hi).1, ?_, h.2.2.1⟩
  apply Classical.byContradiction; intro c
  have hge : ∀ i, i < t.cols.length → (i : Int) ≤ t.cols.getD i 0 := by
    intro i
    induction i with
    | zero => intro hi; exact (h.2.1 0 hi).1
    | succ i ih => intro hi; have := ih (by omega); have := h.1 i hi; omega
  have := hge 8 (by omega)
  have := (h.2.1 8 (by omega)).2
  omega
theorem rise_lt {xs : List Int} (h : Rise xs) : ∀ {i j : Nat}, i < j → j < xs.length → xs.getD i 0 < xs.getD j 0 := by
  intro i j hij hj
  obtain ⟨d, rfl⟩ : ∃ d, j = i + d + 1 := ⟨j - i - 1, by omega⟩
  clear hij
  induction d with
  | zero => exact h i hj
  | succ d ih =>
    have := ih (by omega)
    have := h (i + d + 1) (by omega)
    exact Int.lt_trans (by assumption) this
theorem idx_rise {xs : List Int} (h : Rise xs) {k : Nat} (hk : k < xs.length) : xs.idxOf (xs.getD k 0) = k := by
  have hm : xs.getD k 0 ∈ xs := by simp [List.getD, hk]
  have hlt := List.idxOf_lt_length_iff.2 hm
  have hg : xs.getD (xs.idxOf (xs.getD k 0)) 0 = xs.getD k 0 := by
    rw [List.getD, List.getElem?_eq_getElem hlt, Option.getD_some, List.getElem_idxOf]
  rcases Nat.lt_trichotomy (xs.idxOf (xs.getD k 0)) k with c | c | c
  · have := rise_lt h c hk; omega
  · exact c
  · have := rise_lt h c hlt; omega
theorem fit_at {a b x y : List Int} (ha : Rise a) : FitP a b x y ↔ ∀ i, i < a.length → a.getD i 0 ∈ b → cellAt b y (a.getD i 0) = x.getD i 0 := by
  have e : ∀ i, i < a.length → cellAt a x (a.getD i 0) = x.getD i 0 := fun i hi => by unfold cellAt; rw [idx_rise ha hi]
  constructor
  · intro h i hi hb
    rw [← e i hi]; exact (h _ (by simp [List.getD, hi]) hb).symm
  · intro h c hc hb
    obtain ⟨i, hi, rfl⟩ := List.mem_iff_getElem.1 hc
    have hg : a[i] = a.getD i 0 := by simp [List.getD, hi]
    rw [hg] at hb ⊢
    rw [e i hi]; exact (h i hi hb).symm
theorem spec_l20Cell_ok {G : GH} {A B : Option Addr} {c d : Nat} {cols row : List Int} {v : Int} (h : IntS G A c cols) (h' : IntS G B d row) (hlen : row.length = cols.length) (hl : cols.length < 2 ^ 40) {K : Value → GH → Prop}
    (hk : ∀ w : Int, (v ∈ cols → w = cellAt cols row v) → (¬ v ∈ cols → w = -1) → K (.int .i64 w) G) : GC Try.prog 59 [.slice A cols.length c, .slice B row.length d, .int .i64 v] G K := by
  refine c_spec_l20Cell_i (by simp) ?_
  have hsn := h.sn
  have hrd := h.rd
  have hsr := h'.sn
  simp (maxSteps := 300000) (disch := omega) only [gs, gs2, gs3, gs4, ↓reduceIte, Nat.reduceEqDiff, Int.reduceToNat, Nat.reduceMul, Nat.reduceAdd, Nat.reduceBEq, isLd]
  refine gLoop_intro (fun m T G' => ∃ k : Nat, T 0 = .slice A cols.length c ∧ T 1 = .slice B row.length d ∧ T 2 = .int .i64 v ∧ T 7 = .int .i64 k ∧ m + k = cols.length ∧ k ≤ cols.length ∧ G' = G ∧ ∀ i, i < k → cols.getD i 0 ≠ v) cols.length
    ⟨0, by simp (maxSteps := 300000) (disch := omega) only [gs, gs2, gs3, gs4, ↓reduceIte, Nat.reduceEqDiff, Int.reduceToNat, Nat.reduceMul, Nat.reduceAdd, Nat.reduceBEq, isLd], by simp (maxSteps := 300000) (disch := omega) only [gs, gs2, gs3, gs4, ↓reduceIte, Nat.reduceEqDiff, Int.reduceToNat, Nat.reduceMul, Nat.reduceAdd, Nat.reduceBEq, isLd], by simp (maxSteps := 300000) (disch := omega) only [gs, gs2, gs3, gs4, ↓reduceIte, Nat.reduceEqDiff, Int.reduceToNat, Nat.reduceMul, Nat.reduceAdd, Nat.reduceBEq, isLd], by simp (maxSteps := 300000) (disch := omega) only [gs, gs2, gs3, gs4, ↓reduceIte, Nat.reduceEqDiff, Int.reduceToNat, Nat.reduceMul, Nat.reduceAdd, Nat.reduceBEq, isLd] <;> rfl, by omega, by omega, rfl, fun i hi => by omega⟩ ?_
  rintro m T G' ⟨k, e0, e1, e2, e7, hm, hkl, rfl, hin⟩
  simp (maxSteps := 300000) (disch := omega) only [gs, gs2, gs3, gs4, ↓reduceIte, Nat.reduceEqDiff, Int.reduceToNat, Nat.reduceMul, Nat.reduceAdd, Nat.reduceBEq, isLd, e0, e1, e2, e7]
  by_cases hkk : (k : Int) < cols.length
  · have rr := h'.rd k (by omega)
    have hkr : (k : Int) < row.length := by omega
    simp (maxSteps := 300000) (disch := omega) only [gs, gs2, gs3, gs4, ↓reduceIte, Nat.reduceEqDiff, Int.reduceToNat, Nat.reduceMul, Nat.reduceAdd, Nat.reduceBEq, isLd, e0, e1, e2, e7, hkk, hrd]
    by_cases g1 : cols.getD k 0 = v
    · have hsr := hsr (by omega)
      simp (maxSteps := 300000) (disch := omega) only [gs, gs2, gs3, gs4, ↓reduceIte, Nat.reduceEqDiff, Int.reduceToNat, Nat.reduceMul, Nat.reduceAdd, Nat.reduceBEq, isLd, eq_true g1, e0, e1, e2, e7, hkr, rr]
      have hmem : v ∈ cols := by rw [← g1]; simp [List.getD, show k < cols.length by omega]
      refine hk _ (fun _ => ?_) (fun hn => absurd hmem hn)
      unfold cellAt
      have : cols.idxOf v = k := by
        obtain ⟨hid, hlt⟩ := idxI_mem' hmem
        have := idxI_some (p := fun x => decide (x = v)) (xs := cols) (k := k) (by omega) (decide_eq_true g1) fun i hi => decide_eq_false (hin i hi)
        rw [hid] at this; omega
      rw [this]
    · simp (maxSteps := 300000) (disch := omega) only [gs, gs2, gs3, gs4, ↓reduceIte, Nat.reduceEqDiff, Int.reduceToNat, Nat.reduceMul, Nat.reduceAdd, Nat.reduceBEq, isLd, eq_false g1, e0, e1, e2, e7]
      refine ⟨m - 1, by omega, _, Sub.refl _, k + 1, rfl, by omega, by omega, rfl, fun i hi => ?_⟩
      by_cases hik : i = k
      · subst hik; exact g1
      · exact hin i (by omega)
  · simp (maxSteps := 300000) (disch := omega) only [gs, gs2, gs3, gs4, ↓reduceIte, Nat.reduceEqDiff, Int.reduceToNat, Nat.reduceMul, Nat.reduceAdd, Nat.reduceBEq, isLd, e0, e1, e2, e7, hkk]
    refine hk _ (fun hm' => ?_) (fun _ => rfl)
    obtain ⟨i, hi, rfl⟩ := List.mem_iff_getElem.1 hm'
    exact absurd (by simp [List.getD, hi]) (hin i (by omega))
theorem spec_l20Fit_ok {G : GH} {q q' : Option Addr} {a b : Tab} {A B A' B' D D' : Option Addr} {c d c' d' e e' : Nat} {hs hs' : Nat → Option Addr × Nat} {x y : List Int} (h : TabP G q a A c B d hs) (h' : TabP G q' b A' c' B' d' hs') (hx : IntS G D e x) (hy : IntS G D' e' y)
    (ha : Rise a.cols) (hl : a.cols.length < 2 ^ 30) (hl' : b.cols.length < 2 ^ 30) (hxl : x.length = a.cols.length) (hyl : y.length = b.cols.length) (hy0 : InB y 0 3) {K : Value → GH → Prop}
    (hk : ∀ z : Bool, (z = true ↔ FitP a.cols b.cols x y) → K (.bool z) G) : GC Try.prog 57 [.pointer q, .pointer q', .slice D x.length e, .slice D' y.length e'] G K := by
  refine c_spec_l20Fit_i (by simp) ?_
  obtain ⟨f0, f1, hc, hR⟩ := h
  obtain ⟨f0', f1', hc', hR'⟩ := h'
  have hq := rd_some f0
  have hq' := rd_some f0'
  have hsn := hc.sn
  have hrd := hc.rd
  have hsx := hx.sn
  simp (maxSteps := 300000) (disch := omega) only [gs, gs2, gs3, gs4, ↓reduceIte, Nat.reduceEqDiff, Int.reduceToNat, Nat.reduceMul, Nat.reduceAdd, Nat.reduceBEq, isLd]
  refine gLoop_intro (fun m T G' => ∃ k : Nat, T 0 = .pointer q ∧ T 1 = .pointer q' ∧ T 2 = .slice D x.length e ∧ T 3 = .slice D' y.length e' ∧ T 9 = .int .i64 k ∧ m + k = a.cols.length ∧ k ≤ a.cols.length ∧ G' = G ∧ ∀ i, i < k → a.cols.getD i 0 ∈ b.cols → cellAt b.cols y (a.cols.getD i 0) = x.getD i 0) a.cols.length
    ⟨0, by simp (maxSteps := 300000) (disch := omega) only [gs, gs2, gs3, gs4, ↓reduceIte, Nat.reduceEqDiff, Int.reduceToNat, Nat.reduceMul, Nat.reduceAdd, Nat.reduceBEq, isLd], by simp (maxSteps := 300000) (disch := omega) only [gs, gs2, gs3, gs4, ↓reduceIte, Nat.reduceEqDiff, Int.reduceToNat, Nat.reduceMul, Nat.reduceAdd, Nat.reduceBEq, isLd], by simp (maxSteps := 300000) (disch := omega) only [gs, gs2, gs3, gs4, ↓reduceIte, Nat.reduceEqDiff, Int.reduceToNat, Nat.reduceMul, Nat.reduceAdd, Nat.reduceBEq, isLd], by simp (maxSteps := 300000) (disch := omega) only [gs, gs2, gs3, gs4, ↓reduceIte, Nat.reduceEqDiff, Int.reduceToNat, Nat.reduceMul, Nat.reduceAdd, Nat.reduceBEq, isLd], by simp (maxSteps := 300000) (disch := omega) only [gs, gs2, gs3, gs4, ↓reduceIte, Nat.reduceEqDiff, Int.reduceToNat, Nat.reduceMul, Nat.reduceAdd, Nat.reduceBEq, isLd] <;> rfl, by omega, by omega, rfl, fun i hi => by omega⟩ ?_
  rintro m T G' ⟨k, e0, e1, e2, e3, e9, hm, hkl, rfl, hin⟩
  simp (maxSteps := 300000) (disch := omega) only [gs, gs2, gs3, gs4, ↓reduceIte, Nat.reduceEqDiff, Int.reduceToNat, Nat.reduceMul, Nat.reduceAdd, Nat.reduceBEq, isLd, e0, e1, e2, e3, e9, f0]
  by_cases hkk : (k : Int) < a.cols.length
  · have rk := hrd k (by omega)
    have rx := hx.rd k (by omega)
    have hkx : (k : Int) < x.length := by omega
    have hsx := hsx (by omega)
    simp (maxSteps := 300000) (disch := omega) only [gs, gs2, gs3, gs4, ↓reduceIte, Nat.reduceEqDiff, Int.reduceToNat, Nat.reduceMul, Nat.reduceAdd, Nat.reduceBEq, isLd, e0, e1, e2, e3, e9, f0, f0', hkk, rk]
    refine spec_l20Cell_ok hc' hy hyl (by omega) fun w hw1 hw2 => ?_
    simp (maxSteps := 300000) (disch := omega) only [gs, gs2, gs3, gs4, ↓reduceIte, Nat.reduceEqDiff, Int.reduceToNat, Nat.reduceMul, Nat.reduceAdd, Nat.reduceBEq, isLd, e0, e1, e2, e3, e9, f0, f0', hkk, rk]
    by_cases hmem : a.cols.getD k 0 ∈ b.cols
    · have hw := hw1 hmem
      have h0 : 0 ≤ w := by
        rw [hw]; unfold cellAt
        obtain ⟨_, hlt⟩ := idxI_mem' hmem
        exact (hy0 _ (by omega)).1
      by_cases heq : w = x.getD k 0
      · simp (maxSteps := 300000) (disch := omega) only [gs, gs2, gs3, gs4, ↓reduceIte, Nat.reduceEqDiff, Int.reduceToNat, Nat.reduceMul, Nat.reduceAdd, Nat.reduceBEq, isLd, eq_true h0, eq_true heq, e0, e1, e2, e3, e9, hkx, rx]
        refine ⟨m - 1, by omega, _, Sub.refl _, k + 1, rfl, by omega, by omega, rfl, fun i hi hmi => ?_⟩
        by_cases hik : i = k
        · subst hik; rw [← hw, heq]
        · exact hin i (by omega) hmi
      · simp (maxSteps := 300000) (disch := omega) only [gs, gs2, gs3, gs4, ↓reduceIte, Nat.reduceEqDiff, Int.reduceToNat, Nat.reduceMul, Nat.reduceAdd, Nat.reduceBEq, isLd, eq_true h0, eq_false heq, e0, e1, e2, e3, e9, hkx, rx]
        refine hk false ⟨fun y => by simp at y, fun y => ?_⟩
        have := (fit_at ha).1 y k (by omega) hmem
        exact absurd (hw.trans this) heq
    · have hw := hw2 hmem
      have h0 : (0 ≤ w) = False := eq_false (by omega)
      simp (maxSteps := 300000) (disch := omega) only [gs, gs2, gs3, gs4, ↓reduceIte, Nat.reduceEqDiff, Int.reduceToNat, Nat.reduceMul, Nat.reduceAdd, Nat.reduceBEq, isLd, h0, e0, e1, e2, e3, e9]
      refine ⟨m - 1, by omega, _, Sub.refl _, k + 1, rfl, by omega, by omega, rfl, fun i hi hmi => ?_⟩
      by_cases hik : i = k
      · subst hik; exact absurd hmi hmem
      · exact hin i (by omega) hmi
  · simp (maxSteps := 300000) (disch := omega) only [gs, gs2, gs3, gs4, ↓reduceIte, Nat.reduceEqDiff, Int.reduceToNat, Nat.reduceMul, Nat.reduceAdd, Nat.reduceBEq, isLd, e0, e1, e2, e3, e9, f0, hkk]
    exact hk true ⟨fun _ => (fit_at ha).2 fun i hi => hin i (by omega), fun _ => rfl⟩
theorem getD_memL {α : Type} {l : List α} {i : Nat} {d : α} (h : i < l.length) : l.getD i d ∈ l := by simp [List.getD, h]
theorem SemG.repl {H G G' : GH} {b5 n c1 z z' : Nat} {A1 Z Z' : Option Addr} {hs hs' : Nat → Option Addr × Nat} {xss yss : List (List Int)} (h : SemG H G b5 A1 n c1 Z z hs xss) (s : Sub G G') (ho : OwnR G' Z' z' hs' yss) (oZ : Off G Z')
    (oR : ∀ i, i < yss.length → (∃ j, j < xss.length ∧ hs' i = hs j) ∨ Off G (hs' i).1) {K : Value → GH → Prop} (hK : ∀ G5, SemG H G5 b5 A1 n c1 Z' z' hs' yss → K undef G5) : gSt 1 (.pointer (some ⟨b5, 1, none⟩)) (.slice Z' yss.length z') G' K := by
  have s5 := h.sub.trans s
  have hbox : G' b5 = some ⟨[.slice A1 n c1, .slice Z xss.length z], true⟩ := s5 _ _ (put_same _ _ _)
  have oZ' : Off (put H b5 ⟨[], true⟩) Z' := (oZ.mono h.sub).pute
  have oR' : ∀ i, i < yss.length → Off (put H b5 ⟨[], true⟩) (hs' i).1 := fun i hi => by
    rcases oR i hi with ⟨j, hj', e⟩ | o
    · rw [e]; exact h.oR j hj'
    · exact (o.mono h.sub).pute
  refine st_one hbox (by simp) rfl (hK _ ⟨h.nb, fun y f hy => ?_, ho.oth (Oth.put _ _ _) (oZ'.ne) fun i hi a ha => (oR' i hi).ne a ha, oZ', oR'⟩)
  by_cases c : y = b5
  · subst c
    rw [put_same] at hy ⊢
    rw [← hy]; rfl
  · rw [put_ne _ _ c] at hy ⊢
    exact s5 _ _ (by rw [put_ne _ _ c]; exact hy)
theorem spec_l20Project_ok {G : GH} {q : Option Addr} {t : Tab} {A B W : Option Addr} {c d w : Nat} {hs : Nat → Option Addr × Nat} {wanted : List Int} (p2 : TabP G q t A c B d hs) (hw : IntS G W w wanted) (hmem : ∀ v ∈ wanted, v ∈ t.cols) (hl : t.cols.length < 2 ^ 30) (hl2 : wanted.length < 2 ^ 30) (rt : RowL t) (nt : t.rows.length < 2 ^ 18)
    {K : Value → GH → Prop} (hk : ∀ G' X x Y y hs'', NewT G G' (projT t wanted) X x Y y hs'' → K (tabV (projT t wanted) X x Y y) G') : GC Try.prog 32 [.pointer q, .slice W wanted.length w] G K := by
  refine GC_drop (c_spec_l20Project_i (by simp) ?_)
  have hq := rd_some p2.f0
  simp (maxSteps := 300000) (disch := omega) only [gs, gs2, gs3, gs4, ↓reduceIte, Nat.reduceEqDiff, Int.reduceToNat, Nat.reduceMul, Nat.reduceAdd, Nat.reduceBEq, isLd]
  intro b4 hb4
  have s4 := Sub.put hb4 ⟨[.slice none 0 0, .slice none 0 0], true⟩
  have g4 := put_same G b4 ⟨[.slice none 0 0, .slice none 0 0], true⟩
  have p2 := p2.sub s4
  have hw := hw.sub s4
  revert s4 p2 hw g4
  generalize put G b4 ⟨[.slice none 0 0, .slice none 0 0], true⟩ = G2
  intro s4 g4 p2 hw
  simp (maxSteps := 300000) (disch := omega) only [gs, gs2, gs3, gs4, ↓reduceIte, Nat.reduceEqDiff, Int.reduceToNat, Nat.reduceMul, Nat.reduceAdd, Nat.reduceBEq, isLd, p2.f0]
  refine spec_l00Own_ok hw (by omega) fun H A1 c1 hN1 => ?_
  have p2 := p2.sub hN1.sub
  have hw := hw.sub hN1.sub
  have g4' := hN1.sub _ _ g4
  simp (maxSteps := 300000) (disch := omega) only [gs, gs2, gs3, gs4, ↓reduceIte, Nat.reduceEqDiff, Int.reduceToNat, Nat.reduceMul, Nat.reduceAdd, Nat.reduceBEq, isLd, p2.f0, gBs]
  refine ⟨fun v hv => (by cases hv), fun bz hbz => ?_⟩
  have hbl : bldV [Value.slice none 0 0, Value.slice none 0 0] [(0, 1, Value.slice A1 wanted.length c1), (1, 1, Value.slice (some ⟨bz, 0, none⟩) 0 0)] = some [Value.slice A1 wanted.length c1, .slice (some ⟨bz, 0, none⟩) 0 0] := rfl
  simp (maxSteps := 300000) (disch := omega) only [gs, gs2, gs3, gs4, ↓reduceIte, Nat.reduceEqDiff, Int.reduceToNat, Nat.reduceMul, Nat.reduceAdd, Nat.reduceBEq, isLd, hbl]
  intro b5 hb5
  simp (maxSteps := 300000) (disch := omega) only [gs, gs2, gs3, gs4, ↓reduceIte, Nat.reduceEqDiff, Int.reduceToNat, Nat.reduceMul, Nat.reduceAdd, Nat.reduceBEq, isLd]
  refine st_fresh (vs := [.slice A1 wanted.length c1, .slice (some ⟨bz, 0, none⟩) 0 0]) rfl rfl rfl (by intro v hv; simp at hv; rcases hv with rfl | rfl <;> rfl) ?_
  have n5z : b5 ≠ bz := (put_none.1 hb5).1
  have hb5' : H b5 = none := (put_none.1 hb5).2
  have hX0 : SemG H (put (put H bz ⟨[], true⟩) b5 ⟨[.slice A1 wanted.length c1, .slice (some ⟨bz, 0, none⟩) 0 0], true⟩) b5 A1 wanted.length c1 (some ⟨bz, 0, none⟩) 0 (fun _ => (none, 0)) [] := by
    refine ⟨hb5', fun x e hx => ?_, ⟨.inr ⟨bz, [], rfl, by rw [put_ne _ _ n5z.symm]; exact put_same _ _ _, rfl, rfl, Nat.le_refl _⟩, fun i hi => by simp at hi, fun i hi => by simp at hi, fun i j hi => by simp at hi⟩, fun a ha => by cases ha; rw [put_ne _ _ n5z.symm]; exact hbz, fun i hi => by simp at hi⟩
    by_cases c : x = b5
    · subst c; rw [put_same] at hx ⊢; exact hx
    · rw [put_ne _ _ c] at hx ⊢
      rw [put_ne _ _ (fun y => by subst y; rw [hbz] at hx; cases hx)]; exact hx
  have hA1 : Own H A1 c1 (wanted.map I64) 1 wanted.length := hN1.fresh
  have sH := s4.trans hN1.sub
  have oA1 : Off G A1 := hN1.off.mono s4
  have n41 : ∀ x, A1 = some x → x.block ≠ b4 := fun x hx y => by have := hN1.off x hx; rw [y, g4] at this; cases this
  clear hN1 g4
  have e0 : (put (put H bz ⟨List.flatMap (fun v : Value => v.cells.toList) [], true⟩) b5 ⟨[.slice A1 wanted.length c1, .slice (some ⟨bz, 0, none⟩) 0 0], true⟩) = (put (put H bz ⟨[], true⟩) b5 ⟨[.slice A1 wanted.length c1, .slice (some ⟨bz, 0, none⟩) 0 0], true⟩) := rfl
  try rw [e0]
  generalize put (put H bz ⟨[], true⟩) b5 ⟨[.slice A1 wanted.length c1, .slice (some ⟨bz, 0, none⟩) 0 0], true⟩ = G3 at hX0 ⊢
  simp (maxSteps := 300000) (disch := omega) only [gs, gs2, gs3, gs4, ↓reduceIte, Nat.reduceEqDiff, Int.reduceToNat, Nat.reduceMul, Nat.reduceAdd, Nat.reduceBEq, isLd]
  refine gLoop_intro (fun m T G' => ∃ (k : Nat) (Z : Option Addr) (z : Nat) (hz : Nat → Option Addr × Nat), T 0 = .pointer q ∧ T 1 = .slice W wanted.length w ∧ T 4 = .pointer (some ⟨b4, 0, none⟩) ∧ T 5 = .pointer (some ⟨b5, 0, none⟩) ∧ T 6 = .int .i64 k ∧ m + k = t.rows.length ∧ k ≤ t.rows.length ∧
      SemG H G' b5 A1 wanted.length c1 Z z hz (srt ((t.rows.take k).map (prj t.cols wanted)))) t.rows.length
    ⟨0, _, 0, _, by simp (maxSteps := 300000) (disch := omega) only [gs, gs2, gs3, gs4, ↓reduceIte, Nat.reduceEqDiff, Int.reduceToNat, Nat.reduceMul, Nat.reduceAdd, Nat.reduceBEq, isLd], by simp (maxSteps := 300000) (disch := omega) only [gs, gs2, gs3, gs4, ↓reduceIte, Nat.reduceEqDiff, Int.reduceToNat, Nat.reduceMul, Nat.reduceAdd, Nat.reduceBEq, isLd], by simp (maxSteps := 300000) (disch := omega) only [gs, gs2, gs3, gs4, ↓reduceIte, Nat.reduceEqDiff, Int.reduceToNat, Nat.reduceMul, Nat.reduceAdd, Nat.reduceBEq, isLd], by simp (maxSteps := 300000) (disch := omega) only [gs, gs2, gs3, gs4, ↓reduceIte, Nat.reduceEqDiff, Int.reduceToNat, Nat.reduceMul, Nat.reduceAdd, Nat.reduceBEq, isLd], by simp (maxSteps := 300000) (disch := omega) only [gs, gs2, gs3, gs4, ↓reduceIte, Nat.reduceEqDiff, Int.reduceToNat, Nat.reduceMul, Nat.reduceAdd, Nat.reduceBEq, isLd] <;> rfl, by omega, by omega, hX0⟩ ?_
  clear hX0
  rintro m T G' ⟨k, Z, z, hz, e0, e1, e4, e5, e6, hm, hkl, hX⟩
  have q2 := p2.sub hX.low
  have hw3 := hw.sub hX.low
  simp (maxSteps := 300000) (disch := omega) only [gs, gs2, gs3, gs4, ↓reduceIte, Nat.reduceEqDiff, Int.reduceToNat, Nat.reduceMul, Nat.reduceAdd, Nat.reduceBEq, isLd, e0, e1, e4, e5, e6, q2.f1]
  have hlen : (srt ((t.rows.take k).map (prj t.cols wanted))).length ≤ k := Nat.le_trans (srt_len _) (by rw [List.length_map, List.length_take]; omega)
  by_cases hkk : (k : Int) < t.rows.length
  · have rk := q2.rows.r k (by omega)
    have hsB := q2.rows.sn (by omega)
    have hxl := rt k (by omega)
    have htk : srt ((t.rows.take (k + 1)).map (prj t.cols wanted)) = ins (prj t.cols wanted (t.rows.getD k [])) (srt ((t.rows.take k).map (prj t.cols wanted))) := by
      rw [map_take (d := []) (by omega), srt_snoc]
    simp (maxSteps := 300000) (disch := omega) only [gs, gs2, gs3, gs4, ↓reduceIte, Nat.reduceEqDiff, Int.reduceToNat, Nat.reduceMul, Nat.reduceAdd, Nat.reduceBEq, isLd, e0, e1, e4, e5, e6, q2.f1, hkk, gBs]
    refine ⟨fun v hv => (by cases hv), fun by' hby => ?_⟩
    refine gLoop_intro (fun m' T' G'' => ∃ (j : Nat) (Zr : Option Addr) (zr : Nat), T' 0 = .pointer q ∧ T' 1 = .slice W wanted.length w ∧ T' 4 = .pointer (some ⟨b4, 0, none⟩) ∧ T' 5 = .pointer (some ⟨b5, 0, none⟩) ∧ T' 6 = .int .i64 k ∧ T' 7 = .slice Zr j zr ∧ T' 8 = .int .i64 j ∧ m' + j = wanted.length ∧ j ≤ wanted.length ∧ Sub G' G'' ∧ Off G' Zr ∧ Own G'' Zr zr (((wanted.take j).map (cellAt t.cols (t.rows.getD k []))).map I64) 1 j) wanted.length
      ⟨0, some ⟨by', 0, none⟩, 0, by simp (maxSteps := 300000) (disch := omega) only [gs, gs2, gs3, gs4, ↓reduceIte, Nat.reduceEqDiff, Int.reduceToNat, Nat.reduceMul, Nat.reduceAdd, Nat.reduceBEq, isLd, e0], by simp (maxSteps := 300000) (disch := omega) only [gs, gs2, gs3, gs4, ↓reduceIte, Nat.reduceEqDiff, Int.reduceToNat, Nat.reduceMul, Nat.reduceAdd, Nat.reduceBEq, isLd, e1], by simp (maxSteps := 300000) (disch := omega) only [gs, gs2, gs3, gs4, ↓reduceIte, Nat.reduceEqDiff, Int.reduceToNat, Nat.reduceMul, Nat.reduceAdd, Nat.reduceBEq, isLd, e4], by simp (maxSteps := 300000) (disch := omega) only [gs, gs2, gs3, gs4, ↓reduceIte, Nat.reduceEqDiff, Int.reduceToNat, Nat.reduceMul, Nat.reduceAdd, Nat.reduceBEq, isLd, e5], by simp (maxSteps := 300000) (disch := omega) only [gs, gs2, gs3, gs4, ↓reduceIte, Nat.reduceEqDiff, Int.reduceToNat, Nat.reduceMul, Nat.reduceAdd, Nat.reduceBEq, isLd, e6], by simp (maxSteps := 300000) (disch := omega) only [gs, gs2, gs3, gs4, ↓reduceIte, Nat.reduceEqDiff, Int.reduceToNat, Nat.reduceMul, Nat.reduceAdd, Nat.reduceBEq, isLd] <;> rfl, by simp (maxSteps := 300000) (disch := omega) only [gs, gs2, gs3, gs4, ↓reduceIte, Nat.reduceEqDiff, Int.reduceToNat, Nat.reduceMul, Nat.reduceAdd, Nat.reduceBEq, isLd] <;> rfl, by omega, by omega, Sub.put hby _, fun a ha => (by cases ha; exact hby), Own.blk (put_same _ _ _) rfl⟩ ?_
    clear e0 e1 e4 e5 e6
    rintro m' T' G'' ⟨j, Zr, zr, e0, e1, e4, e5, e6, e7, e8, hm', hjl, hS, hO, hW⟩
    simp (maxSteps := 300000) (disch := omega) only [gs, gs2, gs3, gs4, ↓reduceIte, Nat.reduceEqDiff, Int.reduceToNat, Nat.reduceMul, Nat.reduceAdd, Nat.reduceBEq, isLd, e0, e1, e4, e5, e6, e7, e8]
    by_cases hjj : (j : Int) < wanted.length
    · have q4 := q2.sub hS
      have rw' := (hw3.sub hS).rd j (by omega)
      have hsw := (hw3.sub hS).sn (by omega)
      have rk4 := q4.rows.r k (by omega)
      simp (maxSteps := 300000) (disch := omega) only [gs, gs2, gs3, gs4, ↓reduceIte, Nat.reduceEqDiff, Int.reduceToNat, Nat.reduceMul, Nat.reduceAdd, Nat.reduceBEq, isLd, e0, e1, e4, e5, e6, e7, e8, hjj, hkk, q4.f0, q4.f1, rk4, rw']
      refine spec_l20Cell_ok q4.cols (q4.rows.row k (by omega)) hxl (by omega) fun w hw1 hw2 => ?_
      obtain rfl := hw1 (hmem _ (by simp [List.getD, show j < wanted.length by omega]))
      simp (maxSteps := 300000) (disch := omega) only [gs, gs2, gs3, gs4, ↓reduceIte, Nat.reduceEqDiff, Int.reduceToNat, Nat.reduceMul, Nat.reduceAdd, Nat.reduceBEq, isLd, e0, e1, e4, e5, e6, e7, e8, hjj, hkk, q4.f0, q4.f1, rk4, rw', gBs]
      refine ⟨fun v hv => (by simp at hv; subst hv; rfl), fun bs hbs => ?_⟩
      have sy := Sub.put hbs ⟨[I64 (cellAt t.cols (t.rows.getD k []) (wanted.getD j 0))], true⟩
      refine ⟨⟨rd_sub sy rw', rd_sub sy rk4, rd_sub sy q4.f1, rd_sub sy q4.f0⟩, ?_⟩
      refine ap_own (hW.sub sy) (news := [I64 (cellAt t.cols (t.rows.getD k []) (wanted.getD j 0))]) (m := 1) (cells_one _ true) rfl (by intro v hv; simp at hv; subst hv; rfl) rfl (by omega) (by omega) (by omega) fun G6 A6 c6 hW6 keep => ?_
      obtain ⟨hS6, hO6⟩ := keep G' (hS.trans sy) hO
      have q6 := q2.sub hS6
      simp (maxSteps := 300000) (disch := omega) only [gs, gs2, gs3, gs4, ↓reduceIte, Nat.reduceEqDiff, Int.reduceToNat, Nat.reduceMul, Nat.reduceAdd, Nat.reduceBEq, isLd, e0, e1, e4, e5, e6, e7, e8, q6.f0, q6.f1, q6.rows.r k (by omega), (hw3.sub hS6).rd j (by omega)]
      refine ⟨m' - 1, by omega, G6, Sub.refl _, j + 1, A6, c6, rfl, rfl, by omega, by omega, hS6, hO6, ?_⟩
      refine hW6.cast ?_ rfl
      rw [map_take (d := 0) (show j < wanted.length by omega), List.map_append]
      rfl
    · simp (maxSteps := 300000) (disch := omega) only [gs, gs2, gs3, gs4, ↓reduceIte, Nat.reduceEqDiff, Int.reduceToNat, Nat.reduceMul, Nat.reduceAdd, Nat.reduceBEq, isLd, e0, e1, e4, e5, e6, e7, e8, hjj]
      obtain rfl : j = wanted.length := by omega
      rw [List.take_length] at hW
      have f50 : rd G'' (some ⟨b5, 1, none⟩) = some (.slice Z (srt ((t.rows.take k).map (prj t.cols wanted))).length z) := rd_sub (hX.sub.trans hS) (rd_box _ _ _ 1 _ rfl)
      simp (maxSteps := 300000) (disch := omega) only [gs, gs2, gs3, gs4, ↓reduceIte, Nat.reduceEqDiff, Int.reduceToNat, Nat.reduceMul, Nat.reduceAdd, Nat.reduceBEq, isLd, e0, e1, e4, e5, e6, e7, e8, f50]
      have hX' := hX.up hS
      have hP : IntS G'' Zr zr (prj t.cols wanted (t.rows.getD k [])) := hW.ints' (prj_len _ _ _).symm
      rw [show Value.slice Zr wanted.length zr = Value.slice Zr (prj t.cols wanted (t.rows.getD k [])).length zr by rw [prj_len]]
      refine spec_l20Put_ok hX'.own (srt_asc _) hP (by omega) (fun i hi => ?_) (by rw [prj_len]; omega) fun G4 Z' z' hs' s4' hO4 oZ4 oR4 => ?_
      · have hm : (srt ((t.rows.take k).map (prj t.cols wanted))).getD i [] ∈ srt ((t.rows.take k).map (prj t.cols wanted)) := getD_memL hi
        rw [srt_mem] at hm
        obtain ⟨r, _, hr⟩ := List.mem_map.1 hm
        rw [← hr, prj_len]; omega
      simp (maxSteps := 300000) (disch := omega) only [gs, gs2, gs3, gs4, ↓reduceIte, Nat.reduceEqDiff, Int.reduceToNat, Nat.reduceMul, Nat.reduceAdd, Nat.reduceBEq, isLd, e0, e1, e4, e5, e6, e7, e8]
      refine hX'.repl s4' hO4 oZ4 oR4 fun G5 hX5 => ?_
      simp (maxSteps := 300000) (disch := omega) only [gs, gs2, gs3, gs4, ↓reduceIte, Nat.reduceEqDiff, Int.reduceToNat, Nat.reduceMul, Nat.reduceAdd, Nat.reduceBEq, isLd, e0, e1, e4, e5, e6]
      exact ⟨m - 1, by omega, G5, Sub.refl _, k + 1, Z', z', hs', rfl, by omega, by omega, by rw [htk]; exact hX5⟩
  · obtain rfl : k = t.rows.length := by omega
    rw [List.take_length] at hX
    have f50 : rd G' (some ⟨b5, 0, none⟩) = some (.slice A1 wanted.length c1) := rd_sub hX.sub (rd_box _ _ _ 0 _ rfl)
    have f51 : rd G' (some ⟨b5, 1, none⟩) = some (.slice Z (srt (t.rows.map (prj t.cols wanted))).length z) := rd_sub hX.sub (rd_box _ _ _ 1 _ rfl)
    simp (maxSteps := 300000) (disch := omega) only [gs, gs2, gs3, gs4, ↓reduceIte, Nat.reduceEqDiff, Int.reduceToNat, Nat.reduceMul, Nat.reduceAdd, Nat.reduceBEq, isLd, e0, e1, e4, e5, e6, q2.f1, hkk, f50, f51]
    refine st_many (vs := [.slice A1 wanted.length c1, .slice Z (srt (t.rows.map (prj t.cols wanted))).length z]) rfl (hX.low _ _ g4') rfl (by simp) (by intro v hv; simp at hv; rcases hv with rfl | rfl <;> rfl) ?_
    simp only [over, List.set_cons_zero, List.set_cons_succ]
    have k0 : rd (put G' b4 ⟨[.slice A1 wanted.length c1, .slice Z (srt (t.rows.map (prj t.cols wanted))).length z], true⟩) (some ⟨b4, 0, none⟩) = some (.slice A1 wanted.length c1) := rd_box _ _ _ 0 _ rfl
    have k1 : rd (put G' b4 ⟨[.slice A1 wanted.length c1, .slice Z (srt (t.rows.map (prj t.cols wanted))).length z], true⟩) (some ⟨b4, 1, none⟩) = some (.slice Z (srt (t.rows.map (prj t.cols wanted))).length z) := rd_box _ _ _ 1 _ rfl
    simp (maxSteps := 300000) (disch := omega) only [gs, gs2, gs3, gs4, ↓reduceIte, Nat.reduceEqDiff, Int.reduceToNat, Nat.reduceMul, Nat.reduceAdd, Nat.reduceBEq, isLd, e4, k0, k1]
    exact ⟨_, Sub.refl _, hk _ _ _ _ _ _ (hX.newT (N := projT t wanted) sH hA1 oA1 ((sH.trans hX.low).skip hb4) (Oth.put _ _ _) n41 (fun x hx => by subst hx; rw [g4']; simp))⟩
theorem or_exists {P : Nat → Prop} {k : Nat} : (∃ j, j < k + 1 ∧ P j) ↔ (∃ j, j < k ∧ P j) ∨ P k := by
  constructor
  · rintro ⟨j, hj, h⟩
    by_cases e : j = k
    · subst e; exact .inr h
    · exact .inl ⟨j, by omega, h⟩
  · rintro (⟨j, hj, h⟩ | h)
    · exact ⟨j, by omega, h⟩
    · exact ⟨k, by omega, h⟩
theorem ex_rows {xss : List (List Int)} {P : List Int → Prop} : (∃ j, j < xss.length ∧ P (xss.getD j [])) ↔ ∃ y ∈ xss, P y := by
  constructor
  · rintro ⟨j, hj, h⟩; exact ⟨_, by simp [List.getD, hj], h⟩
  · rintro ⟨y, hy, h⟩
    obtain ⟨i, hi, rfl⟩ := List.mem_iff_getElem.1 hy
    exact ⟨i, hi, by rw [show xss.getD i [] = xss[i] by simp [List.getD, hi]]; exact h⟩

end Go.Proofs.Ytanpmilodaejpaa.Gh
