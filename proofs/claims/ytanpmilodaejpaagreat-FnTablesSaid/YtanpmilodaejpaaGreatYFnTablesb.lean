/- What the functions that the law FnTables reaches return, and the law; it stands under no condition. -/
import Derived.Test.YtanpmilodaejpaaGreatYFnTablesa
import Derived.Shelf.SlSortCmp.NoneTotal
import Derived.Lib.QuietBelow
import Derived.Shelf.SortG.Plain
import Derived.Shelf.SortG.SortNone
namespace Go.Proofs.YtanpmilodaejpaaGreat.Gh
open Go Go.RowKit Go.Proofs
set_option linter.unusedVariables false
set_option linter.unusedSimpArgs false
set_option maxHeartbeats 4000000

theorem st_one {G : GH} {b o : Nat} {cs : List Value} {v : Value} {K : Value → GH → Prop} (hb : G b = some ⟨cs, true⟩) (ho : o < cs.length) (h1 : oneB v = true) (hk : K undef (put G b ⟨cs.set o v, true⟩)) : gSt 1 (.pointer (some ⟨b, o, none⟩)) v G K := by
  have hc : v.cells = #[v] := by cases v <;> first | rfl | simp [oneB] at h1
  refine ⟨b, o, cs, rfl, hb, by rw [hc]; rfl, by omega, ?_, ?_⟩
  · rw [hc]; intro u hu; simp at hu; subst hu; exact h1
  · rw [hc]; exact hk
theorem zc_one (z : Value) (n : Nat) : zc [z] n = List.replicate n z := by
  apply List.ext_getElem
  · simp [zc]
  · intro i h1 h2; simp [zc, Nat.mod_one, List.getD]
theorem list_eq_iff {xs ys : List Int} (h : xs.length = ys.length) : xs = ys ↔ ∀ i, i < xs.length → xs.getD i 0 = ys.getD i 0 := by
  constructor
  · rintro rfl i _; rfl
  · intro k
    apply List.ext_getElem h
    intro i h1 h2
    have := k i h1
    simpa [List.getD, h1, h2] using this
theorem spec_l00Same_ok {G : GH} {A B : Option Addr} {c d : Nat} {xs ys : List Int} (h : IntS G A c xs) (h' : IntS G B d ys) (hl : xs.length < 2 ^ 40) {K : Value → GH → Prop}
    (hk : K (.bool (decide (xs = ys))) G) : GC Tryz.prog 192 [.slice A xs.length c, .slice B ys.length d] G K := by
  refine c_spec_l00Same_i (by simp) ?_
  have hsn := h.sn
  have hrd := h.rd
  have hsn' := h'.sn
  have hrd' := h'.rd
  simp (maxSteps := 300000) (disch := omega) only [gs, gs2, gs3, gs4, ↓reduceIte, Nat.reduceEqDiff, Int.reduceToNat, Nat.reduceMul, Nat.reduceAdd, Nat.reduceBEq, isLd]
  by_cases hne : xs.length = ys.length
  · simp (maxSteps := 300000) (disch := omega) only [gs, gs2, gs3, gs4, ↓reduceIte, Nat.reduceEqDiff, Int.reduceToNat, Nat.reduceMul, Nat.reduceAdd, Nat.reduceBEq, isLd, show ((xs.length : Int) = ys.length) = True by simp [hne], not_true]
    refine gLoop_intro (fun m T G' => ∃ k : Nat, T 0 = .slice A xs.length c ∧ T 1 = .slice B ys.length d ∧ T 5 = .int .i64 k ∧ m + k = xs.length ∧ k ≤ xs.length ∧ G' = G ∧ ∀ i, i < k → xs.getD i 0 = ys.getD i 0) xs.length
      ⟨0, by simp (maxSteps := 300000) (disch := omega) only [gs, gs2, gs3, gs4, ↓reduceIte, Nat.reduceEqDiff, Int.reduceToNat, Nat.reduceMul, Nat.reduceAdd, Nat.reduceBEq, isLd], by simp (maxSteps := 300000) (disch := omega) only [gs, gs2, gs3, gs4, ↓reduceIte, Nat.reduceEqDiff, Int.reduceToNat, Nat.reduceMul, Nat.reduceAdd, Nat.reduceBEq, isLd], by simp (maxSteps := 300000) (disch := omega) only [gs, gs2, gs3, gs4, ↓reduceIte, Nat.reduceEqDiff, Int.reduceToNat, Nat.reduceMul, Nat.reduceAdd, Nat.reduceBEq, isLd] <;> rfl, by omega, by omega, rfl, fun i hi => by omega⟩ ?_
    rintro m T G' ⟨k, h0, h1, h5, hm, hkl, rfl, hinv⟩
    simp (maxSteps := 300000) (disch := omega) only [gs, gs2, gs3, gs4, ↓reduceIte, Nat.reduceEqDiff, Int.reduceToNat, Nat.reduceMul, Nat.reduceAdd, Nat.reduceBEq, isLd, h0, h1, h5]
    by_cases hlt : (k : Int) < xs.length
    · simp (maxSteps := 300000) (disch := omega) only [gs, gs2, gs3, gs4, ↓reduceIte, Nat.reduceEqDiff, Int.reduceToNat, Nat.reduceMul, Nat.reduceAdd, Nat.reduceBEq, isLd, h0, h1, h5, hlt, hrd, hrd']
      by_cases hkk : xs.getD k 0 = ys.getD k 0
      · simp (maxSteps := 300000) (disch := omega) only [gs, gs2, gs3, gs4, ↓reduceIte, Nat.reduceEqDiff, Int.reduceToNat, Nat.reduceMul, Nat.reduceAdd, Nat.reduceBEq, isLd, hkk, h0, h1, h5, not_true]
        refine ⟨m - 1, by omega, _, Sub.refl _, k + 1, rfl, by omega, by omega, rfl, fun i hi => ?_⟩
        by_cases hik : i = k
        · subst hik; exact hkk
        · exact hinv i (by omega)
      · simp (maxSteps := 300000) (disch := omega) only [gs, gs2, gs3, gs4, ↓reduceIte, Nat.reduceEqDiff, Int.reduceToNat, Nat.reduceMul, Nat.reduceAdd, Nat.reduceBEq, isLd, hkk, not_false_eq_true]
        have : ¬ xs = ys := by rintro rfl; exact hkk rfl
        simpa [this] using hk
    · simp (maxSteps := 300000) (disch := omega) only [gs, gs2, gs3, gs4, ↓reduceIte, Nat.reduceEqDiff, Int.reduceToNat, Nat.reduceMul, Nat.reduceAdd, Nat.reduceBEq, isLd, h0, h1, h5, hlt]
      have : xs = ys := (list_eq_iff hne).2 fun i hi => hinv i (by omega)
      simpa [this] using hk
  · simp (maxSteps := 300000) (disch := omega) only [gs, gs2, gs3, gs4, ↓reduceIte, Nat.reduceEqDiff, Int.reduceToNat, Nat.reduceMul, Nat.reduceAdd, Nat.reduceBEq, isLd, show ((xs.length : Int) = ys.length) = False by simp; omega, not_false_eq_true]
    have : ¬ xs = ys := by rintro rfl; exact hne rfl
    simpa [this] using hk
/-- the place of the first element that meets p, or -1. -/
def idxI (p : Int → Bool) (xs : List Int) : Int := match xs.findIdx? p with | some i => i | none => -1
theorem idxI_none {p : Int → Bool} {xs : List Int} (h : ∀ i, i < xs.length → p (xs.getD i 0) = false) : idxI p xs = -1 := by
  have : xs.findIdx? p = none := by
    rw [List.findIdx?_eq_none_iff]
    intro x hx
    obtain ⟨i, hi, rfl⟩ := List.getElem_of_mem hx
    simpa [List.getD, hi] using h i hi
  simp [idxI, this]
theorem idxI_some {p : Int → Bool} {xs : List Int} {k : Nat} (hk : k < xs.length) (hp : p (xs.getD k 0) = true) (h : ∀ i, i < k → p (xs.getD i 0) = false) : idxI p xs = k := by
  have : xs.findIdx? p = some k := by
    rw [List.findIdx?_eq_some_iff_getElem]
    refine ⟨hk, by simpa [List.getD, hk] using hp, fun j hj => ?_⟩
    have := h j hj
    simpa [List.getD, show j < xs.length by omega] using this
  simp [idxI, this]
theorem slices_IndexFunc_ok {G : GH} {A : Option Addr} {c : Nat} {xs : List Int} {f : Value} (p : Int → Bool) (h : IntS G A c xs) (hl : xs.length < 2 ^ 40)
    (hf : ∀ i, i < xs.length → ∀ K : Value → GH → Prop, K (.bool (p (xs.getD i 0))) G → gCl Tryz.prog f [.int .i64 (xs.getD i 0)] G K) {K : Value → GH → Prop}
    (hk : K (.int .i64 (idxI p xs)) G) : GC Tryz.prog 166 [.slice A xs.length c, f] G K := by
  refine c_slices_IndexFunc_int64_int64_i (by simp) ?_
  have hsn := h.sn
  have hrd := h.rd
  simp (maxSteps := 300000) (disch := omega) only [gs, gs2, gs3, gs4, ↓reduceIte, Nat.reduceEqDiff, Int.reduceToNat, Nat.reduceMul, Nat.reduceAdd, Nat.reduceBEq, isLd]
  refine gLoop_intro (fun m T G' => ∃ k : Nat, T 0 = .slice A xs.length c ∧ T 1 = f ∧ T 7 = .int .i64 xs.length ∧ T 8 = .int .i64 k ∧ m + k = xs.length ∧ k ≤ xs.length ∧ G' = G ∧ ∀ i, i < k → p (xs.getD i 0) = false) xs.length
    ⟨0, by simp (maxSteps := 300000) (disch := omega) only [gs, gs2, gs3, gs4, ↓reduceIte, Nat.reduceEqDiff, Int.reduceToNat, Nat.reduceMul, Nat.reduceAdd, Nat.reduceBEq, isLd], by simp (maxSteps := 300000) (disch := omega) only [gs, gs2, gs3, gs4, ↓reduceIte, Nat.reduceEqDiff, Int.reduceToNat, Nat.reduceMul, Nat.reduceAdd, Nat.reduceBEq, isLd], by simp (maxSteps := 300000) (disch := omega) only [gs, gs2, gs3, gs4, ↓reduceIte, Nat.reduceEqDiff, Int.reduceToNat, Nat.reduceMul, Nat.reduceAdd, Nat.reduceBEq, isLd], by simp (maxSteps := 300000) (disch := omega) only [gs, gs2, gs3, gs4, ↓reduceIte, Nat.reduceEqDiff, Int.reduceToNat, Nat.reduceMul, Nat.reduceAdd, Nat.reduceBEq, isLd] <;> rfl, by omega, by omega, rfl, fun i hi => by omega⟩ ?_
  rintro m T G' ⟨k, h0, h1, h7, h8, hm, hkl, rfl, hinv⟩
  simp (maxSteps := 300000) (disch := omega) only [gs, gs2, gs3, gs4, ↓reduceIte, Nat.reduceEqDiff, Int.reduceToNat, Nat.reduceMul, Nat.reduceAdd, Nat.reduceBEq, isLd, h0, h1, h7, h8]
  by_cases hlt : (k : Int) < xs.length
  · simp (maxSteps := 300000) (disch := omega) only [gs, gs2, gs3, gs4, ↓reduceIte, Nat.reduceEqDiff, Int.reduceToNat, Nat.reduceMul, Nat.reduceAdd, Nat.reduceBEq, isLd, h0, h1, h7, h8, hlt, hrd]
    refine hf k (by omega) _ ?_
    simp (maxSteps := 300000) (disch := omega) only [gs, gs2, gs3, gs4, ↓reduceIte, Nat.reduceEqDiff, Int.reduceToNat, Nat.reduceMul, Nat.reduceAdd, Nat.reduceBEq, isLd, h0, h1, h7, h8]
    cases hp : p (xs.getD k 0)
    · simp (maxSteps := 300000) (disch := omega) only [gs, gs2, gs3, gs4, ↓reduceIte, Nat.reduceEqDiff, Int.reduceToNat, Nat.reduceMul, Nat.reduceAdd, Nat.reduceBEq, isLd, h0, h1, h7, h8]
      refine ⟨m - 1, by omega, _, Sub.refl _, k + 1, rfl, by omega, by omega, rfl, fun i hi => ?_⟩
      by_cases hik : i = k
      · subst hik; exact hp
      · exact hinv i (by omega)
    · simp (maxSteps := 300000) (disch := omega) only [gs, gs2, gs3, gs4, ↓reduceIte, Nat.reduceEqDiff, Int.reduceToNat, Nat.reduceMul, Nat.reduceAdd, Nat.reduceBEq, isLd, h0, h1, h7, h8]
      rw [idxI_some (by omega) hp hinv] at hk; exact hk
  · simp (maxSteps := 300000) (disch := omega) only [gs, gs2, gs3, gs4, ↓reduceIte, Nat.reduceEqDiff, Int.reduceToNat, Nat.reduceMul, Nat.reduceAdd, Nat.reduceBEq, isLd, h0, h1, h7, h8, hlt]
    rw [idxI_none (fun i hi => hinv i (by omega))] at hk; exact hk
theorem slices_ContainsFunc_ok {G : GH} {A : Option Addr} {c : Nat} {xs : List Int} {f : Value} (p : Int → Bool) (h : IntS G A c xs) (hl : xs.length < 2 ^ 40)
    (hf : ∀ i, i < xs.length → ∀ K : Value → GH → Prop, K (.bool (p (xs.getD i 0))) G → gCl Tryz.prog f [.int .i64 (xs.getD i 0)] G K) {K : Value → GH → Prop}
    (hk : K (.bool (xs.any p)) G) : GC Tryz.prog 86 [.slice A xs.length c, f] G K := by
  refine c_slices_ContainsFunc_int64_int64_i (by simp) ?_
  simp (maxSteps := 300000) (disch := omega) only [gs, gs2, gs3, gs4, ↓reduceIte, Nat.reduceEqDiff, Int.reduceToNat, Nat.reduceMul, Nat.reduceAdd, Nat.reduceBEq, isLd]
  refine slices_IndexFunc_ok p h hl hf ?_
  simp (maxSteps := 300000) (disch := omega) only [gs, gs2, gs3, gs4, ↓reduceIte, Nat.reduceEqDiff, Int.reduceToNat, Nat.reduceMul, Nat.reduceAdd, Nat.reduceBEq, isLd]
  have : decide (0 ≤ idxI p xs) = xs.any p := by
    unfold idxI
    cases hi : xs.findIdx? p with
    | none =>
      rw [List.findIdx?_eq_none_iff] at hi
      have : xs.any p = false := by rw [List.any_eq_false]; intro x hx; simp [hi x hx]
      simp [this]
    | some i =>
      rw [List.findIdx?_eq_some_iff_getElem] at hi
      obtain ⟨h1, h2, _⟩ := hi
      have : xs.any p = true := List.any_eq_true.2 ⟨xs[i], List.getElem_mem h1, h2⟩
      simp [this]
  rw [this]; exact hk
theorem spec_l00In_ok (a b c : Int) {G : GH} {K : Value → GH → Prop} (hk : K (.bool (decide (b ≤ a ∧ a ≤ c))) G) : GC Tryz.prog 132 [.int .i64 a, .int .i64 b, .int .i64 c] G K := by
  refine c_spec_l00In_i (by simp) ?_
  simp (maxSteps := 300000) (disch := omega) only [gs, gs2, gs3, gs4, ↓reduceIte, Nat.reduceEqDiff, Int.reduceToNat, Nat.reduceMul, Nat.reduceAdd, Nat.reduceBEq, isLd]
  by_cases h1 : b ≤ a
  · simp (maxSteps := 300000) (disch := omega) only [gs, gs2, gs3, gs4, ↓reduceIte, Nat.reduceEqDiff, Int.reduceToNat, Nat.reduceMul, Nat.reduceAdd, Nat.reduceBEq, isLd, h1]
    simpa [h1] using hk
  · simp (maxSteps := 300000) (disch := omega) only [gs, gs2, gs3, gs4, ↓reduceIte, Nat.reduceEqDiff, Int.reduceToNat, Nat.reduceMul, Nat.reduceAdd, Nat.reduceBEq, isLd, h1]
    simpa [h1] using hk
theorem impl_within_ok (a b c : Int) {G : GH} {K : Value → GH → Prop} (hk : K (.bool (decide (b ≤ a ∧ a ≤ c))) G) : GC Tryz.prog 207 [.int .i64 a, .int .i64 b, .int .i64 c] G K := by
  refine c_impl_within_i (by simp) ?_
  simp (maxSteps := 300000) (disch := omega) only [gs, gs2, gs3, gs4, ↓reduceIte, Nat.reduceEqDiff, Int.reduceToNat, Nat.reduceMul, Nat.reduceAdd, Nat.reduceBEq, isLd]
  by_cases h1 : b ≤ a
  · simp (maxSteps := 300000) (disch := omega) only [gs, gs2, gs3, gs4, ↓reduceIte, Nat.reduceEqDiff, Int.reduceToNat, Nat.reduceMul, Nat.reduceAdd, Nat.reduceBEq, isLd, h1]
    simpa [h1] using hk
  · simp (maxSteps := 300000) (disch := omega) only [gs, gs2, gs3, gs4, ↓reduceIte, Nat.reduceEqDiff, Int.reduceToNat, Nat.reduceMul, Nat.reduceAdd, Nat.reduceBEq, isLd, h1]
    simpa [h1] using hk
def cmp3 (a b : Int) : Int := if a < b then -1 else if b < a then 1 else 0
theorem cmp_isNaN_ok (a : Int) {G : GH} {K : Value → GH → Prop} (hk : K (.bool false) G) : GC Tryz.prog 253 [.int .i64 a] G K := by
  refine c_cmp_isNaN_int64_i (by simp) ?_
  simp (maxSteps := 300000) (disch := omega) only [gs, gs2, gs3, gs4, ↓reduceIte, Nat.reduceEqDiff, Int.reduceToNat, Nat.reduceMul, Nat.reduceAdd, Nat.reduceBEq, isLd]
  exact hk
theorem cmp_Compare_ok (a b : Int) {G : GH} {K : Value → GH → Prop} (hk : K (.int .i64 (cmp3 a b)) G) : GC Tryz.prog 226 [.int .i64 a, .int .i64 b] G K := by
  refine c_cmp_Compare_int64_i (by simp) ?_
  simp (maxSteps := 300000) (disch := omega) only [gs, gs2, gs3, gs4, ↓reduceIte, Nat.reduceEqDiff, Int.reduceToNat, Nat.reduceMul, Nat.reduceAdd, Nat.reduceBEq, isLd]
  refine cmp_isNaN_ok _ ?_
  simp (maxSteps := 300000) (disch := omega) only [gs, gs2, gs3, gs4, ↓reduceIte, Nat.reduceEqDiff, Int.reduceToNat, Nat.reduceMul, Nat.reduceAdd, Nat.reduceBEq, isLd]
  refine cmp_isNaN_ok _ ?_
  simp (maxSteps := 300000) (disch := omega) only [gs, gs2, gs3, gs4, ↓reduceIte, Nat.reduceEqDiff, Int.reduceToNat, Nat.reduceMul, Nat.reduceAdd, Nat.reduceBEq, isLd]
  unfold cmp3 at hk
  by_cases h1 : a < b
  · simp (maxSteps := 300000) (disch := omega) only [gs, gs2, gs3, gs4, ↓reduceIte, Nat.reduceEqDiff, Int.reduceToNat, Nat.reduceMul, Nat.reduceAdd, Nat.reduceBEq, isLd, h1]; rwa [if_pos h1] at hk
  · rw [if_neg h1] at hk
    simp (maxSteps := 300000) (disch := omega) only [gs, gs2, gs3, gs4, ↓reduceIte, Nat.reduceEqDiff, Int.reduceToNat, Nat.reduceMul, Nat.reduceAdd, Nat.reduceBEq, isLd, h1]
    by_cases h2 : b < a
    · simp (maxSteps := 300000) (disch := omega) only [gs, gs2, gs3, gs4, ↓reduceIte, Nat.reduceEqDiff, Int.reduceToNat, Nat.reduceMul, Nat.reduceAdd, Nat.reduceBEq, isLd, h2]; rwa [if_pos h2] at hk
    · simp (maxSteps := 300000) (disch := omega) only [gs, gs2, gs3, gs4, ↓reduceIte, Nat.reduceEqDiff, Int.reduceToNat, Nat.reduceMul, Nat.reduceAdd, Nat.reduceBEq, isLd, h2]; rwa [if_neg h2] at hk
theorem impl_isElement_ok (a p : Int) {G : GH} {K : Value → GH → Prop} (hk : K (.bool (decide (0 ≤ a ∧ a ≤ IntKind.i64.wrap (p - 1)))) G) : GC Tryz.prog 221 [.int .i64 a, .int .i64 p] G K := by
  refine c_impl_isElement_i (by simp) ?_
  simp (maxSteps := 300000) (disch := omega) only [gs, gs2, gs3, gs4, ↓reduceIte, Nat.reduceEqDiff, Int.reduceToNat, Nat.reduceMul, Nat.reduceAdd, Nat.reduceBEq, isLd]
  refine impl_within_ok _ _ _ ?_
  simp (maxSteps := 300000) (disch := omega) only [gs, gs2, gs3, gs4, ↓reduceIte, Nat.reduceEqDiff, Int.reduceToNat, Nat.reduceMul, Nat.reduceAdd, Nat.reduceBEq, isLd]
  exact hk
def Rise (xs : List Int) : Prop := ∀ i, i + 1 < xs.length → xs.getD i 0 < xs.getD (i + 1) 0
def InB (xs : List Int) (lo hi : Int) : Prop := ∀ i, i < xs.length → lo ≤ xs.getD i 0 ∧ xs.getD i 0 ≤ hi
theorem inB_mem {xs : List Int} {lo hi : Int} : InB xs lo hi ↔ ∀ x ∈ xs, lo ≤ x ∧ x ≤ hi := by
  constructor
  · intro h x hx
    obtain ⟨i, hi, rfl⟩ := List.getElem_of_mem hx
    simpa [List.getD, hi] using h i hi
  · intro h i hi
    exact h _ (by simp [List.getD, hi])
theorem spec_l00Rises_ok {G : GH} {A : Option Addr} {c : Nat} {xs : List Int} {lo hi : Int} (h : IntS G A c xs) (hl : xs.length < 2 ^ 40) {K : Value → GH → Prop}
    (hk : ∀ b : Bool, (b = true ↔ InB xs lo hi ∧ Rise xs) → K (.bool b) G) : GC Tryz.prog 157 [.slice A xs.length c, .int .i64 lo, .int .i64 hi] G K := by
  refine c_spec_l00Rises_i (by simp) ?_
  have hsn := h.sn
  have r := h.rd
  have hno : ¬ (InB xs lo hi ∧ Rise xs) → K (.bool false) G := fun hx => hk false (by simp [hx])
  simp (maxSteps := 300000) (disch := omega) only [gs, gs2, gs3, gs4, ↓reduceIte, Nat.reduceEqDiff, Int.reduceToNat, Nat.reduceMul, Nat.reduceAdd, Nat.reduceBEq, isLd]
  refine gLoop_intro (fun m T G' => ∃ k : Nat, T 0 = .slice A xs.length c ∧ T 1 = .int .i64 lo ∧ T 2 = .int .i64 hi ∧ T 7 = .int .i64 k ∧ m + k = xs.length ∧ k ≤ xs.length ∧ G' = G ∧ (∀ i, i < k → lo ≤ xs.getD i 0 ∧ xs.getD i 0 ≤ hi) ∧ ∀ i, i + 1 < k → xs.getD i 0 < xs.getD (i + 1) 0)
    xs.length ⟨0, by simp (maxSteps := 300000) (disch := omega) only [gs, gs2, gs3, gs4, ↓reduceIte, Nat.reduceEqDiff, Int.reduceToNat, Nat.reduceMul, Nat.reduceAdd, Nat.reduceBEq, isLd], by simp (maxSteps := 300000) (disch := omega) only [gs, gs2, gs3, gs4, ↓reduceIte, Nat.reduceEqDiff, Int.reduceToNat, Nat.reduceMul, Nat.reduceAdd, Nat.reduceBEq, isLd], by simp (maxSteps := 300000) (disch := omega) only [gs, gs2, gs3, gs4, ↓reduceIte, Nat.reduceEqDiff, Int.reduceToNat, Nat.reduceMul, Nat.reduceAdd, Nat.reduceBEq, isLd], by simp (maxSteps := 300000) (disch := omega) only [gs, gs2, gs3, gs4, ↓reduceIte, Nat.reduceEqDiff, Int.reduceToNat, Nat.reduceMul, Nat.reduceAdd, Nat.reduceBEq, isLd] <;> rfl, by omega, by omega, rfl, fun i hi => by omega, fun i hi => by omega⟩ ?_
  rintro m T G' ⟨k, e0, e1, e2, e7, hm, hkl, rfl, hin, hri⟩
  simp (maxSteps := 300000) (disch := omega) only [gs, gs2, gs3, gs4, ↓reduceIte, Nat.reduceEqDiff, Int.reduceToNat, Nat.reduceMul, Nat.reduceAdd, Nat.reduceBEq, isLd, e0, e1, e2, e7]
  by_cases hkk : (k : Int) < xs.length
  · simp (maxSteps := 300000) (disch := omega) only [gs, gs2, gs3, gs4, ↓reduceIte, Nat.reduceEqDiff, Int.reduceToNat, Nat.reduceMul, Nat.reduceAdd, Nat.reduceBEq, isLd, e0, e1, e2, e7, hkk, r]
    refine spec_l00In_ok _ _ _ ?_
    simp (maxSteps := 300000) (disch := omega) only [gs, gs2, gs3, gs4, ↓reduceIte, Nat.reduceEqDiff, Int.reduceToNat, Nat.reduceMul, Nat.reduceAdd, Nat.reduceBEq, isLd, e0, e1, e2, e7, hkk, r]
    cases g1 : decide (lo ≤ xs.getD k 0 ∧ xs.getD k 0 ≤ hi)
    · simp (maxSteps := 300000) (disch := omega) only [gs, gs2, gs3, gs4, ↓reduceIte, Nat.reduceEqDiff, Int.reduceToNat, Nat.reduceMul, Nat.reduceAdd, Nat.reduceBEq, isLd, e0, e1, e2, e7, hkk, r]
      have g1 := of_decide_eq_false g1
      exact hno fun hx => g1 (hx.1 k (by omega))
    · simp (maxSteps := 300000) (disch := omega) only [gs, gs2, gs3, gs4, ↓reduceIte, Nat.reduceEqDiff, Int.reduceToNat, Nat.reduceMul, Nat.reduceAdd, Nat.reduceBEq, isLd, e0, e1, e2, e7, hkk, r]
      have g1 := of_decide_eq_true g1
      have hin' : ∀ i, i < k + 1 → lo ≤ xs.getD i 0 ∧ xs.getD i 0 ≤ hi := fun i hi => by
        by_cases hik : i = k
        · subst hik; exact g1
        · exact hin i (by omega)
      by_cases hk0 : (0 : Int) < k
      · simp (maxSteps := 300000) (disch := omega) only [gs, gs2, gs3, gs4, ↓reduceIte, Nat.reduceEqDiff, Int.reduceToNat, Nat.reduceMul, Nat.reduceAdd, Nat.reduceBEq, isLd, e0, e1, e2, e7, hkk, hk0, r]
        by_cases g2 : xs.getD k 0 ≤ xs.getD ((k : Int) - 1).toNat 0
        · simp (maxSteps := 300000) (disch := omega) only [gs, gs2, gs3, gs4, ↓reduceIte, Nat.reduceEqDiff, Int.reduceToNat, Nat.reduceMul, Nat.reduceAdd, Nat.reduceBEq, isLd, e0, e1, e2, e7, hkk, g2, r]
          exact hno fun hx => by
            have := hx.2 (k - 1) (by omega)
            rw [show k - 1 + 1 = k by omega, show k - 1 = ((k : Int) - 1).toNat by omega] at this
            omega
        · simp (maxSteps := 300000) (disch := omega) only [gs, gs2, gs3, gs4, ↓reduceIte, Nat.reduceEqDiff, Int.reduceToNat, Nat.reduceMul, Nat.reduceAdd, Nat.reduceBEq, isLd, e0, e1, e2, e7, hkk, g2, r]
          refine ⟨m - 1, by omega, _, Sub.refl _, k + 1, rfl, by omega, by omega, rfl, hin', fun i hi => ?_⟩
          by_cases hik : i + 1 = k
          · rw [hik, show i = ((k : Int) - 1).toNat by omega]; omega
          · exact hri i (by omega)
      · simp (maxSteps := 300000) (disch := omega) only [gs, gs2, gs3, gs4, ↓reduceIte, Nat.reduceEqDiff, Int.reduceToNat, Nat.reduceMul, Nat.reduceAdd, Nat.reduceBEq, isLd, e0, e1, e2, e7, hkk, hk0, r]
        exact ⟨m - 1, by omega, _, Sub.refl _, k + 1, rfl, by omega, by omega, rfl, hin', fun i hi => by omega⟩
  · simp (maxSteps := 300000) (disch := omega) only [gs, gs2, gs3, gs4, ↓reduceIte, Nat.reduceEqDiff, Int.reduceToNat, Nat.reduceMul, Nat.reduceAdd, Nat.reduceBEq, isLd, e0, e1, e2, e7, hkk]
    exact hk true (by simp; exact ⟨fun i hi => hin i (by omega), fun i hi => hri i (by omega)⟩)
theorem impl_isRising_ok {G : GH} {A : Option Addr} {c : Nat} {xs : List Int} (h : IntS G A c xs) (hl : xs.length < 2 ^ 40) {K : Value → GH → Prop}
    (hk : ∀ b : Bool, (b = true ↔ Rise xs) → K (.bool b) G) : GC Tryz.prog 110 [.slice A xs.length c] G K := by
  refine c_impl_isRising_i (by simp) ?_
  have hsn := h.sn
  have r := h.rd
  simp (maxSteps := 300000) (disch := omega) only [gs, gs2, gs3, gs4, ↓reduceIte, Nat.reduceEqDiff, Int.reduceToNat, Nat.reduceMul, Nat.reduceAdd, Nat.reduceBEq, isLd]
  refine gLoop_intro (fun m T G' => ∃ k : Nat, T 0 = .slice A xs.length c ∧ T 3 = .int .i64 k ∧ m + k = xs.length + 1 ∧ 1 ≤ k ∧ G' = G ∧ ∀ i, i + 1 < k → i + 1 < xs.length → xs.getD i 0 < xs.getD (i + 1) 0)
    xs.length ⟨1, by simp (maxSteps := 300000) (disch := omega) only [gs, gs2, gs3, gs4, ↓reduceIte, Nat.reduceEqDiff, Int.reduceToNat, Nat.reduceMul, Nat.reduceAdd, Nat.reduceBEq, isLd], by simp (maxSteps := 300000) (disch := omega) only [gs, gs2, gs3, gs4, ↓reduceIte, Nat.reduceEqDiff, Int.reduceToNat, Nat.reduceMul, Nat.reduceAdd, Nat.reduceBEq, isLd] <;> rfl, by omega, by omega, rfl, fun i hi => by omega⟩ ?_
  rintro m T G' ⟨k, e0, e3, hm, hkl, rfl, hri⟩
  simp (maxSteps := 300000) (disch := omega) only [gs, gs2, gs3, gs4, ↓reduceIte, Nat.reduceEqDiff, Int.reduceToNat, Nat.reduceMul, Nat.reduceAdd, Nat.reduceBEq, isLd, e0, e3]
  by_cases hkk : (k : Int) < xs.length
  · simp (maxSteps := 300000) (disch := omega) only [gs, gs2, gs3, gs4, ↓reduceIte, Nat.reduceEqDiff, Int.reduceToNat, Nat.reduceMul, Nat.reduceAdd, Nat.reduceBEq, isLd, e0, e3, hkk, r]
    by_cases g2 : xs.getD k 0 ≤ xs.getD ((k : Int) - 1).toNat 0
    · simp (maxSteps := 300000) (disch := omega) only [gs, gs2, gs3, gs4, ↓reduceIte, Nat.reduceEqDiff, Int.reduceToNat, Nat.reduceMul, Nat.reduceAdd, Nat.reduceBEq, isLd, e0, e3, hkk, g2, r]
      refine hk false ?_
      simp
      exact fun hx => by
        have := hx (k - 1) (by omega)
        rw [show k - 1 + 1 = k by omega, show k - 1 = ((k : Int) - 1).toNat by omega] at this
        omega
    · simp (maxSteps := 300000) (disch := omega) only [gs, gs2, gs3, gs4, ↓reduceIte, Nat.reduceEqDiff, Int.reduceToNat, Nat.reduceMul, Nat.reduceAdd, Nat.reduceBEq, isLd, e0, e3, hkk, g2, r]
      refine ⟨m - 1, by omega, _, Sub.refl _, k + 1, rfl, by omega, by omega, rfl, fun i hi hi' => ?_⟩
      by_cases hik : i + 1 = k
      · rw [hik, show i = ((k : Int) - 1).toNat by omega]; omega
      · exact hri i (by omega) hi'
  · simp (maxSteps := 300000) (disch := omega) only [gs, gs2, gs3, gs4, ↓reduceIte, Nat.reduceEqDiff, Int.reduceToNat, Nat.reduceMul, Nat.reduceAdd, Nat.reduceBEq, isLd, e0, e3, hkk]
    exact hk true (by simp; exact fun i hi => hri i (by omega) hi)
theorem impl_areElements_ok {G : GH} {A : Option Addr} {c : Nat} {xs : List Int} {p : Int} (h : IntS G A c xs) (hl : xs.length < 2 ^ 40) {K : Value → GH → Prop}
    (hk : ∀ b : Bool, (b = true ↔ InB xs 0 (IntKind.i64.wrap (p - 1))) → K (.bool b) G) : GC Tryz.prog 156 [.slice A xs.length c, .int .i64 p] G K := by
  refine GC_drop (c_impl_areElements_i (by simp) ?_)
  simp (maxSteps := 300000) (disch := omega) only [gs, gs2, gs3, gs4, ↓reduceIte, Nat.reduceEqDiff, Int.reduceToNat, Nat.reduceMul, Nat.reduceAdd, Nat.reduceBEq, isLd]
  intro b1 hb1
  simp (maxSteps := 300000) (disch := omega) only [gs, gs2, gs3, gs4, ↓reduceIte, Nat.reduceEqDiff, Int.reduceToNat, Nat.reduceMul, Nat.reduceAdd, Nat.reduceBEq, isLd]
  have s1 := Sub.put hb1 ⟨[.int .i64 p], true⟩
  refine slices_ContainsFunc_ok (fun n => !decide (0 ≤ n ∧ n ≤ IntKind.i64.wrap (p - 1))) (h.sub s1) hl (fun i hi K' hK' => ?_) ?_
  · simp (maxSteps := 300000) (disch := omega) only [gs, gs2, gs3, gs4, ↓reduceIte, Nat.reduceEqDiff, Int.reduceToNat, Nat.reduceMul, Nat.reduceAdd, Nat.reduceBEq, isLd]
    refine c_impl_areElements_fn1_i (by simp) ?_
    simp (maxSteps := 300000) (disch := omega) only [gs, gs2, gs3, gs4, ↓reduceIte, Nat.reduceEqDiff, Int.reduceToNat, Nat.reduceMul, Nat.reduceAdd, Nat.reduceBEq, isLd]
    refine impl_isElement_ok _ _ ?_
    simp (maxSteps := 300000) (disch := omega) only [gs, gs2, gs3, gs4, ↓reduceIte, Nat.reduceEqDiff, Int.reduceToNat, Nat.reduceMul, Nat.reduceAdd, Nat.reduceBEq, isLd]
    exact hK'
  · generalize hany : (xs.any fun n => !decide (0 ≤ n ∧ n ≤ IntKind.i64.wrap (p - 1))) = bb
    simp (maxSteps := 300000) (disch := omega) only [gs, gs2, gs3, gs4, ↓reduceIte, Nat.reduceEqDiff, Int.reduceToNat, Nat.reduceMul, Nat.reduceAdd, Nat.reduceBEq, isLd]
    refine ⟨G, s1, hk _ ?_⟩
    rw [inB_mem]
    cases bb
    · rw [List.any_eq_false] at hany
      simp
      exact fun x hx => by simpa using hany x hx
    · rw [List.any_eq_true] at hany
      obtain ⟨x, hx, hy⟩ := hany
      simp
      exact ⟨x, hx, fun h0 => by rcases (by simpa using hy : x < 0 ∨ IntKind.i64.wrap (p - 1) < x) with h | h <;> omega⟩
theorem slices_Index_ok {G : GH} {A : Option Addr} {c : Nat} {xs : List Int} {v : Int} (h : IntS G A c xs) (hl : xs.length < 2 ^ 40) {K : Value → GH → Prop}
    (hk : K (.int .i64 (idxI (fun x => decide (x = v)) xs)) G) : GC Tryz.prog 96 [.slice A xs.length c, .int .i64 v] G K := by
  refine c_slices_Index_int64_int64_i (by simp) ?_
  have hsn := h.sn
  have r := h.rd
  simp (maxSteps := 300000) (disch := omega) only [gs, gs2, gs3, gs4, ↓reduceIte, Nat.reduceEqDiff, Int.reduceToNat, Nat.reduceMul, Nat.reduceAdd, Nat.reduceBEq, isLd]
  refine gLoop_intro (fun m T G' => ∃ k : Nat, T 0 = .slice A xs.length c ∧ T 1 = .int .i64 v ∧ T 7 = .int .i64 xs.length ∧ T 8 = .int .i64 k ∧ m + k = xs.length ∧ k ≤ xs.length ∧ G' = G ∧ ∀ i, i < k → xs.getD i 0 ≠ v) xs.length
    ⟨0, by simp (maxSteps := 300000) (disch := omega) only [gs, gs2, gs3, gs4, ↓reduceIte, Nat.reduceEqDiff, Int.reduceToNat, Nat.reduceMul, Nat.reduceAdd, Nat.reduceBEq, isLd], by simp (maxSteps := 300000) (disch := omega) only [gs, gs2, gs3, gs4, ↓reduceIte, Nat.reduceEqDiff, Int.reduceToNat, Nat.reduceMul, Nat.reduceAdd, Nat.reduceBEq, isLd], by simp (maxSteps := 300000) (disch := omega) only [gs, gs2, gs3, gs4, ↓reduceIte, Nat.reduceEqDiff, Int.reduceToNat, Nat.reduceMul, Nat.reduceAdd, Nat.reduceBEq, isLd], by simp (maxSteps := 300000) (disch := omega) only [gs, gs2, gs3, gs4, ↓reduceIte, Nat.reduceEqDiff, Int.reduceToNat, Nat.reduceMul, Nat.reduceAdd, Nat.reduceBEq, isLd] <;> rfl, by omega, by omega, rfl, fun i hi => by omega⟩ ?_
  rintro m T G' ⟨k, e0, e1, e7, e8, hm, hkl, rfl, hin⟩
  simp (maxSteps := 300000) (disch := omega) only [gs, gs2, gs3, gs4, ↓reduceIte, Nat.reduceEqDiff, Int.reduceToNat, Nat.reduceMul, Nat.reduceAdd, Nat.reduceBEq, isLd, e0, e1, e7, e8]
  by_cases hkk : (k : Int) < xs.length
  · simp (maxSteps := 300000) (disch := omega) only [gs, gs2, gs3, gs4, ↓reduceIte, Nat.reduceEqDiff, Int.reduceToNat, Nat.reduceMul, Nat.reduceAdd, Nat.reduceBEq, isLd, e0, e1, e7, e8, hkk, r]
    by_cases g1 : v = xs.getD k 0
    · simp (maxSteps := 300000) (disch := omega) only [gs, gs2, gs3, gs4, ↓reduceIte, Nat.reduceEqDiff, Int.reduceToNat, Nat.reduceMul, Nat.reduceAdd, Nat.reduceBEq, isLd, eq_true g1, e0, e1, e7, e8]
      rw [idxI_some (k := k) (by omega) (decide_eq_true g1.symm) (fun i hi => decide_eq_false (hin i hi))] at hk; exact hk
    · rw [decide_eq_false g1]
      simp (maxSteps := 300000) (disch := omega) only [gs, gs2, gs3, gs4, ↓reduceIte, Nat.reduceEqDiff, Int.reduceToNat, Nat.reduceMul, Nat.reduceAdd, Nat.reduceBEq, isLd, e0, e1, e7, e8]
      refine ⟨m - 1, by omega, _, Sub.refl _, k + 1, rfl, by omega, by omega, rfl, fun i hi => ?_⟩
      by_cases hik : i = k
      · subst hik; exact fun h => g1 h.symm
      · exact hin i (by omega)
  · simp (maxSteps := 300000) (disch := omega) only [gs, gs2, gs3, gs4, ↓reduceIte, Nat.reduceEqDiff, Int.reduceToNat, Nat.reduceMul, Nat.reduceAdd, Nat.reduceBEq, isLd, e0, e1, e7, e8, hkk]
    rw [idxI_none (fun i hi => decide_eq_false (hin i (by omega)))] at hk; exact hk
theorem idxI_mem {xs : List Int} {v : Int} : 0 ≤ idxI (fun x => decide (x = v)) xs ↔ v ∈ xs := by
  unfold idxI
  cases hi : xs.findIdx? fun x => decide (x = v) with
  | none =>
    rw [List.findIdx?_eq_none_iff] at hi
    simp
    intro hx
    simpa using hi v hx
  | some i =>
    rw [List.findIdx?_eq_some_iff_getElem] at hi
    obtain ⟨h1, h2, _⟩ := hi
    simp at h2
    simp
    rw [← h2]; exact List.getElem_mem h1
theorem slices_Contains_ok {G : GH} {A : Option Addr} {c : Nat} {xs : List Int} {v : Int} (h : IntS G A c xs) (hl : xs.length < 2 ^ 40) {K : Value → GH → Prop}
    (hk : ∀ b : Bool, (b = true ↔ v ∈ xs) → K (.bool b) G) : GC Tryz.prog 170 [.slice A xs.length c, .int .i64 v] G K := by
  refine c_slices_Contains_int64_int64_i (by simp) ?_
  simp (maxSteps := 300000) (disch := omega) only [gs, gs2, gs3, gs4, ↓reduceIte, Nat.reduceEqDiff, Int.reduceToNat, Nat.reduceMul, Nat.reduceAdd, Nat.reduceBEq, isLd]
  refine slices_Index_ok h hl ?_
  simp (maxSteps := 300000) (disch := omega) only [gs, gs2, gs3, gs4, ↓reduceIte, Nat.reduceEqDiff, Int.reduceToNat, Nat.reduceMul, Nat.reduceAdd, Nat.reduceBEq, isLd]
  exact hk _ (by rw [decide_eq_true_eq]; exact idxI_mem)
/-- what the first k arcs bring to a node, less what they take away. -/
def exc (es : List T3) (fl : List Int) (v : Int) : Nat → Int
  | 0 => 0
  | k + 1 => exc es fl v k + (if (es.getD k z3).2.1 = v then fl.getD k 0 else 0) - (if (es.getD k z3).1 = v then fl.getD k 0 else 0)
/-- the nodes on the way back from v, without the source. -/
def path (b : Int → Int) (s : Int) : Nat → Int → List Int
  | 0, _ => []
  | f + 1, v => if v = s then [] else v :: path b s f (b v)
theorem New.cast {G G' : GH} {A : Option Addr} {c sz n : Nat} {cs cs' : List Value} (h : New G G' A c cs sz n) (e : cs = cs') {n' : Nat} (en : n = n') : New G G' A c cs' sz n' := e ▸ en ▸ h
theorem New.ints' {G G' : GH} {A : Option Addr} {c n : Nat} {xs : List Int} (h : New G G' A c (xs.map I64) 1 n) (hn : n = xs.length) : IntS G' A c xs := by subst hn; exact h.ints
def cMin (b : Int → Int) (e : T3) : Int → Int := fun w => if w = e.2.1 then min (b e.1) (b e.2.1) else if w = e.1 then min (b e.1) (b e.2.1) else b w
def cK (es : List T3) (b : Int → Int) : Nat → Int → Int
  | 0 => b
  | k + 1 => cMin (cK es b k) (es.getD k z3)
def cR (es : List T3) : Nat → Int → Int
  | 0 => fun v => v
  | r + 1 => cK es (cR es r) es.length
def parts (n : Nat) (es : List T3) : List Int := (List.range n).map fun v : Nat => cR es n v
theorem spec_l04SameRows_ok {G : GH} {A B : Option Addr} {c d : Nat} {hs hs' : Nat → Option Addr × Nat} {xs ys : List (List Int)} (h : RowS G A c hs xs) (h' : RowS G B d hs' ys) (hl : xs.length < 2 ^ 40) (hl2 : ∀ i, i < xs.length → (xs.getD i []).length < 2 ^ 40) {K : Value → GH → Prop}
    (hk : ∀ b : Bool, (b = true ↔ xs = ys) → K (.bool b) G) : GC Tryz.prog 193 [.slice A xs.length c, .slice B ys.length d] G K := by
  refine c_spec_l04SameRows_i (by simp) ?_
  have hsn := h.sn
  have hsn' := h'.sn
  have r := h.r
  have r' := h'.r
  simp (maxSteps := 300000) (disch := omega) only [gs, gs2, gs3, gs4, ↓reduceIte, Nat.reduceEqDiff, Int.reduceToNat, Nat.reduceMul, Nat.reduceAdd, Nat.reduceBEq, isLd]
  by_cases hne : xs.length = ys.length
  · simp (maxSteps := 300000) (disch := omega) only [gs, gs2, gs3, gs4, ↓reduceIte, Nat.reduceEqDiff, Int.reduceToNat, Nat.reduceMul, Nat.reduceAdd, Nat.reduceBEq, isLd, eq_true (show (xs.length : Int) = ys.length by rw [hne])]
    refine gLoop_intro (fun m T G' => ∃ k : Nat, T 0 = .slice A xs.length c ∧ T 1 = .slice B ys.length d ∧ T 5 = .int .i64 k ∧ m + k = xs.length ∧ k ≤ xs.length ∧ G' = G ∧ ∀ i, i < k → xs.getD i [] = ys.getD i []) xs.length
      ⟨0, by simp (maxSteps := 300000) (disch := omega) only [gs, gs2, gs3, gs4, ↓reduceIte, Nat.reduceEqDiff, Int.reduceToNat, Nat.reduceMul, Nat.reduceAdd, Nat.reduceBEq, isLd], by simp (maxSteps := 300000) (disch := omega) only [gs, gs2, gs3, gs4, ↓reduceIte, Nat.reduceEqDiff, Int.reduceToNat, Nat.reduceMul, Nat.reduceAdd, Nat.reduceBEq, isLd], by simp (maxSteps := 300000) (disch := omega) only [gs, gs2, gs3, gs4, ↓reduceIte, Nat.reduceEqDiff, Int.reduceToNat, Nat.reduceMul, Nat.reduceAdd, Nat.reduceBEq, isLd] <;> rfl, by omega, by omega, rfl, fun i hi => by omega⟩ ?_
    rintro m T G' ⟨k, e0, e1, e5, hm, hkl, rfl, hin⟩
    simp (maxSteps := 300000) (disch := omega) only [gs, gs2, gs3, gs4, ↓reduceIte, Nat.reduceEqDiff, Int.reduceToNat, Nat.reduceMul, Nat.reduceAdd, Nat.reduceBEq, isLd, e0, e1, e5]
    by_cases hkk : (k : Int) < xs.length
    · simp (maxSteps := 300000) (disch := omega) only [gs, gs2, gs3, gs4, ↓reduceIte, Nat.reduceEqDiff, Int.reduceToNat, Nat.reduceMul, Nat.reduceAdd, Nat.reduceBEq, isLd, e0, e1, e5, hkk, r, r']
      refine spec_l00Same_ok (h.row k (by omega)) (h'.row k (by omega)) (hl2 k (by omega)) ?_
      cases g : decide (xs.getD k [] = ys.getD k [])
      · simp (maxSteps := 300000) (disch := omega) only [gs, gs2, gs3, gs4, ↓reduceIte, Nat.reduceEqDiff, Int.reduceToNat, Nat.reduceMul, Nat.reduceAdd, Nat.reduceBEq, isLd, e0, e1, e5, hkk, r, r']
        have g := of_decide_eq_false g
        exact hk false (by simp; rintro rfl; exact g rfl)
      · simp (maxSteps := 300000) (disch := omega) only [gs, gs2, gs3, gs4, ↓reduceIte, Nat.reduceEqDiff, Int.reduceToNat, Nat.reduceMul, Nat.reduceAdd, Nat.reduceBEq, isLd, e0, e1, e5, hkk, r, r']
        have g := of_decide_eq_true g
        refine ⟨m - 1, by omega, _, Sub.refl _, k + 1, rfl, by omega, by omega, rfl, fun i hi => ?_⟩
        by_cases hik : i = k
        · subst hik; exact g
        · exact hin i (by omega)
    · simp (maxSteps := 300000) (disch := omega) only [gs, gs2, gs3, gs4, ↓reduceIte, Nat.reduceEqDiff, Int.reduceToNat, Nat.reduceMul, Nat.reduceAdd, Nat.reduceBEq, isLd, e0, e1, e5, hkk]
      exact hk true (by simp; exact (rows_eq_iff hne).2 fun i hi => hin i (by omega))
  · simp (maxSteps := 300000) (disch := omega) only [gs, gs2, gs3, gs4, ↓reduceIte, Nat.reduceEqDiff, Int.reduceToNat, Nat.reduceMul, Nat.reduceAdd, Nat.reduceBEq, isLd, eq_false (show ¬ (xs.length : Int) = ys.length by omega)]
    exact hk false (by simp; rintro rfl; exact hne rfl)
theorem tab_ext (N M : Tab) : N = M ↔ N.cols = M.cols ∧ N.rows = M.rows := by cases N; cases M; simp
theorem tabC_one (N : Tab) (A : Option Addr) (c : Nat) (B : Option Addr) (d : Nat) : ∀ v ∈ tabC N A c B d, oneB v = true := by
  intro v hv; simp [tabC] at hv; rcases hv with rfl | rfl <;> rfl
/-- a pointer to a table. -/
structure TabP (G : GH) (q : Option Addr) (N : Tab) (A : Option Addr) (c : Nat) (B : Option Addr) (d : Nat) (hs : Nat → Option Addr × Nat) : Prop where
  f0 : rd G q = some (.slice A N.cols.length c)
  f1 : rd G (pa q 1) = some (.slice B N.rows.length d)
  cols : IntS G A c N.cols
  rows : RowS G B d hs N.rows
theorem TabP.sub {G G' : GH} {q : Option Addr} {N : Tab} {A B : Option Addr} {c d : Nat} {hs : Nat → Option Addr × Nat} (h : TabP G q N A c B d hs) (s : Sub G G') : TabP G' q N A c B d hs := ⟨rd_sub s h.f0, rd_sub s h.f1, h.cols.sub s, h.rows.sub s⟩
theorem TabP.box {G : GH} {b : Nat} (hb : G b = none) {N : Tab} {A B : Option Addr} {c d : Nat} {hs : Nat → Option Addr × Nat} (h : IntS G A c N.cols) (h' : RowS G B d hs N.rows) : TabP (put G b ⟨tabC N A c B d, true⟩) (some ⟨b, 0, none⟩) N A c B d hs :=
  ⟨by rw [rd_put]; rfl, by rw [pa_mk, rd_put]; rfl, h.sub (Sub.put hb _), h'.sub (Sub.put hb _)⟩
/-- rows that are short. -/
def Sh (xss : List (List Int)) : Prop := xss.length < 2 ^ 40 ∧ ∀ i, i < xss.length → (xss.getD i []).length < 2 ^ 40
theorem Sm.sh {xss : List (List Int)} (h : Sm xss) : Sh xss := ⟨by have := h.1; omega, fun i hi => by have := h.2 i hi; omega⟩
theorem slices_Equal_int64_ok {G : GH} {A B : Option Addr} {c d : Nat} {xs ys : List Int} (h : IntS G A c xs) (h' : IntS G B d ys) (hl : xs.length < 2 ^ 40) {K : Value → GH → Prop}
    (hk : K (.bool (decide (xs = ys))) G) : GC Tryz.prog 185 [.slice A xs.length c, .slice B ys.length d] G K := by
  refine c_slices_Equal_int64_int64_i (by simp) ?_
  have hsn := h.sn
  have hrd := h.rd
  have hsn' := h'.sn
  have hrd' := h'.rd
  simp (maxSteps := 300000) (disch := omega) only [gs, gs2, gs3, gs4, ↓reduceIte, Nat.reduceEqDiff, Int.reduceToNat, Nat.reduceMul, Nat.reduceAdd, Nat.reduceBEq, isLd]
  by_cases hne : xs.length = ys.length
  · simp (maxSteps := 300000) (disch := omega) only [gs, gs2, gs3, gs4, ↓reduceIte, Nat.reduceEqDiff, Int.reduceToNat, Nat.reduceMul, Nat.reduceAdd, Nat.reduceBEq, isLd, show ((xs.length : Int) = ys.length) = True by simp [hne], not_true]
    refine gLoop_intro (fun m T G' => ∃ k : Nat, T 0 = .slice A xs.length c ∧ T 1 = .slice B ys.length d ∧ T 12 = .int .i64 xs.length ∧ T 13 = .int .i64 k ∧ m + k = xs.length ∧ k ≤ xs.length ∧ G' = G ∧ ∀ i, i < k → xs.getD i 0 = ys.getD i 0) xs.length
      ⟨0, by simp (maxSteps := 300000) (disch := omega) only [gs, gs2, gs3, gs4, ↓reduceIte, Nat.reduceEqDiff, Int.reduceToNat, Nat.reduceMul, Nat.reduceAdd, Nat.reduceBEq, isLd], by simp (maxSteps := 300000) (disch := omega) only [gs, gs2, gs3, gs4, ↓reduceIte, Nat.reduceEqDiff, Int.reduceToNat, Nat.reduceMul, Nat.reduceAdd, Nat.reduceBEq, isLd], by simp (maxSteps := 300000) (disch := omega) only [gs, gs2, gs3, gs4, ↓reduceIte, Nat.reduceEqDiff, Int.reduceToNat, Nat.reduceMul, Nat.reduceAdd, Nat.reduceBEq, isLd], by simp (maxSteps := 300000) (disch := omega) only [gs, gs2, gs3, gs4, ↓reduceIte, Nat.reduceEqDiff, Int.reduceToNat, Nat.reduceMul, Nat.reduceAdd, Nat.reduceBEq, isLd] <;> rfl, by omega, by omega, rfl, fun i hi => by omega⟩ ?_
    rintro m T G' ⟨k, h0, h1, h5, h6, hm, hkl, rfl, hinv⟩
    simp (maxSteps := 300000) (disch := omega) only [gs, gs2, gs3, gs4, ↓reduceIte, Nat.reduceEqDiff, Int.reduceToNat, Nat.reduceMul, Nat.reduceAdd, Nat.reduceBEq, isLd, h0, h1, h5, h6]
    by_cases hlt : (k : Int) < xs.length
    · simp (maxSteps := 300000) (disch := omega) only [gs, gs2, gs3, gs4, ↓reduceIte, Nat.reduceEqDiff, Int.reduceToNat, Nat.reduceMul, Nat.reduceAdd, Nat.reduceBEq, isLd, h0, h1, h5, h6, hlt, hrd, hrd']
      by_cases hkk : xs.getD k 0 = ys.getD k 0
      · simp (maxSteps := 300000) (disch := omega) only [gs, gs2, gs3, gs4, ↓reduceIte, Nat.reduceEqDiff, Int.reduceToNat, Nat.reduceMul, Nat.reduceAdd, Nat.reduceBEq, isLd, hkk, h0, h1, h5, h6, not_true]
        refine ⟨m - 1, by omega, _, Sub.refl _, k + 1, rfl, by omega, by omega, rfl, fun i hi => ?_⟩
        by_cases hik : i = k
        · subst hik; exact hkk
        · exact hinv i (by omega)
      · simp (maxSteps := 300000) (disch := omega) only [gs, gs2, gs3, gs4, ↓reduceIte, Nat.reduceEqDiff, Int.reduceToNat, Nat.reduceMul, Nat.reduceAdd, Nat.reduceBEq, isLd, hkk, not_false_eq_true]
        have : ¬ xs = ys := by rintro rfl; exact hkk rfl
        simpa [this] using hk
    · simp (maxSteps := 300000) (disch := omega) only [gs, gs2, gs3, gs4, ↓reduceIte, Nat.reduceEqDiff, Int.reduceToNat, Nat.reduceMul, Nat.reduceAdd, Nat.reduceBEq, isLd, h0, h1, h5, h6, hlt]
      have : xs = ys := (list_eq_iff hne).2 fun i hi => hinv i (by omega)
      simpa [this] using hk
  · simp (maxSteps := 300000) (disch := omega) only [gs, gs2, gs3, gs4, ↓reduceIte, Nat.reduceEqDiff, Int.reduceToNat, Nat.reduceMul, Nat.reduceAdd, Nat.reduceBEq, isLd, show ((xs.length : Int) = ys.length) = False by simp; omega, not_false_eq_true]
    have : ¬ xs = ys := by rintro rfl; exact hne rfl
    simpa [this] using hk
theorem impl_areSame_ok {G : GH} {A B : Option Addr} {c d : Nat} {hs hs' : Nat → Option Addr × Nat} {xs ys : List (List Int)} (h : RowS G A c hs xs) (h' : RowS G B d hs' ys) (hl : Sh xs) {K : Value → GH → Prop}
    (hk : ∀ b : Bool, (b = true ↔ xs = ys) → K (.bool b) G) : GC Tryz.prog 273 [.slice A xs.length c, .slice B ys.length d] G K := by
  refine c_impl_areSame_i (by simp) ?_
  simp (maxSteps := 300000) (disch := omega) only [gs, gs2, gs3, gs4, ↓reduceIte, Nat.reduceEqDiff, Int.reduceToNat, Nat.reduceMul, Nat.reduceAdd, Nat.reduceBEq, isLd]
  obtain ⟨hl1, hl2⟩ := hl
  refine c_slices_EqualFunc_SS_int64_SS_int64_int64_int64_i (by simp) ?_
  have hsn := h.sn
  have hsn' := h'.sn
  have r := h.r
  have r' := h'.r
  simp (maxSteps := 300000) (disch := omega) only [gs, gs2, gs3, gs4, ↓reduceIte, Nat.reduceEqDiff, Int.reduceToNat, Nat.reduceMul, Nat.reduceAdd, Nat.reduceBEq, isLd]
  by_cases hne : xs.length = ys.length
  · simp (maxSteps := 300000) (disch := omega) only [gs, gs2, gs3, gs4, ↓reduceIte, Nat.reduceEqDiff, Int.reduceToNat, Nat.reduceMul, Nat.reduceAdd, Nat.reduceBEq, isLd, eq_true (show (xs.length : Int) = ys.length by rw [hne])]
    refine gLoop_intro (fun m T G' => ∃ k : Nat, T 0 = .slice A xs.length c ∧ T 1 = .slice B ys.length d ∧ T 2 = .func (.func 185) #[] #[] ∧ T 15 = .slice A xs.length c ∧ T 16 = .int .i64 xs.length ∧ T 17 = .int .i64 k ∧ m + k = xs.length ∧ k ≤ xs.length ∧ G' = G ∧ ∀ i, i < k → xs.getD i [] = ys.getD i []) xs.length
      ⟨0, by simp (maxSteps := 300000) (disch := omega) only [gs, gs2, gs3, gs4, ↓reduceIte, Nat.reduceEqDiff, Int.reduceToNat, Nat.reduceMul, Nat.reduceAdd, Nat.reduceBEq, isLd], by simp (maxSteps := 300000) (disch := omega) only [gs, gs2, gs3, gs4, ↓reduceIte, Nat.reduceEqDiff, Int.reduceToNat, Nat.reduceMul, Nat.reduceAdd, Nat.reduceBEq, isLd], by simp (maxSteps := 300000) (disch := omega) only [gs, gs2, gs3, gs4, ↓reduceIte, Nat.reduceEqDiff, Int.reduceToNat, Nat.reduceMul, Nat.reduceAdd, Nat.reduceBEq, isLd], by simp (maxSteps := 300000) (disch := omega) only [gs, gs2, gs3, gs4, ↓reduceIte, Nat.reduceEqDiff, Int.reduceToNat, Nat.reduceMul, Nat.reduceAdd, Nat.reduceBEq, isLd], by simp (maxSteps := 300000) (disch := omega) only [gs, gs2, gs3, gs4, ↓reduceIte, Nat.reduceEqDiff, Int.reduceToNat, Nat.reduceMul, Nat.reduceAdd, Nat.reduceBEq, isLd], by simp (maxSteps := 300000) (disch := omega) only [gs, gs2, gs3, gs4, ↓reduceIte, Nat.reduceEqDiff, Int.reduceToNat, Nat.reduceMul, Nat.reduceAdd, Nat.reduceBEq, isLd] <;> rfl, by omega, by omega, rfl, fun i hi => by omega⟩ ?_
    rintro m T G' ⟨k, e0, e1, e2, e15, e16, e17, hm, hkl, rfl, hin⟩
    simp (maxSteps := 300000) (disch := omega) only [gs, gs2, gs3, gs4, ↓reduceIte, Nat.reduceEqDiff, Int.reduceToNat, Nat.reduceMul, Nat.reduceAdd, Nat.reduceBEq, isLd, e0, e1, e2, e15, e16, e17]
    by_cases hkk : (k : Int) < xs.length
    · simp (maxSteps := 300000) (disch := omega) only [gs, gs2, gs3, gs4, ↓reduceIte, Nat.reduceEqDiff, Int.reduceToNat, Nat.reduceMul, Nat.reduceAdd, Nat.reduceBEq, isLd, e0, e1, e2, e15, e16, e17, hkk, r, r']
      refine slices_Equal_int64_ok (h.row k (by omega)) (h'.row k (by omega)) (hl2 k (by omega)) ?_
      cases g : decide (xs.getD k [] = ys.getD k [])
      · simp (maxSteps := 300000) (disch := omega) only [gs, gs2, gs3, gs4, ↓reduceIte, Nat.reduceEqDiff, Int.reduceToNat, Nat.reduceMul, Nat.reduceAdd, Nat.reduceBEq, isLd, e0, e1, e2, e15, e16, e17, hkk, r, r']
        have g := of_decide_eq_false g
        exact hk false (by simp; rintro rfl; exact g rfl)
      · simp (maxSteps := 300000) (disch := omega) only [gs, gs2, gs3, gs4, ↓reduceIte, Nat.reduceEqDiff, Int.reduceToNat, Nat.reduceMul, Nat.reduceAdd, Nat.reduceBEq, isLd, e0, e1, e2, e15, e16, e17, hkk, r, r']
        have g := of_decide_eq_true g
        refine ⟨m - 1, by omega, _, Sub.refl _, k + 1, rfl, by omega, by omega, rfl, fun i hi => ?_⟩
        by_cases hik : i = k
        · subst hik; exact g
        · exact hin i (by omega)
    · simp (maxSteps := 300000) (disch := omega) only [gs, gs2, gs3, gs4, ↓reduceIte, Nat.reduceEqDiff, Int.reduceToNat, Nat.reduceMul, Nat.reduceAdd, Nat.reduceBEq, isLd, e0, e1, e2, e15, e16, e17, hkk]
      exact hk true (by simp; exact (rows_eq_iff hne).2 fun i hi => hin i (by omega))
  · simp (maxSteps := 300000) (disch := omega) only [gs, gs2, gs3, gs4, ↓reduceIte, Nat.reduceEqDiff, Int.reduceToNat, Nat.reduceMul, Nat.reduceAdd, Nat.reduceBEq, isLd, eq_false (show ¬ (xs.length : Int) = ys.length by omega)]
    exact hk false (by simp; rintro rfl; exact hne rfl)
theorem impl_SameTable_ok {G : GH} {N M : Tab} {A B A' B' : Option Addr} {c d c' d' : Nat} {hs hs' : Nat → Option Addr × Nat} (h : IntS G A c N.cols) (h' : RowS G B d hs N.rows) (k : IntS G A' c' M.cols) (k' : RowS G B' d' hs' M.rows)
    (hl : N.cols.length < 2 ^ 40) (hl1 : Sh N.rows) {K : Value → GH → Prop}
    (hk : ∀ b : Bool, (b = true ↔ N = M) → K (.bool b) G) : GC Tryz.prog 233 [tabV N A c B d, tabV M A' c' B' d'] G K := by
  refine GC_drop (c_impl_SameTable_i (by simp) ?_)
  rw [tab_ext] at hk
  unfold tabV tabC
  simp (maxSteps := 300000) (disch := omega) only [gs, gs2, gs3, gs4, ↓reduceIte, Nat.reduceEqDiff, Int.reduceToNat, Nat.reduceMul, Nat.reduceAdd, Nat.reduceBEq, isLd]
  intro b1 hb1
  simp (maxSteps := 300000) (disch := omega) only [gs, gs2, gs3, gs4, ↓reduceIte, Nat.reduceEqDiff, Int.reduceToNat, Nat.reduceMul, Nat.reduceAdd, Nat.reduceBEq, isLd]
  intro b2 hb2
  simp only [put_none] at hb2
  obtain ⟨n12, f2⟩ := hb2
  have s2 := ((Sub.refl G).skip hb1 (e := ⟨[.slice A N.cols.length c, .slice B N.rows.length d], true⟩)).skip f2 (e := ⟨[.slice A' M.cols.length c', .slice B' M.rows.length d'], true⟩)
  simp (maxSteps := 300000) (disch := omega) only [gs, gs2, gs3, gs4, ↓reduceIte, Nat.reduceEqDiff, Int.reduceToNat, Nat.reduceMul, Nat.reduceAdd, Nat.reduceBEq, isLd]
  refine slices_Equal_int64_ok (h.sub s2) (k.sub s2) hl ?_
  cases g : decide (N.cols = M.cols)
  · simp (maxSteps := 300000) (disch := omega) only [gs, gs2, gs3, gs4, ↓reduceIte, Nat.reduceEqDiff, Int.reduceToNat, Nat.reduceMul, Nat.reduceAdd, Nat.reduceBEq, isLd]
    have g := of_decide_eq_false g
    exact ⟨G, s2, hk false (by simp [g])⟩
  · have g := of_decide_eq_true g
    simp (maxSteps := 300000) (disch := omega) only [gs, gs2, gs3, gs4, ↓reduceIte, Nat.reduceEqDiff, Int.reduceToNat, Nat.reduceMul, Nat.reduceAdd, Nat.reduceBEq, isLd]
    refine impl_areSame_ok (h'.sub s2) (k'.sub s2) hl1 fun b hb => ?_
    simp (maxSteps := 300000) (disch := omega) only [gs, gs2, gs3, gs4, ↓reduceIte, Nat.reduceEqDiff, Int.reduceToNat, Nat.reduceMul, Nat.reduceAdd, Nat.reduceBEq, isLd]
    exact ⟨G, s2, hk b (by rw [hb]; simp [g])⟩
theorem spec_l20Same_ok {G : GH} {q p : Option Addr} {N M : Tab} {A B A' B' : Option Addr} {c d c' d' : Nat} {hs hs' : Nat → Option Addr × Nat} (h : TabP G q N A c B d hs) (k : TabP G p M A' c' B' d' hs')
    (hl : N.cols.length < 2 ^ 40) (hl1 : Sh N.rows) {K : Value → GH → Prop}
    (hk : ∀ b : Bool, (b = true ↔ N = M) → K (.bool b) G) : GC Tryz.prog 114 [.pointer q, .pointer p] G K := by
  refine c_spec_l20Same_i (by simp) ?_
  rw [tab_ext] at hk
  have hq := rd_some h.f0
  have hp := rd_some k.f0
  have f0 := h.f0
  have f1 := h.f1
  have g0 := k.f0
  have g1 := k.f1
  simp (maxSteps := 300000) (disch := omega) only [gs, gs2, gs3, gs4, ↓reduceIte, Nat.reduceEqDiff, Int.reduceToNat, Nat.reduceMul, Nat.reduceAdd, Nat.reduceBEq, isLd, f0, f1, g0, g1]
  refine spec_l00Same_ok h.cols k.cols hl ?_
  cases g : decide (N.cols = M.cols)
  · simp (maxSteps := 300000) (disch := omega) only [gs, gs2, gs3, gs4, ↓reduceIte, Nat.reduceEqDiff, Int.reduceToNat, Nat.reduceMul, Nat.reduceAdd, Nat.reduceBEq, isLd, f0, f1, g0, g1]
    have g := of_decide_eq_false g
    exact hk false (by simp [g])
  · have g := of_decide_eq_true g
    simp (maxSteps := 300000) (disch := omega) only [gs, gs2, gs3, gs4, ↓reduceIte, Nat.reduceEqDiff, Int.reduceToNat, Nat.reduceMul, Nat.reduceAdd, Nat.reduceBEq, isLd, f0, f1, g0, g1]
    refine spec_l04SameRows_ok h.rows k.rows hl1.1 hl1.2 fun b hb => ?_
    simp (maxSteps := 300000) (disch := omega) only [gs, gs2, gs3, gs4, ↓reduceIte, Nat.reduceEqDiff, Int.reduceToNat, Nat.reduceMul, Nat.reduceAdd, Nat.reduceBEq, isLd, f0, f1, g0, g1]
    exact hk b (by rw [hb]; simp [g])
theorem spec_SameTable_ok {G : GH} {N M : Tab} {A B A' B' : Option Addr} {c d c' d' : Nat} {hs hs' : Nat → Option Addr × Nat} (h : IntS G A c N.cols) (h' : RowS G B d hs N.rows) (k : IntS G A' c' M.cols) (k' : RowS G B' d' hs' M.rows)
    (hl : N.cols.length < 2 ^ 40) (hl1 : Sh N.rows) {K : Value → GH → Prop}
    (hk : ∀ b : Bool, (b = true ↔ N = M) → K (.bool b) G) : GC Tryz.prog 49 [tabV N A c B d, tabV M A' c' B' d'] G K := by
  refine GC_drop (c_spec_SameTable_i (by simp) ?_)
  unfold tabV
  simp (maxSteps := 300000) (disch := omega) only [gs, gs2, gs3, gs4, ↓reduceIte, Nat.reduceEqDiff, Int.reduceToNat, Nat.reduceMul, Nat.reduceAdd, Nat.reduceBEq, isLd]
  intro b1 hb1
  simp (maxSteps := 300000) (disch := omega) only [gs, gs2, gs3, gs4, ↓reduceIte, Nat.reduceEqDiff, Int.reduceToNat, Nat.reduceMul, Nat.reduceAdd, Nat.reduceBEq, isLd]
  intro b2 hb2
  have s1 := Sub.put hb1 ⟨tabC N A c B d, true⟩
  have s2 := Sub.put hb2 ⟨tabC M A' c' B' d', true⟩
  simp (maxSteps := 300000) (disch := omega) only [gs, gs2, gs3, gs4, ↓reduceIte, Nat.reduceEqDiff, Int.reduceToNat, Nat.reduceMul, Nat.reduceAdd, Nat.reduceBEq, isLd]
  refine spec_l20Same_ok ((TabP.box hb1 h h').sub s2) (TabP.box hb2 (k.sub s1) (k'.sub s1)) hl hl1 fun b hb => ?_
  simp (maxSteps := 300000) (disch := omega) only [gs, gs2, gs3, gs4, ↓reduceIte, Nat.reduceEqDiff, Int.reduceToNat, Nat.reduceMul, Nat.reduceAdd, Nat.reduceBEq, isLd]
  exact ⟨G, s1.trans s2, hk b hb⟩
/-- two lists of integers, compared place by place. -/
def lexC : List Int → List Int → Int
  | [], [] => 0
  | [], _ :: _ => -1
  | _ :: _, [] => 1
  | x :: xs, y :: ys => if cmp3 x y = 0 then lexC xs ys else cmp3 x y
theorem drop_cons {xs : List Int} {k : Nat} (h : k < xs.length) : xs.drop k = xs.getD k 0 :: xs.drop (k + 1) := by
  rw [List.drop_eq_getElem_cons h]; simp [List.getD, h]
theorem lexC_drop {xs ys : List Int} : ∀ k : Nat, k ≤ xs.length → k ≤ ys.length → (∀ i, i < k → xs.getD i 0 = ys.getD i 0) → lexC xs ys = lexC (xs.drop k) (ys.drop k)
  | 0, _, _, _ => by simp
  | k + 1, h1, h2, h => by
    rw [lexC_drop k (by omega) (by omega) fun i hi => h i (by omega), drop_cons (show k < xs.length by omega), drop_cons (show k < ys.length by omega)]
    have := h k (by omega)
    rw [lexC, if_pos (by rw [this]; simp [cmp3])]
theorem lexC_at {xs ys : List Int} {k : Nat} (h1 : k < xs.length) (h2 : k < ys.length) (h : ∀ i, i < k → xs.getD i 0 = ys.getD i 0) (hne : cmp3 (xs.getD k 0) (ys.getD k 0) ≠ 0) : lexC xs ys = cmp3 (xs.getD k 0) (ys.getD k 0) := by
  rw [lexC_drop k (by omega) (by omega) h, drop_cons h1, drop_cons h2, lexC, if_neg hne]
theorem lexC_end {xs ys : List Int} (h : xs.length ≤ ys.length) (he : ∀ i, i < xs.length → xs.getD i 0 = ys.getD i 0) : lexC xs ys = if xs.length < ys.length then -1 else 0 := by
  rw [lexC_drop xs.length (by omega) h he, List.drop_length]
  by_cases hl : xs.length < ys.length
  · rw [drop_cons hl, lexC, if_pos hl]
  · rw [List.drop_eq_nil_of_le (show ys.length ≤ xs.length by omega), lexC, if_neg hl]
theorem lexC_long {xs ys : List Int} (h : ys.length < xs.length) (he : ∀ i, i < ys.length → xs.getD i 0 = ys.getD i 0) : lexC xs ys = 1 := by
  rw [lexC_drop ys.length (by omega) (by omega) he, List.drop_length, drop_cons h, lexC]
theorem cmp3_zero {a b : Int} : cmp3 a b = 0 ↔ a = b := by unfold cmp3; split <;> (try split) <;> omega
theorem cmp3_neg {a b : Int} : cmp3 a b < 0 ↔ a < b := by unfold cmp3; split <;> (try split) <;> omega
theorem slices_Compare_ok {G : GH} {A B : Option Addr} {c d : Nat} {xs ys : List Int} (h : IntS G A c xs) (h' : IntS G B d ys) (hl : xs.length < 2 ^ 40) (hl' : ys.length < 2 ^ 40) {K : Value → GH → Prop}
    (hk : K (.int .i64 (lexC xs ys)) G) : GC Tryz.prog 180 [.slice A xs.length c, .slice B ys.length d] G K := by
  refine c_slices_Compare_int64_int64_i (by simp) ?_
  have hsn := h.sn
  have r := h.rd
  have hsn' := h'.sn
  have r' := h'.rd
  simp (maxSteps := 300000) (disch := omega) only [gs, gs2, gs3, gs4, ↓reduceIte, Nat.reduceEqDiff, Int.reduceToNat, Nat.reduceMul, Nat.reduceAdd, Nat.reduceBEq, isLd]
  refine gLoop_intro (fun m T G' => ∃ k : Nat, T 0 = .slice A xs.length c ∧ T 1 = .slice B ys.length d ∧ T 9 = .slice A xs.length c ∧ T 10 = .int .i64 xs.length ∧ T 11 = .int .i64 k ∧ m + k = xs.length ∧ k ≤ xs.length ∧ k ≤ ys.length ∧ G' = G ∧ ∀ i, i < k → xs.getD i 0 = ys.getD i 0) xs.length
    ⟨0, by simp (maxSteps := 300000) (disch := omega) only [gs, gs2, gs3, gs4, ↓reduceIte, Nat.reduceEqDiff, Int.reduceToNat, Nat.reduceMul, Nat.reduceAdd, Nat.reduceBEq, isLd], by simp (maxSteps := 300000) (disch := omega) only [gs, gs2, gs3, gs4, ↓reduceIte, Nat.reduceEqDiff, Int.reduceToNat, Nat.reduceMul, Nat.reduceAdd, Nat.reduceBEq, isLd], by simp (maxSteps := 300000) (disch := omega) only [gs, gs2, gs3, gs4, ↓reduceIte, Nat.reduceEqDiff, Int.reduceToNat, Nat.reduceMul, Nat.reduceAdd, Nat.reduceBEq, isLd], by simp (maxSteps := 300000) (disch := omega) only [gs, gs2, gs3, gs4, ↓reduceIte, Nat.reduceEqDiff, Int.reduceToNat, Nat.reduceMul, Nat.reduceAdd, Nat.reduceBEq, isLd], by simp (maxSteps := 300000) (disch := omega) only [gs, gs2, gs3, gs4, ↓reduceIte, Nat.reduceEqDiff, Int.reduceToNat, Nat.reduceMul, Nat.reduceAdd, Nat.reduceBEq, isLd] <;> rfl, by omega, by omega, by omega, rfl, fun i hi => by omega⟩ ?_
  rintro m T G' ⟨k, e0, e1, e9, e10, e11, hm, hkl, hky, rfl, hin⟩
  simp (maxSteps := 300000) (disch := omega) only [gs, gs2, gs3, gs4, ↓reduceIte, Nat.reduceEqDiff, Int.reduceToNat, Nat.reduceMul, Nat.reduceAdd, Nat.reduceBEq, isLd, e0, e1, e9, e10, e11]
  by_cases hkk : (k : Int) < xs.length
  · simp (maxSteps := 300000) (disch := omega) only [gs, gs2, gs3, gs4, ↓reduceIte, Nat.reduceEqDiff, Int.reduceToNat, Nat.reduceMul, Nat.reduceAdd, Nat.reduceBEq, isLd, e0, e1, e9, e10, e11, hkk, r]
    by_cases hy : (ys.length : Int) ≤ k
    · simp (maxSteps := 300000) (disch := omega) only [gs, gs2, gs3, gs4, ↓reduceIte, Nat.reduceEqDiff, Int.reduceToNat, Nat.reduceMul, Nat.reduceAdd, Nat.reduceBEq, isLd, hy, e0, e1, e9, e10, e11]
      rw [lexC_long (by omega) fun i hi => hin i (by omega)] at hk
      exact hk
    · simp (maxSteps := 300000) (disch := omega) only [gs, gs2, gs3, gs4, ↓reduceIte, Nat.reduceEqDiff, Int.reduceToNat, Nat.reduceMul, Nat.reduceAdd, Nat.reduceBEq, isLd, hy, e0, e1, e9, e10, e11, r']
      refine cmp_Compare_ok _ _ ?_
      simp (maxSteps := 300000) (disch := omega) only [gs, gs2, gs3, gs4, ↓reduceIte, Nat.reduceEqDiff, Int.reduceToNat, Nat.reduceMul, Nat.reduceAdd, Nat.reduceBEq, isLd, e0, e1, e9, e10, e11]
      by_cases hc : cmp3 (xs.getD k 0) (ys.getD k 0) = 0
      · simp (maxSteps := 300000) (disch := omega) only [gs, gs2, gs3, gs4, ↓reduceIte, Nat.reduceEqDiff, Int.reduceToNat, Nat.reduceMul, Nat.reduceAdd, Nat.reduceBEq, isLd, eq_true hc, e0, e1, e9, e10, e11]
        refine ⟨m - 1, by omega, _, Sub.refl _, k + 1, rfl, by omega, by omega, by omega, rfl, fun i hi => ?_⟩
        by_cases hik : i = k
        · subst hik; exact cmp3_zero.1 hc
        · exact hin i (by omega)
      · simp (maxSteps := 300000) (disch := omega) only [gs, gs2, gs3, gs4, ↓reduceIte, Nat.reduceEqDiff, Int.reduceToNat, Nat.reduceMul, Nat.reduceAdd, Nat.reduceBEq, isLd, eq_false hc, e0, e1, e9, e10, e11]
        rw [lexC_at (by omega) (by omega) hin hc] at hk
        exact hk
  · simp (maxSteps := 300000) (disch := omega) only [gs, gs2, gs3, gs4, ↓reduceIte, Nat.reduceEqDiff, Int.reduceToNat, Nat.reduceMul, Nat.reduceAdd, Nat.reduceBEq, isLd, e0, e1, e9, e10, e11, hkk]
    rw [lexC_end (by omega) fun i hi => hin i (by omega)] at hk
    by_cases hlt : (xs.length : Int) < ys.length
    · simp (maxSteps := 300000) (disch := omega) only [gs, gs2, gs3, gs4, ↓reduceIte, Nat.reduceEqDiff, Int.reduceToNat, Nat.reduceMul, Nat.reduceAdd, Nat.reduceBEq, isLd, hlt]
      rwa [if_pos (by omega)] at hk
    · simp (maxSteps := 300000) (disch := omega) only [gs, gs2, gs3, gs4, ↓reduceIte, Nat.reduceEqDiff, Int.reduceToNat, Nat.reduceMul, Nat.reduceAdd, Nat.reduceBEq, isLd, hlt]
      rwa [if_neg (by omega)] at hk
theorem spec_l16Before_ok {G : GH} {A B : Option Addr} {c d : Nat} {xs ys : List Int} (h : IntS G A c xs) (h' : IntS G B d ys) (hl : xs.length < 2 ^ 40) (hl' : ys.length < 2 ^ 40) {K : Value → GH → Prop}
    (hk : ∀ b : Bool, (b = true ↔ lexC xs ys < 0) → K (.bool b) G) : GC Tryz.prog 191 [.slice A xs.length c, .slice B ys.length d] G K := by
  refine c_spec_l16Before_i (by simp) ?_
  have hsn := h.sn
  have r := h.rd
  have hsn' := h'.sn
  have r' := h'.rd
  simp (maxSteps := 300000) (disch := omega) only [gs, gs2, gs3, gs4, ↓reduceIte, Nat.reduceEqDiff, Int.reduceToNat, Nat.reduceMul, Nat.reduceAdd, Nat.reduceBEq, isLd]
  refine gLoop_intro (fun m T G' => ∃ k : Nat, T 0 = .slice A xs.length c ∧ T 1 = .slice B ys.length d ∧ T 5 = .int .i64 k ∧ m + k = xs.length ∧ k ≤ xs.length ∧ k ≤ ys.length ∧ G' = G ∧ ∀ i, i < k → xs.getD i 0 = ys.getD i 0) xs.length
    ⟨0, by simp (maxSteps := 300000) (disch := omega) only [gs, gs2, gs3, gs4, ↓reduceIte, Nat.reduceEqDiff, Int.reduceToNat, Nat.reduceMul, Nat.reduceAdd, Nat.reduceBEq, isLd], by simp (maxSteps := 300000) (disch := omega) only [gs, gs2, gs3, gs4, ↓reduceIte, Nat.reduceEqDiff, Int.reduceToNat, Nat.reduceMul, Nat.reduceAdd, Nat.reduceBEq, isLd], by simp (maxSteps := 300000) (disch := omega) only [gs, gs2, gs3, gs4, ↓reduceIte, Nat.reduceEqDiff, Int.reduceToNat, Nat.reduceMul, Nat.reduceAdd, Nat.reduceBEq, isLd] <;> rfl, by omega, by omega, by omega, rfl, fun i hi => by omega⟩ ?_
  rintro m T G' ⟨k, e0, e1, e5, hm, hkl, hky, rfl, hin⟩
  simp (maxSteps := 300000) (disch := omega) only [gs, gs2, gs3, gs4, ↓reduceIte, Nat.reduceEqDiff, Int.reduceToNat, Nat.reduceMul, Nat.reduceAdd, Nat.reduceBEq, isLd, e0, e1, e5]
  by_cases hkk : (k : Int) < xs.length
  · simp (maxSteps := 300000) (disch := omega) only [gs, gs2, gs3, gs4, ↓reduceIte, Nat.reduceEqDiff, Int.reduceToNat, Nat.reduceMul, Nat.reduceAdd, Nat.reduceBEq, isLd, e0, e1, e5, hkk]
    by_cases hy : (k : Int) < ys.length
    · simp (maxSteps := 300000) (disch := omega) only [gs, gs2, gs3, gs4, ↓reduceIte, Nat.reduceEqDiff, Int.reduceToNat, Nat.reduceMul, Nat.reduceAdd, Nat.reduceBEq, isLd, e0, e1, e5, hy, r, r']
      by_cases hc : xs.getD k 0 = ys.getD k 0
      · simp (maxSteps := 300000) (disch := omega) only [gs, gs2, gs3, gs4, ↓reduceIte, Nat.reduceEqDiff, Int.reduceToNat, Nat.reduceMul, Nat.reduceAdd, Nat.reduceBEq, isLd, eq_true hc, e0, e1, e5, r, r']
        refine ⟨m - 1, by omega, _, Sub.refl _, k + 1, rfl, by omega, by omega, by omega, rfl, fun i hi => ?_⟩
        by_cases hik : i = k
        · subst hik; exact hc
        · exact hin i (by omega)
      · simp (maxSteps := 300000) (disch := omega) only [gs, gs2, gs3, gs4, ↓reduceIte, Nat.reduceEqDiff, Int.reduceToNat, Nat.reduceMul, Nat.reduceAdd, Nat.reduceBEq, isLd, eq_false hc, e0, e1, e5, r, r']
        refine hk _ ?_
        rw [lexC_at (by omega) (by omega) hin (fun h => hc (cmp3_zero.1 h)), cmp3_neg, decide_eq_true_eq]
    · simp (maxSteps := 300000) (disch := omega) only [gs, gs2, gs3, gs4, ↓reduceIte, Nat.reduceEqDiff, Int.reduceToNat, Nat.reduceMul, Nat.reduceAdd, Nat.reduceBEq, isLd, e0, e1, e5, hy]
      refine hk _ ?_
      rw [lexC_long (by omega) fun i hi => hin i (by omega), decide_eq_true_eq]
      omega
  · simp (maxSteps := 300000) (disch := omega) only [gs, gs2, gs3, gs4, ↓reduceIte, Nat.reduceEqDiff, Int.reduceToNat, Nat.reduceMul, Nat.reduceAdd, Nat.reduceBEq, isLd, e0, e1, e5, hkk]
    refine hk _ ?_
    rw [lexC_end (by omega) fun i hi => hin i (by omega), decide_eq_true_eq]
    split <;> omega
/-- a valid table. -/
def TabOk (t : Tab) : Prop := Rise t.cols ∧ InB t.cols 0 7 ∧ t.rows.length ≤ 24 ∧ (∀ i, i < t.rows.length → (t.rows.getD i []).length = t.cols.length ∧ InB (t.rows.getD i []) 0 3) ∧ ∀ i, i + 1 < t.rows.length → lexC (t.rows.getD i []) (t.rows.getD (i + 1) []) < 0
theorem impl_ValidTable_ok {G : GH} {N : Tab} {A B : Option Addr} {c d : Nat} {hs : Nat → Option Addr × Nat} (h : IntS G A c N.cols) (h' : RowS G B d hs N.rows) (hl : N.cols.length < 2 ^ 40) (hl1 : Sh N.rows) {K : Value → GH → Prop}
    (hk : ∀ b : Bool, (b = true ↔ TabOk N) → K (.bool b) G) : GC Tryz.prog 103 [tabV N A c B d] G K := by
  refine GC_drop (c_impl_ValidTable_i (by simp) ?_)
  obtain ⟨hl2, hl3⟩ := hl1
  unfold tabV tabC
  simp (maxSteps := 300000) (disch := omega) only [gs, gs2, gs3, gs4, ↓reduceIte, Nat.reduceEqDiff, Int.reduceToNat, Nat.reduceMul, Nat.reduceAdd, Nat.reduceBEq, isLd]
  intro b1 hb1
  simp (maxSteps := 300000) (disch := omega) only [gs, gs2, gs3, gs4, ↓reduceIte, Nat.reduceEqDiff, Int.reduceToNat, Nat.reduceMul, Nat.reduceAdd, Nat.reduceBEq, isLd]
  have s1 := Sub.put hb1 ⟨[.slice A N.cols.length c, .slice B N.rows.length d], true⟩
  have f0 : rd (put G b1 ⟨[.slice A N.cols.length c, .slice B N.rows.length d], true⟩) (some ⟨b1, 0, none⟩) = some (.slice A N.cols.length c) := rd_box _ _ _ 0 _ rfl
  have f1 : rd (put G b1 ⟨[.slice A N.cols.length c, .slice B N.rows.length d], true⟩) (some ⟨b1, 1, none⟩) = some (.slice B N.rows.length d) := rd_box _ _ _ 1 _ rfl
  revert s1 f0 f1
  generalize put G b1 ⟨[.slice A N.cols.length c, .slice B N.rows.length d], true⟩ = G1
  intro s1 f0 f1
  have hc := h.sub s1
  have hr := h'.sub s1
  have hno : ¬ TabOk N → ∃ G'', Sub G'' G1 ∧ K (.bool false) G'' := fun hx => ⟨G, s1, hk false (by simp [hx])⟩
  refine impl_isRising_ok hc hl fun b hb => ?_
  cases b
  · simp (maxSteps := 300000) (disch := omega) only [gs, gs2, gs3, gs4, ↓reduceIte, Nat.reduceEqDiff, Int.reduceToNat, Nat.reduceMul, Nat.reduceAdd, Nat.reduceBEq, isLd, f0, f1]
    exact hno fun hx => by simpa using hb.2 hx.1
  have hb := hb.1 rfl
  simp (maxSteps := 300000) (disch := omega) only [gs, gs2, gs3, gs4, ↓reduceIte, Nat.reduceEqDiff, Int.reduceToNat, Nat.reduceMul, Nat.reduceAdd, Nat.reduceBEq, isLd, f0, f1]
  refine impl_areElements_ok hc hl fun b0 hb0 => ?_
  rw [show IntKind.i64.wrap (8 - 1) = 7 by decide] at hb0
  cases b0
  · simp (maxSteps := 300000) (disch := omega) only [gs, gs2, gs3, gs4, ↓reduceIte, Nat.reduceEqDiff, Int.reduceToNat, Nat.reduceMul, Nat.reduceAdd, Nat.reduceBEq, isLd, f0, f1]
    exact hno fun hx => by simpa using hb0.2 hx.2.1
  have hb0 := hb0.1 rfl
  simp (maxSteps := 300000) (disch := omega) only [gs, gs2, gs3, gs4, ↓reduceIte, Nat.reduceEqDiff, Int.reduceToNat, Nat.reduceMul, Nat.reduceAdd, Nat.reduceBEq, isLd, f0, f1]
  by_cases h24 : (24 : Int) < N.rows.length
  · simp (maxSteps := 300000) (disch := omega) only [gs, gs2, gs3, gs4, ↓reduceIte, Nat.reduceEqDiff, Int.reduceToNat, Nat.reduceMul, Nat.reduceAdd, Nat.reduceBEq, isLd, h24, f0, f1]
    exact hno fun hx => by have := hx.2.2.1; omega
  simp (maxSteps := 300000) (disch := omega) only [gs, gs2, gs3, gs4, ↓reduceIte, Nat.reduceEqDiff, Int.reduceToNat, Nat.reduceMul, Nat.reduceAdd, Nat.reduceBEq, isLd, h24, f0, f1]
  refine gLoop_intro (fun m T G' => ∃ k : Nat, T 1 = .pointer (some ⟨b1, 0, none⟩) ∧ T 22 = .slice B N.rows.length d ∧ T 23 = .int .i64 N.rows.length ∧ T 24 = .int .i64 k ∧ m + k = N.rows.length ∧ k ≤ N.rows.length ∧ G' = G1 ∧
    (∀ i, i < k → (N.rows.getD i []).length = N.cols.length ∧ InB (N.rows.getD i []) 0 3) ∧ ∀ i, i + 1 < k → lexC (N.rows.getD i []) (N.rows.getD (i + 1) []) < 0) N.rows.length
    ⟨0, by simp (maxSteps := 300000) (disch := omega) only [gs, gs2, gs3, gs4, ↓reduceIte, Nat.reduceEqDiff, Int.reduceToNat, Nat.reduceMul, Nat.reduceAdd, Nat.reduceBEq, isLd], by simp (maxSteps := 300000) (disch := omega) only [gs, gs2, gs3, gs4, ↓reduceIte, Nat.reduceEqDiff, Int.reduceToNat, Nat.reduceMul, Nat.reduceAdd, Nat.reduceBEq, isLd], by simp (maxSteps := 300000) (disch := omega) only [gs, gs2, gs3, gs4, ↓reduceIte, Nat.reduceEqDiff, Int.reduceToNat, Nat.reduceMul, Nat.reduceAdd, Nat.reduceBEq, isLd], by simp (maxSteps := 300000) (disch := omega) only [gs, gs2, gs3, gs4, ↓reduceIte, Nat.reduceEqDiff, Int.reduceToNat, Nat.reduceMul, Nat.reduceAdd, Nat.reduceBEq, isLd] <;> rfl, by omega, by omega, rfl, fun i hi => by omega, fun i hi => by omega⟩ ?_
  rintro m T G' ⟨k, e1, e22, e23, e24, hm, hkl, rfl, hin, hlt⟩
  have hsn := hr.sn
  have r := hr.r
  simp (maxSteps := 300000) (disch := omega) only [gs, gs2, gs3, gs4, ↓reduceIte, Nat.reduceEqDiff, Int.reduceToNat, Nat.reduceMul, Nat.reduceAdd, Nat.reduceBEq, isLd, e1, e22, e23, e24]
  by_cases hkk : (k : Int) < N.rows.length
  · simp (maxSteps := 300000) (disch := omega) only [gs, gs2, gs3, gs4, ↓reduceIte, Nat.reduceEqDiff, Int.reduceToNat, Nat.reduceMul, Nat.reduceAdd, Nat.reduceBEq, isLd, e1, e22, e23, e24, hkk, r, f0]
    by_cases hlen : ((N.rows.getD k []).length : Int) = N.cols.length
    · simp (maxSteps := 300000) (disch := omega) only [gs, gs2, gs3, gs4, ↓reduceIte, Nat.reduceEqDiff, Int.reduceToNat, Nat.reduceMul, Nat.reduceAdd, Nat.reduceBEq, isLd, eq_true hlen, e1, e22, e23, e24]
      refine impl_areElements_ok (hr.row k (by omega)) (hl3 k (by omega)) fun b2 hb2 => ?_
      rw [show IntKind.i64.wrap (4 - 1) = 3 by decide] at hb2
      cases b2
      · simp (maxSteps := 300000) (disch := omega) only [gs, gs2, gs3, gs4, ↓reduceIte, Nat.reduceEqDiff, Int.reduceToNat, Nat.reduceMul, Nat.reduceAdd, Nat.reduceBEq, isLd, e1, e22, e23, e24]
        exact hno fun hx => by simpa using hb2.2 (hx.2.2.2.1 k (by omega)).2
      · have hb2 := hb2.1 rfl
        have hin' : ∀ i, i < k + 1 → (N.rows.getD i []).length = N.cols.length ∧ InB (N.rows.getD i []) 0 3 := fun i hi => by
          by_cases hik : i = k
          · subst hik; exact ⟨by omega, hb2⟩
          · exact hin i (by omega)
        simp (maxSteps := 300000) (disch := omega) only [gs, gs2, gs3, gs4, ↓reduceIte, Nat.reduceEqDiff, Int.reduceToNat, Nat.reduceMul, Nat.reduceAdd, Nat.reduceBEq, isLd, e1, e22, e23, e24]
        by_cases hk0 : (0 : Int) < k
        · simp (maxSteps := 300000) (disch := omega) only [gs, gs2, gs3, gs4, ↓reduceIte, Nat.reduceEqDiff, Int.reduceToNat, Nat.reduceMul, Nat.reduceAdd, Nat.reduceBEq, isLd, hk0, e1, e22, e23, e24, f1, r]
          refine slices_Compare_ok (hr.row _ (by omega)) (hr.row k (by omega)) (hl3 _ (by omega)) (hl3 k (by omega)) ?_
          simp (maxSteps := 300000) (disch := omega) only [gs, gs2, gs3, gs4, ↓reduceIte, Nat.reduceEqDiff, Int.reduceToNat, Nat.reduceMul, Nat.reduceAdd, Nat.reduceBEq, isLd, e1, e22, e23, e24, f1, r]
          by_cases hx : 0 ≤ lexC (N.rows.getD ((k : Int) - 1).toNat []) (N.rows.getD k [])
          · simp (maxSteps := 300000) (disch := omega) only [gs, gs2, gs3, gs4, ↓reduceIte, Nat.reduceEqDiff, Int.reduceToNat, Nat.reduceMul, Nat.reduceAdd, Nat.reduceBEq, isLd, hx, e1, e22, e23, e24]
            exact hno fun hy => by
              have := hy.2.2.2.2 (k - 1) (by omega)
              rw [show k - 1 + 1 = k by omega, show k - 1 = ((k : Int) - 1).toNat by omega] at this
              omega
          · simp (maxSteps := 300000) (disch := omega) only [gs, gs2, gs3, gs4, ↓reduceIte, Nat.reduceEqDiff, Int.reduceToNat, Nat.reduceMul, Nat.reduceAdd, Nat.reduceBEq, isLd, hx, e1, e22, e23, e24]
            refine ⟨m - 1, by omega, _, Sub.refl _, k + 1, rfl, by omega, by omega, rfl, hin', fun i hi => ?_⟩
            by_cases hik : i + 1 = k
            · rw [hik, show i = ((k : Int) - 1).toNat by omega]; omega
            · exact hlt i (by omega)
        · simp (maxSteps := 300000) (disch := omega) only [gs, gs2, gs3, gs4, ↓reduceIte, Nat.reduceEqDiff, Int.reduceToNat, Nat.reduceMul, Nat.reduceAdd, Nat.reduceBEq, isLd, hk0, e1, e22, e23, e24]
          exact ⟨m - 1, by omega, _, Sub.refl _, k + 1, rfl, by omega, by omega, rfl, hin', fun i hi => by omega⟩
    · simp (maxSteps := 300000) (disch := omega) only [gs, gs2, gs3, gs4, ↓reduceIte, Nat.reduceEqDiff, Int.reduceToNat, Nat.reduceMul, Nat.reduceAdd, Nat.reduceBEq, isLd, eq_false hlen, e1, e22, e23, e24]
      exact hno fun hx => hlen (by have := (hx.2.2.2.1 k (by omega)).1; omega)
  · simp (maxSteps := 300000) (disch := omega) only [gs, gs2, gs3, gs4, ↓reduceIte, Nat.reduceEqDiff, Int.reduceToNat, Nat.reduceMul, Nat.reduceAdd, Nat.reduceBEq, isLd, e1, e22, e23, e24, hkk]
    exact ⟨G, s1, hk true (by simp; exact ⟨hb, hb0, by omega, fun i hi => hin i (by omega), fun i hi => hlt i (by omega)⟩)⟩
theorem own_ne {G : GH} {A : Option Addr} {c sz n : Nat} {cs : List Value} (h : Own G A c cs sz n) : ∀ a, A = some a → G a.block ≠ none := fun a ha => by
  rcases h with ⟨h, _⟩ | ⟨b, r, h1, h2, _⟩
  · rw [h] at ha; cases ha
  · rw [h1] at ha; cases ha; rw [h2]; simp
theorem Own.mk {G : GH} {A : Option Addr} {c n : Nat} {k : Int} (h : Own G A c ((marks k n).map I64) 1 n) : IntS G A c (marks k n) := ⟨by rw [marks_len]; exact h.cap, cells_int' h.cells⟩
theorem Own.len {G : GH} {A : Option Addr} {c sz n : Nat} {cs : List Value} (h : Own G A c cs sz n) : cs.length = n * sz := by
  rcases h with ⟨_, _, rfl, rfl⟩ | ⟨b, r, _, _, h, _⟩
  · simp
  · exact h
theorem ap_own {G : GH} {A B : Option Addr} {c n m d sz bytes : Nat} {z cs news : List Value} {K : Value → GH → Prop} (h : Own G A c cs sz n) (hnews : Cells G B news) (hm : news.length = m * sz) (h1 : ∀ v ∈ news, oneB v = true)
    (hz : z.length = sz) (hsz : 0 < sz) (hb : bytes ≤ 4096) (hlen : n + m < 2 ^ 33) (hk : ∀ G' A' c', Own G' A' c' (cs ++ news) sz (n + m) → (∀ H, Sub H G → Off H A → Sub H G' ∧ Off H A') → K (.slice A' (n + m) c') G') :
    gAp sz bytes z (.slice A n c) (.slice B m d) G K := by
  refine ⟨A, n, c, B, m, d, cs, news, rfl, rfl, h.len, fun j v hj => h.cells j v hj, hm, hnews, h1, ?_, by omega, fun hle => ?_, fun hlt b c' hb hc => ?_⟩
  · have : 2 * (n + m) * bytes ≤ 2 * 2 ^ 33 * 4096 := Nat.mul_le_mul (by omega) hb
    omega
  · rcases h with ⟨rfl, rfl, rfl, rfl⟩ | ⟨b, rest, rfl, hb, hcs, hrest, hnc⟩
    · obtain rfl : m = 0 := by omega
      have hn : news = [] := by simpa using hm
      subst hn
      exact .inl ⟨rfl, G, Sub.refl _, hk G none 0 (.inl ⟨rfl, rfl, rfl, rfl⟩) fun H s o => ⟨s, o⟩⟩
    · have hfit : (n + m) * sz ≤ c * sz := Nat.mul_le_mul_right _ hle
      rw [List.length_append] at hrest
      have hfit' := hfit
      rw [Nat.add_mul] at hfit'
      have ho : over (cs ++ rest) (0 + n * sz) news = cs ++ news ++ rest.drop news.length := by
        have := over_app news cs rest
        rw [if_pos (by omega)] at this
        rw [Nat.zero_add, ← hcs]; exact this
      refine .inr ⟨b, 0, cs ++ rest, rfl, hb, by rw [List.length_append]; omega, _, Sub.refl _, hk _ _ _ (.inr ⟨b, rest.drop news.length, rfl, by rw [put_same, ho], by simp [hcs, hm, Nat.add_mul], ?_, hle⟩) fun H s o => ⟨s.skip (o _ rfl), o⟩⟩
      simp only [List.length_append, List.length_drop]
      omega
  · have hcs := h.len
    refine ⟨_, Sub.refl _, hk _ _ _ (.inr ⟨b, zc z (c' - (n + m)), rfl, put_same _ _ _, by simp [hcs, hm, Nat.add_mul], ?_, hc⟩) fun H s o => ⟨s.skip (s.none hb), fun a ha => by cases ha; exact s.none hb⟩⟩
    have e1 : (zc z (c' - (n + m))).length = (c' - (n + m)) * sz := by simp [zc, hz]
    rw [List.length_append, e1, List.length_append, hcs, hm, ← Nat.add_mul, ← Nat.add_mul]
    congr 1; omega
theorem New.low {G H G' : GH} {A : Option Addr} {c sz n : Nat} {cs : List Value} (h : New G G' A c cs sz n) (s : Sub H G) : ∃ G'', Sub G'' G' ∧ New H G'' A c cs sz n := by
  rcases h with ⟨h1, h2, h3, h4, rfl⟩ | ⟨b, r, h1, h2, rfl, h3⟩
  · exact ⟨H, s, .inl ⟨h1, h2, h3, h4, rfl⟩⟩
  · exact ⟨put H b ⟨cs ++ r, true⟩, Sub.both s, .inr ⟨b, r, h1, s.none h2, rfl, h3⟩⟩
theorem Own.new {G H : GH} {A : Option Addr} {c sz n : Nat} {cs : List Value} (h : Own G A c cs sz n) (s : Sub H G) (o : Off H A) : ∃ G'', Sub G'' G ∧ New H G'' A c cs sz n := by
  rcases h with ⟨h1, h2, h3, h4⟩ | ⟨b, r, h1, h2, h3⟩
  · exact ⟨H, s, .inl ⟨h1, h2, h3, h4, rfl⟩⟩
  · exact ⟨put H b ⟨cs ++ r, true⟩, Sub.of_put s h2, .inr ⟨b, r, h1, o _ h1, rfl, h3⟩⟩
theorem Own.blk {G : GH} {b : Nat} {cs : List Value} {sz n : Nat} (h : G b = some ⟨cs, true⟩) (hl : cs.length = n * sz) : Own G (some ⟨b, 0, none⟩) n cs sz n :=
  .inr ⟨b, [], rfl, by simpa using h, hl, by simpa using hl, Nat.le_refl _⟩
theorem New.fresh {G G' : GH} {A : Option Addr} {c sz n : Nat} {cs : List Value} (h : New G G' A c cs sz n) : Own G' A c cs sz n := h.own.sub (Sub.rest _ _)
theorem Own.ints' {G : GH} {A : Option Addr} {c n : Nat} {xs : List Int} (h : Own G A c (xs.map I64) 1 n) (hn : n = xs.length) : IntS G A c xs := by subst hn; exact h.ints
theorem Off.nil (H : GH) : Off H none := fun a ha => by cases ha
theorem Own.cast {G : GH} {A : Option Addr} {c sz n : Nat} {cs cs' : List Value} (h : Own G A c cs sz n) (e : cs = cs') {n' : Nat} (en : n = n') : Own G A c cs' sz n' := e ▸ en ▸ h
theorem Own.nil (G : GH) (sz : Nat) : Own G none 0 [] sz 0 := .inl ⟨rfl, rfl, rfl, rfl⟩
/-- the cells of a list, one at a place. -/
theorem ints_get (xs : List Int) (k : Nat) (h : k < xs.length) : (xs.map I64)[k]? = some (.int .i64 (xs.getD k 0)) := by simp [List.getD, h, I64]
theorem New.sn {G G' : GH} {A : Option Addr} {c sz n : Nat} {cs : List Value} (h : New G G' A c cs sz n) (hn : 0 < n) : 0 < Gh.sn A := by
  rcases h with ⟨_, _, h0, _, _⟩ | ⟨b, r, rfl, _⟩
  · omega
  · simp [Gh.sn]
theorem IntS.cells {G : GH} {A : Option Addr} {c : Nat} {xs : List Int} (h : IntS G A c xs) : Cells G A (xs.map I64) := fun i v hv => by
  rw [List.getElem?_map] at hv
  obtain ⟨x, hx, rfl⟩ := Option.map_eq_some_iff.1 hv
  have hi := (List.getElem?_eq_some_iff.1 hx).1
  rw [h.rd i hi]
  simp [List.getD, hx, I64]
theorem map_one (xs : List Int) : ∀ v ∈ xs.map I64, oneB v = true := by
  intro v hv
  obtain ⟨x, _, rfl⟩ := List.mem_map.1 hv
  rfl
theorem spec_l00Own_ok {G : GH} {A : Option Addr} {c : Nat} {xs : List Int} (h : IntS G A c xs) (hl : xs.length < 2 ^ 30) {K : Value → GH → Prop}
    (hk : ∀ G' A' c', New G G' A' c' (xs.map I64) 1 xs.length → K (.slice A' xs.length c') G') : GC Tryz.prog 73 [.slice A xs.length c] G K := by
  refine c_spec_l00Own_i (by simp) ?_
  simp (maxSteps := 300000) (disch := omega) only [gs, gs2, gs3, gs4, ↓reduceIte, Nat.reduceEqDiff, Int.reduceToNat, Nat.reduceMul, Nat.reduceAdd, Nat.reduceBEq, isLd, gBs]
  refine ⟨by intro v hv; simp at hv, fun b hb => ?_⟩
  refine ap_new (New.mk hb [] 1 0 rfl) (Sub.refl _) (h.sub (Sub.put hb _)).cells (by simp) (map_one xs) rfl (by omega) (by omega) (by omega) fun G'' A' c' hN => ?_
  simp (maxSteps := 300000) (disch := omega) only [gs, gs2, gs3, gs4, ↓reduceIte, Nat.reduceEqDiff, Int.reduceToNat, Nat.reduceMul, Nat.reduceAdd, Nat.reduceBEq, isLd]
  simpa using hk _ _ _ (hN.cast (by simp) (by simp))
theorem slices_Clone_ok {G : GH} {A : Option Addr} {c : Nat} {xs : List Int} (h : IntS G A c xs) (hl : xs.length < 2 ^ 30) {K : Value → GH → Prop}
    (hk : ∀ G' A' c', New G G' A' c' (xs.map I64) 1 xs.length → K (.slice A' xs.length c') G') : GC Tryz.prog 117 [.slice A xs.length c] G K := by
  refine c_slices_Clone_int64_int64_i (by simp) ?_
  cases A with
  | none =>
    have h0 : xs.length = 0 := by
      rcases Nat.eq_zero_or_pos xs.length with h0 | h0
      · exact h0
      · have := h.sn h0; simp [sn] at this
    obtain rfl : xs = [] := List.length_eq_zero_iff.1 h0
    simp (maxSteps := 300000) (disch := omega) only [gs, gs2, gs3, gs4, ↓reduceIte, Nat.reduceEqDiff, Int.reduceToNat, Nat.reduceMul, Nat.reduceAdd, Nat.reduceBEq, isLd, Option.isNone_none]
    exact hk G none 0 (New.nil _ _)
  | some a =>
    simp (maxSteps := 300000) (disch := omega) only [gs, gs2, gs3, gs4, ↓reduceIte, Nat.reduceEqDiff, Int.reduceToNat, Nat.reduceMul, Nat.reduceAdd, Nat.reduceBEq, isLd, Option.isNone_some, gBs]
    refine ⟨by intro v hv; simp at hv, fun b hb => ?_⟩
    refine ap_new (New.mk hb [] 1 0 rfl) (Sub.refl _) (h.sub (Sub.put hb _)).cells (by simp) (map_one xs) rfl (by omega) (by omega) (by omega) fun G'' A' c' hN => ?_
    simp (maxSteps := 300000) (disch := omega) only [gs, gs2, gs3, gs4, ↓reduceIte, Nat.reduceEqDiff, Int.reduceToNat, Nat.reduceMul, Nat.reduceAdd, Nat.reduceBEq, isLd]
    simpa using hk _ _ _ (hN.cast (by simp) (by simp))
/-- what can still be sent. -/
def left (es : List T3) (t : Int) (fl : List Int) : Nat := (24000000 - exc es fl t es.length).toNat
/-- one cell of one's own block is written: all else stays. -/
def Keep (b : Nat) (G G' : GH) : Prop := ∀ x, x ≠ b → G' x = G x
theorem sub_keep {b : Nat} {G G' H : GH} (h : Keep b G G') (hb : H b = none) (s : Sub H G) : Sub H G' := fun x e hx => by
  have : x ≠ b := fun e' => by rw [e', hb] at hx; cases hx
  rw [h x this]; exact s x e hx
/-- neighbours change places. -/
def sw (ys : List Int) (j : Nat) : List Int := (ys.set j (ys.getD (j - 1) 0)).set (j - 1) (ys.getD j 0)
def del (G : GH) (b : Nat) : GH := fun x => if x = b then none else G x
theorem del_none (G : GH) (b : Nat) : del G b b = none := if_pos rfl
theorem Sub.del (G : GH) (b : Nat) : Sub (Gh.del G b) G := fun x e h => by
  unfold Gh.del at h; split at h
  · cases h
  · exact h
theorem Sub.in_del {K G : GH} {b : Nat} (s : Sub K G) (h : K b = Option.none) : Sub K (Gh.del G b) := fun x e hx => by
  have hxb : x ≠ b := fun e' => by rw [e', h] at hx; cases hx
  unfold Gh.del; rw [if_neg hxb]; exact s x e hx
theorem del_ne (G : GH) {b x : Nat} (h : x ≠ b) : del G b x = G x := if_neg h
/-- bytes in memory. -/
structure BytS (G : GH) (A : Option Addr) (L c : Nat) : Prop where
  cap : L ≤ c
  rd : ∀ i, i < L → ∃ z : Int, 0 ≤ z ∧ z ≤ 255 ∧ rd G (pa A i) = some (.int .u8 z)
theorem BytS.sub {G G' : GH} {A : Option Addr} {L c : Nat} (h : BytS G A L c) (s : Sub G G') : BytS G' A L c := ⟨h.cap, fun i hi => by
  obtain ⟨z, h0, h1, h2⟩ := h.rd i hi
  exact ⟨z, h0, h1, rd_sub s h2⟩⟩
/-- a source: a block of one's own, of which only this is known; H is what else is known. -/
structure Src (H G : GH) (b : Nat) (A : Option Addr) (L c p : Nat) : Prop where
  sub : Sub H G
  nb : H b = none
  byt : BytS H A L c
  ex : ∃ (p' : Nat) (st : Int), p' ≤ p ∧ G b = some ⟨[.slice A L c, .int .i64 p', .int .u64 st], true⟩
theorem Src.le {H G : GH} {b : Nat} {A : Option Addr} {L c p p' : Nat} (h : Src H G b A L c p) (hp : p ≤ p') : Src H G b A L c p' := by
  obtain ⟨q, st, h1, h2⟩ := h.ex
  exact ⟨h.sub, h.nb, h.byt, q, st, by omega, h2⟩
theorem Src.ne {H G : GH} {b x : Nat} {A : Option Addr} {L c p : Nat} (h : Src H G b A L c p) (hx : G x = none) : x ≠ b := by
  obtain ⟨q, st, h1, h2⟩ := h.ex
  exact fun e => by rw [e, h2] at hx; cases hx
/-- a new block beside it. -/
theorem Src.box {H G : GH} {b x : Nat} {A : Option Addr} {L c p : Nat} (h : Src H G b A L c p) (hx : G x = none) (e : Ent) : Src (put H x e) (put G x e) b A L c p := by
  have hne := h.ne hx
  obtain ⟨q, st, h1, h2⟩ := h.ex
  exact ⟨h.sub.both, by rw [put_ne _ _ hne.symm]; exact h.nb, h.byt.sub (Sub.put (h.sub.none hx) _), q, st, h1, by rw [put_ne _ _ hne.symm]; exact h2⟩
theorem Src.low {H H' G : GH} {b : Nat} {A : Option Addr} {L c p : Nat} (h : Src H G b A L c p) (s : Sub H' H) (hb : BytS H' A L c) : Src H' G b A L c p := ⟨s.trans h.sub, s.none h.nb, hb, h.ex⟩
theorem shr40 (st : Int) : binV .shr (.int .u64 st) (.int .u64 40) = some (.int .u64 (st.fdiv (2 ^ 40))) := by
  simp [binV, binOp, Op.shift, pureOf, pure, IntKind.bits]
theorem and255 (x : Int) : ∃ z : Int, (0 ≤ z ∧ z ≤ 255) ∧ binV .and (.int .u64 x) (.int .u64 255) = some (.int .u64 z) := by
  have h2 : binV .and (.int .u64 x) (.int .u64 255) = some (.int .u64 (IntKind.u64.wrap ((BitVec.ofInt 64 x &&& BitVec.ofInt 64 255).toNat : Nat))) := rfl
  refine ⟨_, ?_, h2⟩
  have h1 : (BitVec.ofInt 64 x &&& BitVec.ofInt 64 255).toNat ≤ 255 := by
    rw [BitVec.toNat_and]
    exact Nat.le_trans Nat.and_le_right (by decide)
  generalize (BitVec.ofInt 64 x &&& BitVec.ofInt 64 255).toNat = w at *
  have : IntKind.u64.wrap (w : Int) = w := by
    simp [IntKind.wrap, IntKind.signed, IntKind.bits]
    omega
  rw [this]; omega
theorem rd_some' {G : GH} {A : Option Addr} {k : Nat} {v : Value} (h : rd G (pa A k) = some v) : 0 < sn A := by
  cases A with
  | none => cases h
  | some a => simp [sn]
theorem st_src {G : GH} {b o : Nat} {cs : List Value} {v : Value} {K : Value → GH → Prop} (h : G b = some ⟨cs, true⟩) (h1 : oneB v = true) (ho : o < cs.length) (hk : ∀ G', Keep b G G' → G' b = some ⟨cs.set o v, true⟩ → K undef G') : gSt 1 (.pointer (some ⟨b, o, none⟩)) v G K :=
  st_one h ho h1 (hk _ (fun y hy => put_ne _ _ hy) (put_same _ _ _))
theorem spec_next_ok {H G : GH} {b : Nat} {A : Option Addr} {L c p : Nat} (h : Src H G b A L c p) (hp : p < 2 ^ 40) {K : Value → GH → Prop}
    (hk : ∀ (v : Int) G', 0 ≤ v → v ≤ 255 → Src H G' b A L c (p + 1) → K (.int .i64 v) G') : GC Tryz.prog 138 [.pointer (some ⟨b, 0, none⟩)] G K := by
  refine c_spec_l00Src_next_i (by simp) ?_
  obtain ⟨p', st, hpp, hb⟩ := h.ex
  have r0 : rd G (some ⟨b, 0, none⟩) = some (.slice A L c) := by simp only [rd, hb]; rfl
  have r1 : rd G (some ⟨b, 1, none⟩) = some (.int .i64 p') := by simp only [rd, hb]; rfl
  have r2 : rd G (some ⟨b, 2, none⟩) = some (.int .u64 st) := by simp only [rd, hb]; rfl
  have fin : ∀ (st' : Int) (v : Int) (G' : GH), 0 ≤ v → v ≤ 255 → Keep b G G' → G' b = some ⟨[.slice A L c, .int .i64 ((p' : Int) + 1), .int .u64 st'], true⟩ → K (.int .i64 v) G' := fun st' v G' h0 h1 hK hb' =>
    hk v G' h0 h1 ⟨sub_keep hK h.nb h.sub, h.nb, h.byt, p' + 1, st', by omega, by rw [hb']; rfl⟩
  clear hk
  have hz := and255
  simp (maxSteps := 300000) (disch := omega) only [gs, gs2, gs3, gs4, ↓reduceIte, Nat.reduceEqDiff, Int.reduceToNat, Nat.reduceMul, Nat.reduceAdd, Nat.reduceBEq, isLd, r0, r1, r2]
  by_cases hlt : (p' : Int) < L
  · obtain ⟨z, z0, z1, hz'⟩ := h.byt.rd p' (by omega)
    have hz' := rd_sub h.sub hz'
    have hsA : 0 < sn A := rd_some' hz'
    simp (maxSteps := 300000) (disch := omega) only [gs, gs2, gs3, gs4, ↓reduceIte, Nat.reduceEqDiff, Int.reduceToNat, Nat.reduceMul, Nat.reduceAdd, Nat.reduceBEq, isLd, r0, r1, r2, hlt, hz']
    refine st_src hb rfl (by simp) fun G2 hK1 hb1 => ?_
    simp only [List.set_cons_succ, List.set_cons_zero] at hb1
    have r0 : rd G2 (some ⟨b, 0, none⟩) = some (.slice A L c) := by simp only [rd, hb1]; rfl
    have r1 : rd G2 (some ⟨b, 1, none⟩) = some (.int .i64 ((p' : Int) + 1)) := by simp only [rd, hb1]; rfl
    have r2 : rd G2 (some ⟨b, 2, none⟩) = some (.int .u64 st) := by simp only [rd, hb1]; rfl
    simp (maxSteps := 300000) (disch := omega) only [gs, gs2, gs3, gs4, ↓reduceIte, Nat.reduceEqDiff, Int.reduceToNat, Nat.reduceMul, Nat.reduceAdd, Nat.reduceBEq, isLd, r0, r1, r2]
    refine st_src hb1 rfl (by simp) fun G3 hK2 hb2 => ?_
    simp only [List.set_cons_succ, List.set_cons_zero] at hb2
    have hK3 : Keep b G G3 := fun x hx => (hK2 x hx).trans (hK1 x hx)
    obtain ⟨st', hb3⟩ : ∃ st', G3 b = some ⟨[.slice A L c, .int .i64 ((p' : Int) + 1), .int .u64 st'], true⟩ := ⟨_, hb2⟩
    clear hb2
    have r0 : rd G3 (some ⟨b, 0, none⟩) = some (.slice A L c) := by simp only [rd, hb3]; rfl
    have r1 : rd G3 (some ⟨b, 1, none⟩) = some (.int .i64 ((p' : Int) + 1)) := by simp only [rd, hb3]; rfl
    have r2 : rd G3 (some ⟨b, 2, none⟩) = some (.int .u64 st') := by simp only [rd, hb3]; rfl
    simp (maxSteps := 300000) (disch := omega) only [gs, gs2, gs3, gs4, ↓reduceIte, Nat.reduceEqDiff, Int.reduceToNat, Nat.reduceMul, Nat.reduceAdd, Nat.reduceBEq, isLd, r0, r1, r2, show ((p' : Int) + 1 ≤ L) = True from eq_true (by omega)]
    exact fin st' z G3 z0 z1 hK3 hb3
  · simp (maxSteps := 300000) (disch := omega) only [gs, gs2, gs3, gs4, ↓reduceIte, Nat.reduceEqDiff, Int.reduceToNat, Nat.reduceMul, Nat.reduceAdd, Nat.reduceBEq, isLd, r0, r1, r2, hlt]
    refine st_src hb rfl (by simp) fun G2 hK1 hb1 => ?_
    simp only [List.set_cons_succ, List.set_cons_zero] at hb1
    have r0 : rd G2 (some ⟨b, 0, none⟩) = some (.slice A L c) := by simp only [rd, hb1]; rfl
    have r1 : rd G2 (some ⟨b, 1, none⟩) = some (.int .i64 ((p' : Int) + 1)) := by simp only [rd, hb1]; rfl
    have r2 : rd G2 (some ⟨b, 2, none⟩) = some (.int .u64 st) := by simp only [rd, hb1]; rfl
    simp (maxSteps := 300000) (disch := omega) only [gs, gs2, gs3, gs4, ↓reduceIte, Nat.reduceEqDiff, Int.reduceToNat, Nat.reduceMul, Nat.reduceAdd, Nat.reduceBEq, isLd, r0, r1, r2]
    refine st_src hb1 rfl (by simp) fun G3 hK2 hb2 => ?_
    simp only [List.set_cons_succ, List.set_cons_zero] at hb2
    have hK3 : Keep b G G3 := fun x hx => (hK2 x hx).trans (hK1 x hx)
    obtain ⟨st', hb3⟩ : ∃ st', G3 b = some ⟨[.slice A L c, .int .i64 ((p' : Int) + 1), .int .u64 st'], true⟩ := ⟨_, hb2⟩
    clear hb2
    have r0 : rd G3 (some ⟨b, 0, none⟩) = some (.slice A L c) := by simp only [rd, hb3]; rfl
    have r1 : rd G3 (some ⟨b, 1, none⟩) = some (.int .i64 ((p' : Int) + 1)) := by simp only [rd, hb3]; rfl
    have r2 : rd G3 (some ⟨b, 2, none⟩) = some (.int .u64 st') := by simp only [rd, hb3]; rfl
    obtain ⟨z, ⟨z0, z1⟩, hz'⟩ := hz (st'.fdiv (2 ^ 40))
    simp (maxSteps := 300000) (disch := omega) only [gs, gs2, gs3, gs4, ↓reduceIte, Nat.reduceEqDiff, Int.reduceToNat, Nat.reduceMul, Nat.reduceAdd, Nat.reduceBEq, isLd, r0, r1, r2, show ((p' : Int) + 1 ≤ L) = False from eq_false (by omega), shr40, hz']
    exact fin st' z G3 z0 z1 hK3 hb3
theorem spec_pick_ok {H G : GH} {b : Nat} {A : Option Addr} {L c p : Nat} (h : Src H G b A L c p) (hp : p + 2 < 2 ^ 40) {n : Int} (hn : n ≤ 10000) {K : Value → GH → Prop}
    (hk : ∀ (v : Int) G', 0 ≤ v → (1 ≤ n → v < n) → (n < 1 → v = 0) → Src H G' b A L c (p + 2) → K (.int .i64 v) G') : GC Tryz.prog 61 [.pointer (some ⟨b, 0, none⟩), .int .i64 n] G K := by
  refine c_spec_l00Src_pick_i (by simp) ?_
  simp (maxSteps := 300000) (disch := omega) only [gs, gs2, gs3, gs4, ↓reduceIte, Nat.reduceEqDiff, Int.reduceToNat, Nat.reduceMul, Nat.reduceAdd, Nat.reduceBEq, isLd]
  by_cases h1 : n ≤ 1
  · simp (maxSteps := 300000) (disch := omega) only [gs, gs2, gs3, gs4, ↓reduceIte, Nat.reduceEqDiff, Int.reduceToNat, Nat.reduceMul, Nat.reduceAdd, Nat.reduceBEq, isLd, h1]
    exact hk 0 G (by omega) (by omega) (fun _ => rfl) (h.le (by omega))
  · simp (maxSteps := 300000) (disch := omega) only [gs, gs2, gs3, gs4, ↓reduceIte, Nat.reduceEqDiff, Int.reduceToNat, Nat.reduceMul, Nat.reduceAdd, Nat.reduceBEq, isLd, h1]
    refine spec_next_ok h (by omega) fun v G2 v0 v1 h2 => ?_
    simp (maxSteps := 300000) (disch := omega) only [gs, gs2, gs3, gs4, ↓reduceIte, Nat.reduceEqDiff, Int.reduceToNat, Nat.reduceMul, Nat.reduceAdd, Nat.reduceBEq, isLd]
    have fin : ∀ (x : Int) G', 0 ≤ x → Src H G' b A L c (p + 2) → K (.int .i64 (x.tmod n)) G' := fun x G' x0 h' => by
      have e1 := Int.tmod_nonneg n x0
      have e2 := Int.tmod_lt_of_pos x (show 0 < n by omega)
      exact hk _ G' e1 (fun _ => e2) (fun y => by omega) h'
    have hrem := fun x : Int => bin_rem .i64 x n (by omega)
    by_cases h3 : 200 < n
    · simp (maxSteps := 300000) (disch := omega) only [gs, gs2, gs3, gs4, ↓reduceIte, Nat.reduceEqDiff, Int.reduceToNat, Nat.reduceMul, Nat.reduceAdd, Nat.reduceBEq, isLd, h3]
      refine spec_next_ok h2 (by omega) fun w G3 w0 w1 h4 => ?_
      simp (maxSteps := 300000) (disch := omega) only [gs, gs2, gs3, gs4, ↓reduceIte, Nat.reduceEqDiff, Int.reduceToNat, Nat.reduceMul, Nat.reduceAdd, Nat.reduceBEq, isLd, hrem]
      exact fin _ G3 (by omega) h4
    · simp (maxSteps := 300000) (disch := omega) only [gs, gs2, gs3, gs4, ↓reduceIte, Nat.reduceEqDiff, Int.reduceToNat, Nat.reduceMul, Nat.reduceAdd, Nat.reduceBEq, isLd, h3, hrem]
      exact fin _ G2 v0 (h2.le (by omega))
theorem spec_one_ok {H G : GH} {b : Nat} {A : Option Addr} {L c p : Nat} (h : Src H G b A L c p) (hp : p + 2 < 2 ^ 40) {n : Int} (hn : n ≤ 10000) {K : Value → GH → Prop}
    (hk : ∀ (v : Bool) G', Src H G' b A L c (p + 2) → K (.bool v) G') : GC Tryz.prog 178 [.pointer (some ⟨b, 0, none⟩), .int .i64 n] G K := by
  refine c_spec_l00Src_one_i (by simp) ?_
  simp (maxSteps := 300000) (disch := omega) only [gs, gs2, gs3, gs4, ↓reduceIte, Nat.reduceEqDiff, Int.reduceToNat, Nat.reduceMul, Nat.reduceAdd, Nat.reduceBEq, isLd]
  refine spec_pick_ok h hp hn fun v G2 _ _ _ h2 => ?_
  simp (maxSteps := 300000) (disch := omega) only [gs, gs2, gs3, gs4, ↓reduceIte, Nat.reduceEqDiff, Int.reduceToNat, Nat.reduceMul, Nat.reduceAdd, Nat.reduceBEq, isLd]
  exact hk _ G2 h2
theorem spec_among_ok {H G : GH} {b : Nat} {A B : Option Addr} {L c p d : Nat} {xs : List Int} (h : Src H G b A L c p) (hp : p + 2 < 2 ^ 40) (hx : IntS H B d xs) (hl : 1 ≤ xs.length) (hl2 : xs.length ≤ 10000) {K : Value → GH → Prop}
    (hk : ∀ (v : Int) G', v ∈ xs → Src H G' b A L c (p + 2) → K (.int .i64 v) G') : GC Tryz.prog 122 [.pointer (some ⟨b, 0, none⟩), .slice B xs.length d] G K := by
  refine c_spec_l00Src_among_i (by simp) ?_
  simp (maxSteps := 300000) (disch := omega) only [gs, gs2, gs3, gs4, ↓reduceIte, Nat.reduceEqDiff, Int.reduceToNat, Nat.reduceMul, Nat.reduceAdd, Nat.reduceBEq, isLd]
  refine spec_pick_ok h hp (by omega) fun v G2 v0 v1 _ h2 => ?_
  have hv := v1 (by omega)
  have q := (hx.sub h2.sub).rd v.toNat (by omega)
  have hsB := hx.sn (by omega)
  simp (maxSteps := 300000) (disch := omega) only [gs, gs2, gs3, gs4, ↓reduceIte, Nat.reduceEqDiff, Int.reduceToNat, Nat.reduceMul, Nat.reduceAdd, Nat.reduceBEq, isLd, q]
  exact hk _ G2 (by
    have : v.toNat < xs.length := by omega
    simp [List.getD, this]) h2
theorem T3S.cells {G : GH} {A : Option Addr} {c : Nat} {es : List T3} (h : T3S G A c es) : Cells G A (flat3 es) := fun i v hv => by
  have hl : i < (flat3 es).length := by
    rcases Nat.lt_or_ge i (flat3 es).length with h | h
    · exact h
    · rw [List.getElem?_eq_none h] at hv; cases hv
  rw [flat3_len] at hl
  have hi : i / 3 < es.length := by omega
  obtain ⟨g0, g1, g2⟩ := flat3_get es (i / 3) hi
  have h3 : i % 3 = 0 ∨ i % 3 = 1 ∨ i % 3 = 2 := by omega
  rcases h3 with h3 | h3 | h3
  · rw [show i = i / 3 * 3 by omega] at hv ⊢
    rw [g0] at hv; cases hv
    exact h.r0 _ hi
  · have e : i = i / 3 * 3 + 1 := by omega
    rw [e] at hv ⊢
    rw [g1] at hv; cases hv
    exact h.r1 _ hi
  · have e : i = i / 3 * 3 + 2 := by omega
    rw [e] at hv ⊢
    rw [g2] at hv; cases hv
    exact h.r2 _ hi
def z4 : List Value := [.int .i64 0, .int .i64 0, .int .i64 0, .slice none 0 0]
theorem Src.all {H G : GH} {b : Nat} {A : Option Addr} {L c p : Nat} (h : Src H G b A L c p) : Src (del G b) G b A L c p := ⟨Sub.del _ _, del_none _ _, h.byt.sub (h.sub.in_del h.nb), h.ex⟩
theorem Own.del {G : GH} {A : Option Addr} {c sz n b : Nat} {cs : List Value} (h : Own G A c cs sz n) (hb : ∀ a, A = some a → a.block ≠ b) : Own (Gh.del G b) A c cs sz n := by
  rcases h with h | ⟨x, r, rfl, h2, h3⟩
  · exact .inl h
  · exact .inr ⟨x, r, rfl, by rw [del_ne _ (hb _ rfl)]; exact h2, h3⟩
theorem lexC_cons_neg {x y : Int} {xs ys : List Int} : lexC (x :: xs) (y :: ys) < 0 ↔ x < y ∨ (x = y ∧ lexC xs ys < 0) := by
  rw [lexC]
  split
  · next h => have := cmp3_zero.1 h; constructor
              · intro k; exact .inr ⟨this, k⟩
              · rintro (k | k)
                · omega
                · exact k.2
  · next h => rw [cmp3_neg]; constructor
              · intro k; exact .inl k
              · rintro (k | k)
                · exact k
                · exact absurd (cmp3_zero.2 k.1) h
theorem lexC_cons_zero {x y : Int} {xs ys : List Int} : lexC (x :: xs) (y :: ys) = 0 ↔ x = y ∧ lexC xs ys = 0 := by
  rw [lexC]
  split
  · next h => have := cmp3_zero.1 h; exact ⟨fun k => ⟨this, k⟩, fun k => k.2⟩
  · next h => exact ⟨fun k => absurd k h, fun k => absurd (cmp3_zero.2 k.1) h⟩
theorem lexC_zero : ∀ {xs ys : List Int}, lexC xs ys = 0 ↔ xs = ys
  | [], [] => by simp [lexC]
  | [], y :: ys => by simp [lexC]
  | x :: xs, [] => by simp [lexC]
  | x :: xs, y :: ys => by rw [lexC_cons_zero, lexC_zero]; simp
theorem lexC_self (xs : List Int) : lexC xs xs = 0 := lexC_zero.2 rfl
theorem lexC_tri : ∀ (xs ys : List Int), lexC xs ys < 0 ∨ xs = ys ∨ lexC ys xs < 0
  | [], [] => .inr (.inl rfl)
  | [], y :: ys => .inl (by rw [lexC]; decide)
  | x :: xs, [] => .inr (.inr (by rw [lexC]; decide))
  | x :: xs, y :: ys => by
    rw [lexC_cons_neg, lexC_cons_neg]
    rcases lexC_tri xs ys with h | h | h
    · rcases Int.lt_trichotomy x y with k | k | k
      · exact .inl (.inl k)
      · exact .inl (.inr ⟨k, h⟩)
      · exact .inr (.inr (.inl k))
    · rcases Int.lt_trichotomy x y with k | k | k
      · exact .inl (.inl k)
      · exact .inr (.inl (by rw [k, h]))
      · exact .inr (.inr (.inl k))
    · rcases Int.lt_trichotomy x y with k | k | k
      · exact .inl (.inl k)
      · exact .inr (.inr (.inr ⟨k.symm, h⟩))
      · exact .inr (.inr (.inl k))
theorem lexC_trans : ∀ {xs ys zs : List Int}, lexC xs ys < 0 → lexC ys zs < 0 → lexC xs zs < 0
  | [], [], _, h, _ => by simp [lexC] at h
  | [], _ :: _, [], _, h => by simp [lexC] at h
  | [], _ :: _, _ :: _, _, _ => by rw [lexC]; decide
  | _ :: _, [], _, h, _ => by simp [lexC] at h
  | _ :: _, _ :: _, [], _, h => by simp [lexC] at h
  | x :: xs, y :: ys, z :: zs, h, k => by
    rw [lexC_cons_neg] at h k ⊢
    rcases h with h | ⟨h, h'⟩
    · rcases k with k | ⟨k, k'⟩
      · exact .inl (by omega)
      · exact .inl (by omega)
    · rcases k with k | ⟨k, k'⟩
      · exact .inl (by omega)
      · exact .inr ⟨by omega, lexC_trans h' k'⟩
theorem lexC_asym {xs ys : List Int} (h : lexC xs ys < 0) (k : lexC ys xs < 0) : False := by
  have := lexC_trans h k; rw [lexC_self] at this; omega
/-- rows that rise. -/
def Asc (xss : List (List Int)) : Prop := xss.Pairwise fun a b => lexC a b < 0
theorem asc_unique : ∀ {a b : List (List Int)}, Asc a → Asc b → (∀ x, x ∈ a ↔ x ∈ b) → a = b
  | [], [], _, _, _ => rfl
  | [], y :: ys, _, _, h => by have := (h y).2 (by simp); simp at this
  | x :: xs, [], _, _, h => by have := (h x).1 (by simp); simp at this
  | x :: xs, y :: ys, ha, hb, h => by
    have ha' := List.pairwise_cons.1 ha
    have hb' := List.pairwise_cons.1 hb
    have e : x = y := by
      have h1 := (h x).1 (by simp)
      have h2 := (h y).2 (by simp)
      rcases List.mem_cons.1 h1 with e | e
      · exact e
      · rcases List.mem_cons.1 h2 with e' | e'
        · exact e'.symm
        · exact (lexC_asym (hb'.1 x e) (ha'.1 y e')).elim
    subst e
    congr 1
    refine asc_unique ha'.2 hb'.2 fun z => ?_
    constructor
    · intro hz
      rcases List.mem_cons.1 ((h z).1 (by simp [hz])) with e | e
      · have := ha'.1 z hz; rw [e, lexC_self] at this; omega
      · exact e
    · intro hz
      rcases List.mem_cons.1 ((h z).2 (by simp [hz])) with e | e
      · have := hb'.1 z hz; rw [e, lexC_self] at this; omega
      · exact e
/-- a row put into rising rows. -/
def ins (x : List Int) : List (List Int) → List (List Int)
  | [] => [x]
  | y :: ys => if lexC x y = 0 then y :: ys else if lexC x y < 0 then x :: y :: ys else y :: ins x ys
theorem mem_ins {x z : List Int} : ∀ {xss : List (List Int)}, z ∈ ins x xss ↔ z = x ∨ z ∈ xss
  | [] => by simp [ins]
  | y :: ys => by
    unfold ins
    split
    · next h => have := lexC_zero.1 h; subst this; simp
    · split
      · simp
      · rw [List.mem_cons, mem_ins]; simp only [List.mem_cons]; constructor
        · rintro (h | h | h)
          · exact .inr (.inl h)
          · exact .inl h
          · exact .inr (.inr h)
        · rintro (h | h | h)
          · exact .inr (.inl h)
          · exact .inl h
          · exact .inr (.inr h)
theorem asc_ins {x : List Int} : ∀ {xss : List (List Int)}, Asc xss → Asc (ins x xss)
  | [], _ => by simp [ins, Asc]
  | y :: ys, h => by
    have h' := List.pairwise_cons.1 h
    unfold ins
    split
    · exact h
    · split
      · next k => exact List.pairwise_cons.2 ⟨fun z hz => by
          rcases List.mem_cons.1 hz with e | e
          · rw [e]; exact k
          · exact lexC_trans k (h'.1 z e), h⟩
      · next k0 k => refine List.pairwise_cons.2 ⟨fun z hz => ?_, asc_ins h'.2⟩
                     rcases mem_ins.1 hz with e | e
                     · subst e; rcases lexC_tri z y with q | q | q
                       · exact absurd q k
                       · exact absurd (lexC_zero.2 q) k0
                       · exact q
                     · exact h'.1 z e
/-- rows in their order, each once. -/
def srt (xss : List (List Int)) : List (List Int) := xss.foldl (fun a x => ins x a) []
theorem srt_fold : ∀ (xss a : List (List Int)), Asc a → Asc (xss.foldl (fun a x => ins x a) a) ∧ ∀ z, z ∈ xss.foldl (fun a x => ins x a) a ↔ z ∈ a ∨ z ∈ xss
  | [], a, h => ⟨h, fun z => by simp⟩
  | x :: xs, a, h => by
    have := srt_fold xs (ins x a) (asc_ins h)
    refine ⟨this.1, fun z => ?_⟩
    rw [List.foldl_cons, this.2, mem_ins, List.mem_cons]; constructor
    · rintro ((h | h) | h)
      · exact .inr (.inl h)
      · exact .inl h
      · exact .inr (.inr h)
    · rintro (h | h | h)
      · exact .inl (.inr h)
      · exact .inl (.inl h)
      · exact .inr h
theorem srt_asc (xss : List (List Int)) : Asc (srt xss) := (srt_fold xss [] List.Pairwise.nil).1
theorem srt_mem {xss : List (List Int)} {z : List Int} : z ∈ srt xss ↔ z ∈ xss := by rw [srt, (srt_fold xss [] List.Pairwise.nil).2]; simp
theorem srt_eq {xss yss : List (List Int)} (h : Asc yss) (m : ∀ z, z ∈ yss ↔ z ∈ xss) : yss = srt xss := asc_unique h (srt_asc xss) fun z => (m z).trans srt_mem.symm
theorem srt_snoc (xss : List (List Int)) (x : List Int) : srt (xss ++ [x]) = ins x (srt xss) := by simp [srt, List.foldl_append]
theorem ins_len (x : List Int) : ∀ xss : List (List Int), (ins x xss).length ≤ xss.length + 1
  | [] => by simp [ins]
  | y :: ys => by
    unfold ins
    split
    · simp
    · split
      · simp
      · have := ins_len x ys; simp; omega
theorem srt_len (xss : List (List Int)) : (srt xss).length ≤ xss.length := by
  have : ∀ (ys a : List (List Int)), (ys.foldl (fun a x => ins x a) a).length ≤ a.length + ys.length := by
    intro ys
    induction ys with
    | nil => intro a; simp
    | cons y ys ih => intro a; have := ih (ins y a); have := ins_len y a; simp; omega
  simpa [srt] using this xss []
/-- each row but those that equal the row ahead of them. -/
def ddp : List Int → List (List Int) → List (List Int)
  | _, [] => []
  | p, x :: xs => if x = p then ddp x xs else x :: ddp x xs
def dd : List (List Int) → List (List Int)
  | [] => []
  | x :: xs => x :: ddp x xs
theorem ddp_mem : ∀ {p : List Int} {xs : List (List Int)} {z : List Int}, z ∈ p :: ddp p xs ↔ z ∈ p :: xs
  | p, [], z => by simp [ddp]
  | p, x :: xs, z => by
    unfold ddp
    split
    · next h => subst h; rw [ddp_mem]; simp
    · have := @ddp_mem x xs z
      simp only [List.mem_cons] at this ⊢
      rw [this]
/-- rows none of which is less than one ahead of it. -/
def Wk (xss : List (List Int)) : Prop := xss.Pairwise fun a b => ¬ lexC b a < 0
theorem lt_of_nlt_ne {a b : List Int} (h : ¬ lexC b a < 0) (k : b ≠ a) : lexC a b < 0 := by
  rcases lexC_tri a b with q | q | q
  · exact q
  · exact absurd q.symm k
  · exact absurd q h
theorem ddp_asc : ∀ {p : List Int} {xs : List (List Int)}, Wk (p :: xs) → Asc (p :: ddp p xs)
  | p, [], _ => by simp [ddp, Asc]
  | p, x :: xs, h => by
    have h' := List.pairwise_cons.1 h
    unfold ddp
    split
    · next e => subst e; exact ddp_asc h'.2
    · next e =>
      have k := ddp_asc h'.2
      refine List.pairwise_cons.2 ⟨fun z hz => ?_, k⟩
      have hpx := lt_of_nlt_ne (h'.1 x (by simp)) e
      rcases List.mem_cons.1 hz with q | q
      · rw [q]; exact hpx
      · exact lexC_trans hpx ((List.pairwise_cons.1 k).1 z q)
theorem dd_srt {xss : List (List Int)} (h : Wk xss) : dd xss = srt xss := by
  cases xss with
  | nil => rfl
  | cons x xs => exact srt_eq (ddp_asc h) fun z => ddp_mem
def srt_lay_ren : Go.Shelf.Ren := ⟨fun | 6 => 186 | 15 => 228 | 14 => 229 | 28 => 263 | 29 => 264 | 20 => 265 | 21 => 266 | 22 => 267 | 23 => 268 | 24 => 269 | 25 => 270 | 26 => 271 | 27 => 272 | 46 => 291 | 47 => 287 | 48 => 288 | 49 => 292 | 50 => 293 | 57 => 301 | n => n, fun | 22 => 24 | 24 => 27 | 25 => 190 | 3 => 3 | 39 => 206 | 0 => 0 | 53 => 248 | 55 => 145 | 4 => 4 | 46 => 242 | 45 => 241 | 50 => 238 | 5 => 5 | 9 => 9 | 66 => 262 | 70 => 266 | 76 => 274 | 77 => 275 | n => n, fun n => n⟩
theorem srt_lay : Go.Proofs.SlLaysF.n6 Tryz.prog srt_lay_ren := {
  mixed := by kernel_rfl
  f6 := ⟨Tryz.f186.name, by decide, Tryz.func186.trans (congrArg some (by kernel_rfl))⟩
  f14 := ⟨Tryz.f229.name, by decide, Tryz.func229.trans (congrArg some (by kernel_rfl))⟩
  f15 := Tryz.func228.trans (congrArg some (by kernel_rfl))
  f20 := ⟨Tryz.f265.name, by decide, Tryz.func265.trans (congrArg some (by kernel_rfl))⟩
  f21 := ⟨Tryz.f266.name, by decide, Tryz.func266.trans (congrArg some (by kernel_rfl))⟩
  f22 := ⟨Tryz.f267.name, by decide, Tryz.func267.trans (congrArg some (by kernel_rfl))⟩
  f23 := ⟨Tryz.f268.name, by decide, Tryz.func268.trans (congrArg some (by kernel_rfl))⟩
  f24 := ⟨Tryz.f269.name, by decide, Tryz.func269.trans (congrArg some (by kernel_rfl))⟩
  f25 := ⟨Tryz.f270.name, by decide, Tryz.func270.trans (congrArg some (by kernel_rfl))⟩
  f26 := ⟨Tryz.f271.name, by decide, Tryz.func271.trans (congrArg some (by kernel_rfl))⟩
  f27 := ⟨Tryz.f272.name, by decide, Tryz.func272.trans (congrArg some (by kernel_rfl))⟩
  f28 := Tryz.func263.trans (congrArg some (by kernel_rfl))
  f29 := Tryz.func264.trans (congrArg some (by kernel_rfl))
  f46 := ⟨Tryz.f291.name, by decide, Tryz.func291.trans (congrArg some (by kernel_rfl))⟩
  f47 := Tryz.func287.trans (congrArg some (by kernel_rfl))
  f48 := Tryz.func288.trans (congrArg some (by kernel_rfl))
  f49 := ⟨Tryz.f292.name, by decide, Tryz.func292.trans (congrArg some (by kernel_rfl))⟩
  f50 := ⟨Tryz.f293.name, by decide, Tryz.func293.trans (congrArg some (by kernel_rfl))⟩
  f57 := ⟨Tryz.f301.name, by decide, Tryz.func301.trans (congrArg some (by kernel_rfl))⟩
  t0 := Tryz.underlying0
  a0 := Tryz.isAgg0
  z0 := Tryz.sizeOf0
  v0 := Tryz.zeroValue0
  t3 := Tryz.underlying3
  a3 := Tryz.isAgg3
  z3 := Tryz.sizeOf3
  v3 := Tryz.zeroValue3
  t4 := Tryz.underlying4
  a4 := Tryz.isAgg4
  z4 := Tryz.sizeOf4
  v4 := Tryz.zeroValue4
  t5 := Tryz.underlying5
  a5 := Tryz.isAgg5
  z5 := Tryz.sizeOf5
  v5 := Tryz.zeroValue5
  t9 := Tryz.underlying9
  a9 := Tryz.isAgg9
  z9 := Tryz.sizeOf9
  v9 := Tryz.zeroValue9
  t22 := Tryz.underlying24
  a22 := Tryz.isAgg24
  z22 := Tryz.sizeOf24
  v22 := Tryz.zeroValue24
  a24 := Tryz.isAgg27
  z24 := Tryz.sizeOf27
  t25 := Tryz.underlying190
  a25 := Tryz.isAgg190
  z25 := Tryz.sizeOf190
  v25 := Tryz.zeroValue190
  t39 := Tryz.underlying206
  a39 := Tryz.isAgg206
  z39 := Tryz.sizeOf206
  v39 := Tryz.zeroValue206
  t45 := Tryz.underlying241
  a45 := Tryz.isAgg241
  z45 := Tryz.sizeOf241
  v45 := Tryz.zeroValue241
  t46 := Tryz.underlying242
  a46 := Tryz.isAgg242
  z46 := Tryz.sizeOf242
  v46 := Tryz.zeroValue242
  t50 := Tryz.underlying238
  a50 := Tryz.isAgg238
  z50 := Tryz.sizeOf238
  v50 := Tryz.zeroValue238
  t53 := Tryz.underlying248
  a53 := Tryz.isAgg248
  z53 := Tryz.sizeOf248
  v53 := Tryz.zeroValue248
  t55 := Tryz.underlying145
  a55 := Tryz.isAgg145
  z55 := Tryz.sizeOf145
  v55 := Tryz.zeroValue145
  t66 := Tryz.underlying262
  a66 := Tryz.isAgg262
  z66 := Tryz.sizeOf262
  v66 := Tryz.zeroValue262
  t70 := Tryz.underlying266
  a70 := Tryz.isAgg266
  z70 := Tryz.sizeOf266
  v70 := Tryz.zeroValue266
  t76 := Tryz.underlying274
  a76 := Tryz.isAgg274
  z76 := Tryz.sizeOf274
  v76 := Tryz.zeroValue274
  t77 := Tryz.underlying275
  a77 := Tryz.isAgg275
  z77 := Tryz.sizeOf275
  v77 := Tryz.zeroValue275 }
/-- what is known but for a block, and nothing to be written. -/
def ro (G : GH) (b : Nat) : GH := fun x => if x = b then none else (G x).map fun e => ⟨e.cells, false⟩
theorem rd_ro {G : GH} {b : Nat} {A : Option Addr} (h : ∀ a, A = some a → a.block ≠ b) : Gh.rd (ro G b) A = Gh.rd G A := by
  cases A with
  | none => rfl
  | some a =>
    obtain ⟨x, o, s⟩ := a
    cases s with
    | some => rfl
    | none =>
      have hx : x ≠ b := h _ rfl
      simp only [Gh.rd, ro, if_neg hx]
      cases G x <;> rfl
theorem add_block (a : Addr) (i : Nat) : (a.add i).block = a.block := by
  unfold Addr.add
  split <;> rfl
theorem IntS.ro {G : GH} {A : Option Addr} {c b : Nat} {xs : List Int} (h : IntS G A c xs) (hne : ∀ a, A = some a → a.block ≠ b) : IntS (Gh.ro G b) A c xs := by
  refine ⟨h.cap, fun i hi => ?_⟩
  rw [rd_ro]
  · exact h.rd i hi
  · intro a ha
    cases A with
    | none => simp [pa] at ha
    | some a' =>
      simp [pa] at ha
      subst ha
      rw [add_block]
      exact hne a' rfl
theorem sw_heap {α : Type} [Inhabited α] (enc : α → Value) (w : World) (b o m : Nat) (d : Array α) (os : Array Obj) {x : Nat} (hx : x < w.heap.size) :
    (sortWorld enc w b o m d os).heap[x]? = if b = x then (w.heap[x]?).map (Go.Sort.onCells (Go.Sort.putCells enc o d)) else w.heap[x]? := by
  show ((w.heap.modify b _) ++ os)[x]? = _
  rw [Array.getElem?_append_left (by rw [Array.size_modify]; exact hx), Array.getElem?_modify]
theorem sw_size {α : Type} [Inhabited α] (enc : α → Value) (w : World) (b o m : Nat) (d : Array α) (os : Array Obj) : w.heap.size ≤ (sortWorld enc w b o m d os).heap.size := by
  show _ ≤ ((w.heap.modify b _) ++ os).size
  rw [Array.size_append, Array.size_modify]; omega
theorem heap_lt {w : World} {x : Nat} {o : Obj} (h : w.heap[x]? = some o) : x < w.heap.size := (Array.getElem?_eq_some_iff.1 h).1
theorem grown_of {w w' : World} (h : Below w.heap.size w w') (k : w.drawn ≤ w'.drawn) : ∃ q os', w' = Go.Sort.grow (w.drewN q) os' := by
  obtain ⟨p, hp⟩ := regrown_of_below h
  have hd : w'.drawn = p.d := by rw [hp]; rfl
  refine ⟨p.d - w.drawn, p.os, ?_⟩
  rw [hp]
  unfold redrawn World.drewN
  congr 2
  omega
theorem putCells_all {α : Type} [Inhabited α] (enc : α → Value) (d : Array α) (cs rest : List Value) (h : cs.length = d.size) : Go.Sort.putCells enc 0 d (cs ++ rest).toArray = (d.toList.map enc ++ rest).toArray := by
  apply Array.ext_getElem?
  intro k
  simp only [Go.Sort.putCells, Array.getElem?_mapIdx, List.getElem?_toArray, Nat.zero_le, true_and, Nat.zero_add, Nat.sub_zero]
  by_cases hk : k < d.size
  · rw [List.getElem?_append_left (by omega), List.getElem?_append_left (by simpa using hk)]
    simp [hk, h, List.getElem?_eq_getElem (show k < cs.length by omega)]
  · rw [List.getElem?_append_right (by omega), List.getElem?_append_right (by simpa using hk)]
    simp only [if_neg hk, List.length_map, Array.length_toList, h]
    cases rest[k - d.size]? <;> rfl
theorem sort_enter : Enterable Tryz.prog 186 := by
  obtain ⟨nm, hn, hf⟩ := srt_lay.f6
  exact ⟨_, hf, hn, rfl⟩
theorem SortFunc_none_ok {G : GH} {p : Option Addr} {c : Nat} {f : Value} {K : Value → GH → Prop} (hk : K (.tuple #[]) G) : GC Tryz.prog 186 [.slice p 0 c, f] G K := by
  refine ⟨sort_enter, fun W w hw => ?_⟩
  have h := AnyF.slices_SortFunc_none (P := Tryz.prog) (ρ := srt_lay_ren) { srt_lay with } p c f w
  refine Calls.mono h ?_
  rintro e w' ⟨rfl, rfl⟩
  exact ⟨_, G, rfl, hk, hw⟩
theorem swo_lex {α : Type} (f : α → List Int) : Go.Sort.SWO (ltOf fun i j => lexC (f i) (f j)) where
  irrefl x := by simp [ltOf, lexC_self]
  trans x y z h k := by
    simp only [ltOf, decide_eq_true_eq] at h k ⊢
    exact lexC_trans h k
  ntrans x y z h k := by
    simp only [ltOf, decide_eq_false_iff_not] at h k ⊢
    intro q
    rcases lexC_tri (f y) (f x) with e | e | e
    · rcases lexC_tri (f z) (f y) with e' | e' | e'
      · exact lexC_asym q (lexC_trans e' e)
      · exact lexC_asym q (by rw [e']; exact e)
      · exact k e'
    · exact k (by rw [e]; exact q)
    · exact h e
/-- a row's value, and what lies there. -/
def RowV (G : GH) (b : Nat) (e : Value × List Int) : Prop := ∃ A d, e.1 = .slice A e.2.length d ∧ IntS G A d e.2 ∧ (∀ a, A = some a → a.block ≠ b) ∧ e.2.length < 2 ^ 40
theorem SortFunc_some_ok {G : GH} {b c : Nat} {E : List (Value × List Int)} {rest : List Value} (h0 : 0 < E.length) (hb : G b = some ⟨E.map (·.1) ++ rest, true⟩) (hE : ∀ e ∈ E, RowV G b e) (hn : E.length < 2 ^ 40) {K : Value → GH → Prop}
    (hk : ∀ E' : List (Value × List Int), E'.Perm E → Wk (E'.map (·.2)) → K (.tuple #[]) (put G b ⟨E'.map (·.1) ++ rest, true⟩)) :
    GC Tryz.prog 186 [.slice (some ⟨b, 0, none⟩) E.length c, .func (.func 180) #[] #[]] G K := by
  refine ⟨sort_enter, fun W w hw => ?_⟩
  obtain ⟨el, fz, hheap, hrw⟩ := hw.ent b _ hb
  obtain ⟨hWb, hfr⟩ := hrw rfl
  have hbs := heap_lt hheap
  obtain ⟨e0, he0⟩ : ∃ e0, e0 ∈ E := ⟨E[0], List.getElem_mem h0⟩
  have hget : ∀ i, E.getD i e0 ∈ E := fun i => by
    by_cases hi : i < E.length
    · simp [List.getD, hi]
    · simp [List.getD, List.getElem?_eq_none (show E.length ≤ i by omega), he0]
  let enc : Nat → Value := fun i => (E.getD i e0).1
  let cf : Nat → Nat → Int := fun i j => lexC (E.getD i e0).2 (E.getD j e0).2
  let d : Array Nat := (List.range E.length).toArray
  have hds : d.size = E.length := by simp [d]
  have hmapd : (List.range E.length).map (fun i => E.getD i e0) = E := by
    apply List.ext_getElem?
    intro i
    rw [List.getElem?_map]
    by_cases hi : i < E.length
    · simp [hi, List.getD]
    · simp [hi, List.getElem?_eq_none (show E.length ≤ i by omega)]
  have hold : ∀ m (os : Array Obj) (dk : Array Nat), Holds (sortWorld enc w b 0 m dk os) (sortWorld enc w b 0 m dk os) (ro G b) := fun m os dk => ⟨Below.refl _ _, fun x e he => by
    unfold ro at he
    split at he
    · cases he
    · next hx =>
      obtain ⟨e', h1, rfl⟩ := Option.map_eq_some_iff.1 he
      obtain ⟨el', fz', hh, _⟩ := hw.ent x e' h1
      exact ⟨el', fz', by rw [sw_heap _ _ _ _ _ _ _ (heap_lt hh), if_neg fun q => hx q.symm]; exact hh, fun q => by cases q⟩, Nat.le_refl _⟩
  have hcmp : CmpLays1 Tryz.prog 180 #[] enc cf b 0 d.size w := by
    intro m os dk hdk x y
    obtain ⟨A, dA, hA, hIA, hnA, hlA⟩ := hE _ (hget x)
    obtain ⟨B, dB, hB, hIB, hnB, hlB⟩ := hE _ (hget y)
    have hc := (slices_Compare_ok (hIA.ro hnA) (hIB.ro hnB) hlA hlB (K := fun v _ => v = .int .i64 (cf x y)) rfl).2 _ _ (hold m os dk)
    have ea : (#[enc x, enc y] ++ #[] : Array Value) = [Value.slice A (E.getD x e0).2.length dA, Value.slice B (E.getD y e0).2.length dB].toArray := by
      show #[(E.getD x e0).1, (E.getD y e0).1] ++ #[] = _
      rw [hA, hB]; rfl
    rw [ea]
    refine Calls.mono hc ?_
    rintro e w' ⟨v, G', rfl, rfl, hh⟩
    exact ⟨rfl, grown_of hh.below hh.drawn⟩
  have eg : ∀ args w, (callFunc 180 args).run Tryz.prog w = .ok (.enter 180 args) w := by
    obtain ⟨A, dA, hA, hIA, hnA, hlA⟩ := hE _ he0
    obtain ⟨fn, h1, h2, h3⟩ := (slices_Compare_ok hIA hIA hlA hlA (K := fun _ _ => True) trivial).1
    cases hbd : fn.body with
    | none => rw [hbd] at h3; cases h3
    | some cd => exact enters_of h1 h2 hbd
  have hH : Go.Sort.Holds enc w b 0 d := fun j hj => by
    rw [hds] at hj
    have hdj : d[j]! = j := by simp [d, hj]
    constructor
    · simp only [World.cell?, hheap, Nat.zero_add, Option.isSome_none, Bool.false_eq_true, if_false]
      rw [hdj]
      simp [enc, List.getElem?_append_left, hj, List.getD]
    · simp only [World.frozen?, hheap, Nat.zero_add]
      have := hfr j (by simp; omega)
      simp only [Bool.and_eq_false_iff, decide_eq_false_iff_not]
      omega
  have h1c : OneCell enc := fun x => by
    obtain ⟨A, dA, hA, _⟩ := hE _ (hget x)
    show ((E.getD x e0).1).oneCell' = true
    rw [hA]; rfl
  have main := Any.slices_SortFunc srt_lay enc h1c cf (swo_lex fun i => (E.getD i e0).2) 180 #[] b 0 c d w eg hcmp hH hbs (by rw [hds]; omega)
  rw [hds] at main
  refine Calls.mono main ?_
  rintro e w' ⟨rfl, d', n, os, hp, hs, rfl⟩
  have hsz : d'.size = E.length := by rw [hp.1, hds]
  have hperm : d'.toList.Perm (List.range E.length) := by
    have := hp.2.2
    have e1 : d'.extract 0 E.length = d' := by rw [← hsz]; simp
    have e2 : d.extract 0 E.length = d := by rw [← hds]; simp
    rw [e1, e2] at this
    simpa [d] using this
  have hP : (d'.toList.map fun i => E.getD i e0).Perm E := by
    have := hperm.map (fun i => E.getD i e0)
    rw [hmapd] at this
    exact this
  have hW : Wk ((d'.toList.map fun i => E.getD i e0).map (·.2)) := by
    unfold Wk
    rw [List.pairwise_iff_getElem]
    intro i j hi hj hij
    have hi' : i < d'.size := by simpa using hi
    have hj' : j < d'.size := by simpa using hj
    have := hs i j (Nat.zero_le _) hij (by omega)
    simp only [ltOf, decide_eq_false_iff_not] at this
    rw [getElem!_pos d' i hi', getElem!_pos d' j hj'] at this
    simpa [cf] using this
  refine ⟨_, _, rfl, hk _ hP hW, ⟨⟨hw.below.os, hw.below.tape, hw.below.output, Nat.le_trans hw.below.size (sw_size _ _ _ _ _ _ _), fun k hk' => ?_⟩, fun x e he => ?_, Nat.le_trans hw.drawn (Nat.le_add_right _ _)⟩⟩
  · rw [sw_heap _ _ _ _ _ _ _ (Nat.lt_of_lt_of_le hk' hw.below.size), if_neg (by omega)]
    exact hw.below.block k hk'
  · unfold put at he
    split at he
    · next q =>
      subst q
      obtain rfl := Option.some.inj he
      refine ⟨el, fz, ?_, fun _ => ⟨hWb, fun i hi => hfr i (by simpa [hsz] using hi)⟩⟩
      rw [sw_heap _ _ _ _ _ _ _ hbs, if_pos rfl, hheap]
      show some (Obj.cells (Go.Sort.putCells enc 0 d' (E.map (·.1) ++ rest).toArray) el fz) = _
      rw [putCells_all _ _ _ _ (by simp [hsz])]
      simp [enc, Function.comp_def]
    · next q =>
      obtain ⟨el', fz', hh, hr⟩ := hw.ent x e he
      exact ⟨el', fz', by rw [sw_heap _ _ _ _ _ _ _ (heap_lt hh), if_neg fun r => q r.symm]; exact hh, hr⟩
/-- the cell of a row in a column. -/
def cellAt (cols row : List Int) (c : Int) : Int := row.getD (cols.idxOf c) 0
/-- two rows have the same cells in all columns that both tables have. -/
def FitP (a b x y : List Int) : Prop := ∀ c, c ∈ a → c ∈ b → cellAt a x c = cellAt b y c
def wo' (xs ys : List Int) : List Int := xs.filter fun c => decide (¬ c ∈ ys)
def comm (a b : List Int) : List Int := a.filter fun c => decide (c ∈ b)
theorem wo_wo (a b : List Int) : wo' a (wo' a b) = comm a b := by
  unfold comm
  show List.filter _ a = _
  refine List.filter_congr fun c hc => ?_
  have : (¬ c ∈ wo' a b) = (c ∈ b) := propext ⟨fun h => Classical.byContradiction fun hn => h (by unfold wo'; simp [hc, hn]), fun h hm => by unfold wo' at hm; simp [h] at hm⟩
  simp only [this]
theorem fit_map {a b x y : List Int} : (comm a b).map (cellAt a x) = (comm a b).map (cellAt b y) ↔ FitP a b x y := by
  unfold FitP comm
  constructor
  · intro h c h1 h2
    exact List.map_inj_left.1 h c (by simp [h1, h2])
  · intro h
    exact List.map_congr_left fun c hc => by
      simp at hc; exact h c hc.1 hc.2
open Classical in
noncomputable def semiR (a b : Tab) : List (List Int) := a.rows.filter fun x => decide (∃ y ∈ b.rows, FitP a.cols b.cols x y)
noncomputable def semiT (a b : Tab) : Tab := ⟨a.cols, semiR a b⟩
open Classical in
noncomputable def semiV (a b : Tab) : Tab × Int := if TabOk a ∧ TabOk b then (semiT a b, 0) else (⟨[], []⟩, 1)
/-- a list of lists, each in a block of its own. -/
structure OwnR (G : GH) (B : Option Addr) (d : Nat) (hs : Nat → Option Addr × Nat) (xss : List (List Int)) : Prop where
  out : Own G B d ((List.range xss.length).map fun i => Value.slice (hs i).1 (xss.getD i []).length (hs i).2) 1 xss.length
  row : ∀ i, i < xss.length → Own G (hs i).1 (hs i).2 ((xss.getD i []).map I64) 1 (xss.getD i []).length
  ne : ∀ i, i < xss.length → ∀ a b, (hs i).1 = some a → B = some b → a.block ≠ b.block
  inj : ∀ i j, i < xss.length → j < xss.length → i ≠ j → ∀ a b, (hs i).1 = some a → (hs j).1 = some b → a.block ≠ b.block
theorem OwnR.sub {G G' : GH} {B : Option Addr} {d : Nat} {hs : Nat → Option Addr × Nat} {xss : List (List Int)} (h : OwnR G B d hs xss) (s : Sub G G') : OwnR G' B d hs xss := ⟨h.out.sub s, fun i hi => (h.row i hi).sub s, h.ne, h.inj⟩
theorem OwnR.rows {G : GH} {B : Option Addr} {d : Nat} {hs : Nat → Option Addr × Nat} {xss : List (List Int)} (h : OwnR G B d hs xss) : RowS G B d hs xss := by
  refine ⟨h.out.cap, fun i hi => ?_, fun i hi => (h.row i hi).ints⟩
  have := h.out.cells i (Value.slice (hs i).1 (xss.getD i []).length (hs i).2) (by simp [hi])
  exact this
theorem OwnR.nil (G : GH) (hs : Nat → Option Addr × Nat) : OwnR G none 0 hs [] := ⟨Own.nil _ _, fun i hi => by simp at hi, fun i hi => by simp at hi, fun i j hi => by simp at hi⟩
/-- how many cells lie ahead of a list. -/
def pre (xss : List (List Int)) : Nat → Nat
  | 0 => 0
  | j + 1 => pre xss j + (xss.getD j []).length
theorem pre_bd {xss : List (List Int)} {M : Nat} (h : ∀ i, i < xss.length → (xss.getD i []).length ≤ M) : ∀ j, j ≤ xss.length → pre xss j ≤ M * j
  | 0, _ => Nat.zero_le _
  | j + 1, hj => by
    have := pre_bd h j (by omega)
    have := h j (by omega)
    show pre xss j + _ ≤ M * (j + 1)
    rw [Nat.mul_succ]; omega
/-- the blocks of the lists. -/
def rowB (hs : Nat → Option Addr × Nat) (n : Nat) : Nat → Prop := fun x => ∃ i, i < n ∧ ∃ a, (hs i).1 = some a ∧ a.block = x
/-- other blocks are as they were. -/
def Oth (S : Nat → Prop) (G G' : GH) : Prop := ∀ x, ¬ S x → G' x = G x
theorem Oth.refl (S : Nat → Prop) (G : GH) : Oth S G G := fun _ _ => rfl
theorem Oth.trans {S : Nat → Prop} {G G' G'' : GH} (h : Oth S G G') (h' : Oth S G' G'') : Oth S G G'' := fun x hx => (h' x hx).trans (h x hx)
theorem Oth.mono {S S' : Nat → Prop} {G G' : GH} (h : Oth S G G') (hs : ∀ x, S x → S' x) : Oth S' G G' := fun x hx => h x fun y => hx (hs x y)
theorem Oth.sub {S : Nat → Prop} {H G G' : GH} (h : Oth S G G') (s : Sub H G) (o : ∀ x, S x → H x = none) : Sub H G' := fun x e hx => by
  rw [h x fun y => by rw [o x y] at hx; cases hx]; exact s x e hx
theorem Upd.oth {G G' : GH} {A : Option Addr} (u : Upd G G' A) : Oth (fun x => ∃ a, A = some a ∧ a.block = x) G G' := fun x hx => by
  rcases u with rfl | ⟨b, e, rfl, _, rfl⟩
  · rfl
  · exact put_ne _ _ fun y => hx ⟨_, rfl, y.symm⟩
theorem Own.oth {G G' : GH} {S : Nat → Prop} {A : Option Addr} {c sz n : Nat} {cs : List Value} (h : Own G A c cs sz n) (u : Oth S G G') (hA : ∀ a, A = some a → ¬ S a.block) : Own G' A c cs sz n := by
  rcases h with h | ⟨b, r, rfl, hb, h⟩
  · exact .inl h
  · exact .inr ⟨b, r, rfl, by rw [u b (hA _ rfl)]; exact hb, h⟩
/-- one of the lists is written over. -/
theorem OwnR.set {G G' : GH} {B : Option Addr} {d i : Nat} {hs : Nat → Option Addr × Nat} {xss yss : List (List Int)} (h : OwnR G B d hs xss) (hi : i < xss.length) (u : Upd G G' (hs i).1) (hl : yss.length = xss.length) (hy : (yss.getD i []).length = (xss.getD i []).length)
    (ho : ∀ j, j < xss.length → j ≠ i → yss.getD j [] = xss.getD j []) (hw : Own G' (hs i).1 (hs i).2 ((yss.getD i []).map I64) 1 (yss.getD i []).length) : OwnR G' B d hs yss := by
  refine ⟨?_, fun j hj => ?_, fun j hj => h.ne j (by omega), fun j k hj hk => h.inj j k (by omega) (by omega)⟩
  · have e : ((List.range yss.length).map fun i => Value.slice (hs i).1 (yss.getD i []).length (hs i).2) = (List.range xss.length).map fun i => Value.slice (hs i).1 (xss.getD i []).length (hs i).2 := by
      rw [hl]
      refine List.map_congr_left fun j hj => ?_
      by_cases e : j = i
      · subst e; rw [hy]
      · rw [ho j (List.mem_range.1 hj) e]
    rw [e, hl]
    exact h.out.oth u.oth fun b hb => fun ⟨a, ha, hx⟩ => h.ne i hi a b ha hb hx
  · by_cases e : j = i
    · subst e; exact hw
    · rw [ho j (by omega) e]
      exact (h.row j (by omega)).oth u.oth fun b hb => fun ⟨a, ha, hx⟩ => h.inj i j hi (by omega) (fun y => e y.symm) a b ha hb hx
/-- a table whose lists lie in blocks of their own. -/
structure OwnT (G : GH) (N : Tab) (A : Option Addr) (c : Nat) (B : Option Addr) (d : Nat) (hs : Nat → Option Addr × Nat) : Prop where
  cols : Own G A c (N.cols.map I64) 1 N.cols.length
  rows : OwnR G B d hs N.rows
  nB : ∀ a b, A = some a → B = some b → a.block ≠ b.block
  nR : ∀ i, i < N.rows.length → ∀ a b, A = some a → (hs i).1 = some b → a.block ≠ b.block
theorem OwnT.sub {G G' : GH} {N : Tab} {A B : Option Addr} {c d : Nat} {hs : Nat → Option Addr × Nat} (h : OwnT G N A c B d hs) (s : Sub G G') : OwnT G' N A c B d hs := ⟨h.cols.sub s, h.rows.sub s, h.nB, h.nR⟩
def tabB (A B : Option Addr) (hs : Nat → Option Addr × Nat) (n : Nat) : Nat → Prop := fun x => (∃ a, A = some a ∧ a.block = x) ∨ (∃ a, B = some a ∧ a.block = x) ∨ rowB hs n x
/-- what is new, in blocks that were not known. -/
structure NewT (G G' : GH) (N : Tab) (A : Option Addr) (c : Nat) (B : Option Addr) (d : Nat) (hs : Nat → Option Addr × Nat) : Prop where
  sub : Sub G G'
  own : OwnT (rest G G') N A c B d hs
theorem NewT.off {G G' : GH} {N : Tab} {A B : Option Addr} {c d : Nat} {hs : Nat → Option Addr × Nat} (h : NewT G G' N A c B d hs) : ∀ x, tabB A B hs N.rows.length x → G x = none := by
  have key : ∀ {A : Option Addr} {c sz n : Nat} {cs : List Value}, Own (rest G G') A c cs sz n → ∀ a, A = some a → G a.block = none := fun h a ha => by
    rcases h with ⟨h, _⟩ | ⟨b, r, h1, h2, _⟩
    · rw [h] at ha; cases ha
    · rw [h1] at ha; cases ha; exact (rest_some.1 h2).1
  rintro x (⟨a, ha, rfl⟩ | ⟨a, ha, rfl⟩ | ⟨i, hi, a, ha, rfl⟩)
  · exact key h.own.cols a ha
  · exact key h.own.rows.out a ha
  · exact key (h.own.rows.row i hi) a ha
theorem OwnT.on {G : GH} {N : Tab} {A B : Option Addr} {c d : Nat} {hs : Nat → Option Addr × Nat} (h : OwnT G N A c B d hs) : ∀ x, tabB A B hs N.rows.length x → G x ≠ none := by
  rintro x (⟨a, ha, rfl⟩ | ⟨a, ha, rfl⟩ | ⟨i, hi, a, ha, rfl⟩)
  · exact own_ne h.cols a ha
  · exact own_ne h.rows.out a ha
  · exact own_ne (h.rows.row i hi) a ha
theorem spec_l20Ok_ok {G : GH} {q : Option Addr} {N : Tab} {A B : Option Addr} {c d : Nat} {hs : Nat → Option Addr × Nat} (h : TabP G q N A c B d hs) (hl : N.cols.length < 2 ^ 40) (hl1 : Sh N.rows) {K : Value → GH → Prop}
    (hk : ∀ b : Bool, (b = true ↔ TabOk N) → K (.bool b) G) : GC Tryz.prog 113 [.pointer q] G K := by
  refine c_spec_l20Ok_i (by simp) ?_
  obtain ⟨hl2, hl3⟩ := hl1
  have hq := rd_some h.f0
  have f0 := h.f0
  have f1 := h.f1
  have hr := h.rows
  have hno : ¬ TabOk N → K (.bool false) G := fun hx => hk false (by simp [hx])
  simp (maxSteps := 300000) (disch := omega) only [gs, gs2, gs3, gs4, ↓reduceIte, Nat.reduceEqDiff, Int.reduceToNat, Nat.reduceMul, Nat.reduceAdd, Nat.reduceBEq, isLd, f0]
  refine spec_l00Rises_ok h.cols hl fun b hb => ?_
  cases b
  · simp (maxSteps := 300000) (disch := omega) only [gs, gs2, gs3, gs4, ↓reduceIte, Nat.reduceEqDiff, Int.reduceToNat, Nat.reduceMul, Nat.reduceAdd, Nat.reduceBEq, isLd, f0, f1]
    exact hno fun hx => by simpa using hb.2 ⟨hx.2.1, hx.1⟩
  have hb := hb.1 rfl
  simp (maxSteps := 300000) (disch := omega) only [gs, gs2, gs3, gs4, ↓reduceIte, Nat.reduceEqDiff, Int.reduceToNat, Nat.reduceMul, Nat.reduceAdd, Nat.reduceBEq, isLd, f0, f1]
  by_cases h24 : (24 : Int) < N.rows.length
  · simp (maxSteps := 300000) (disch := omega) only [gs, gs2, gs3, gs4, ↓reduceIte, Nat.reduceEqDiff, Int.reduceToNat, Nat.reduceMul, Nat.reduceAdd, Nat.reduceBEq, isLd, h24, f0, f1]
    exact hno fun hx => by have := hx.2.2.1; omega
  simp (maxSteps := 300000) (disch := omega) only [gs, gs2, gs3, gs4, ↓reduceIte, Nat.reduceEqDiff, Int.reduceToNat, Nat.reduceMul, Nat.reduceAdd, Nat.reduceBEq, isLd, h24, f0, f1]
  refine gLoop_intro (fun m T G' => ∃ k : Nat, T 0 = .pointer q ∧ T 3 = .int .i64 k ∧ m + k = N.rows.length ∧ k ≤ N.rows.length ∧ G' = G ∧
    (∀ i, i < k → (N.rows.getD i []).length = N.cols.length ∧ InB (N.rows.getD i []) 0 3) ∧ ∀ i, i + 1 < k → lexC (N.rows.getD i []) (N.rows.getD (i + 1) []) < 0) N.rows.length
    ⟨0, by simp (maxSteps := 300000) (disch := omega) only [gs, gs2, gs3, gs4, ↓reduceIte, Nat.reduceEqDiff, Int.reduceToNat, Nat.reduceMul, Nat.reduceAdd, Nat.reduceBEq, isLd], by simp (maxSteps := 300000) (disch := omega) only [gs, gs2, gs3, gs4, ↓reduceIte, Nat.reduceEqDiff, Int.reduceToNat, Nat.reduceMul, Nat.reduceAdd, Nat.reduceBEq, isLd] <;> rfl, by omega, by omega, rfl, fun i hi => by omega, fun i hi => by omega⟩ ?_
  rintro m T G' ⟨k, e0, e3, hm, hkl, rfl, hin, hlt⟩
  have hsn := hr.sn
  have r := hr.r
  simp (maxSteps := 300000) (disch := omega) only [gs, gs2, gs3, gs4, ↓reduceIte, Nat.reduceEqDiff, Int.reduceToNat, Nat.reduceMul, Nat.reduceAdd, Nat.reduceBEq, isLd, e0, e3, f0, f1]
  by_cases hkk : (k : Int) < N.rows.length
  · simp (maxSteps := 300000) (disch := omega) only [gs, gs2, gs3, gs4, ↓reduceIte, Nat.reduceEqDiff, Int.reduceToNat, Nat.reduceMul, Nat.reduceAdd, Nat.reduceBEq, isLd, e0, e3, f0, f1, hkk, r]
    have inner : ((N.rows.getD k []).length = N.cols.length) → (∀ i, i + 1 < k + 1 → lexC (N.rows.getD i []) (N.rows.getD (i + 1) []) < 0) → True := fun _ _ => trivial
    by_cases hlen : ((N.rows.getD k []).length : Int) = N.cols.length
    · simp (maxSteps := 300000) (disch := omega) only [gs, gs2, gs3, gs4, ↓reduceIte, Nat.reduceEqDiff, Int.reduceToNat, Nat.reduceMul, Nat.reduceAdd, Nat.reduceBEq, isLd, eq_true hlen, e0, e3, f0, f1, r]
      by_cases hk0 : (0 : Int) < k
      · simp (maxSteps := 300000) (disch := omega) only [gs, gs2, gs3, gs4, ↓reduceIte, Nat.reduceEqDiff, Int.reduceToNat, Nat.reduceMul, Nat.reduceAdd, Nat.reduceBEq, isLd, hk0, e0, e3, f0, f1, r]
        refine spec_l16Before_ok (hr.row _ (by omega)) (hr.row k (by omega)) (hl3 _ (by omega)) (hl3 k (by omega)) fun b hb => ?_
        cases b
        · simp (maxSteps := 300000) (disch := omega) only [gs, gs2, gs3, gs4, ↓reduceIte, Nat.reduceEqDiff, Int.reduceToNat, Nat.reduceMul, Nat.reduceAdd, Nat.reduceBEq, isLd, e0, e3, f0, f1, r]
          exact hno fun hy => by
            have := hy.2.2.2.2 (k - 1) (by omega)
            rw [show k - 1 + 1 = k by omega, show k - 1 = ((k : Int) - 1).toNat by omega] at this
            simpa using hb.2 this
        · have hb := hb.1 rfl
          have hlt' : ∀ i, i + 1 < k + 1 → lexC (N.rows.getD i []) (N.rows.getD (i + 1) []) < 0 := fun i hi => by
            by_cases hik : i + 1 = k
            · rw [hik, show i = ((k : Int) - 1).toNat by omega]; omega
            · exact hlt i (by omega)
          simp (maxSteps := 300000) (disch := omega) only [gs, gs2, gs3, gs4, ↓reduceIte, Nat.reduceEqDiff, Int.reduceToNat, Nat.reduceMul, Nat.reduceAdd, Nat.reduceBEq, isLd, e0, e3, f0, f1, r]
          refine gLoop_intro (fun m' T G'' => ∃ j : Nat, T 0 = .pointer q ∧ T 3 = .int .i64 k ∧ T 4 = .int .i64 j ∧ m' + j = (N.rows.getD k []).length ∧ j ≤ (N.rows.getD k []).length ∧ G'' = G' ∧ ∀ i, i < j → 0 ≤ (N.rows.getD k []).getD i 0 ∧ (N.rows.getD k []).getD i 0 ≤ 3) (N.rows.getD k []).length
            ⟨0, by simp (maxSteps := 300000) (disch := omega) only [gs, gs2, gs3, gs4, ↓reduceIte, Nat.reduceEqDiff, Int.reduceToNat, Nat.reduceMul, Nat.reduceAdd, Nat.reduceBEq, isLd, e0], by simp (maxSteps := 300000) (disch := omega) only [gs, gs2, gs3, gs4, ↓reduceIte, Nat.reduceEqDiff, Int.reduceToNat, Nat.reduceMul, Nat.reduceAdd, Nat.reduceBEq, isLd, e3], by simp (maxSteps := 300000) (disch := omega) only [gs, gs2, gs3, gs4, ↓reduceIte, Nat.reduceEqDiff, Int.reduceToNat, Nat.reduceMul, Nat.reduceAdd, Nat.reduceBEq, isLd] <;> rfl, by omega, by omega, rfl, fun i hi => by omega⟩ ?_
          rintro m' T G'' ⟨j, e0, e3, e4, hm', hjl, rfl, hje⟩
          have hrk := hr.row k (by omega)
          have rr := hrk.rd
          have hsnk := hrk.sn
          have hl3k := hl3 k (by omega)
          simp (maxSteps := 300000) (disch := omega) only [gs, gs2, gs3, gs4, ↓reduceIte, Nat.reduceEqDiff, Int.reduceToNat, Nat.reduceMul, Nat.reduceAdd, Nat.reduceBEq, isLd, e0, e3, e4, f0, f1, r]
          by_cases hj : (j : Int) < (N.rows.getD k []).length
          · simp (maxSteps := 300000) (disch := omega) only [gs, gs2, gs3, gs4, ↓reduceIte, Nat.reduceEqDiff, Int.reduceToNat, Nat.reduceMul, Nat.reduceAdd, Nat.reduceBEq, isLd, e0, e3, e4, f0, f1, r, hj, rr]
            refine spec_l00In_ok _ _ _ ?_
            simp (maxSteps := 300000) (disch := omega) only [gs, gs2, gs3, gs4, ↓reduceIte, Nat.reduceEqDiff, Int.reduceToNat, Nat.reduceMul, Nat.reduceAdd, Nat.reduceBEq, isLd, e0, e3, e4]
            cases g : decide (0 ≤ (N.rows.getD k []).getD j 0 ∧ (N.rows.getD k []).getD j 0 ≤ 3)
            · simp (maxSteps := 300000) (disch := omega) only [gs, gs2, gs3, gs4, ↓reduceIte, Nat.reduceEqDiff, Int.reduceToNat, Nat.reduceMul, Nat.reduceAdd, Nat.reduceBEq, isLd, e0, e3, e4]
              have g := of_decide_eq_false g
              exact hno fun hx => g ((hx.2.2.2.1 k (by omega)).2 j (by omega))
            · simp (maxSteps := 300000) (disch := omega) only [gs, gs2, gs3, gs4, ↓reduceIte, Nat.reduceEqDiff, Int.reduceToNat, Nat.reduceMul, Nat.reduceAdd, Nat.reduceBEq, isLd, e0, e3, e4]
              have g := of_decide_eq_true g
              refine ⟨m' - 1, by omega, _, Sub.refl _, j + 1, rfl, by omega, by omega, rfl, fun i hi => ?_⟩
              by_cases hij : i = j
              · subst hij; exact g
              · exact hje i (by omega)
          · simp (maxSteps := 300000) (disch := omega) only [gs, gs2, gs3, gs4, ↓reduceIte, Nat.reduceEqDiff, Int.reduceToNat, Nat.reduceMul, Nat.reduceAdd, Nat.reduceBEq, isLd, e0, e3, e4, f0, f1, r, hj]
            refine ⟨m - 1, by omega, _, Sub.refl _, k + 1, rfl, by omega, by omega, rfl, fun i hi => ?_, hlt'⟩
            by_cases hik : i = k
            · subst hik; exact ⟨by omega, fun i hi => hje i (by omega)⟩
            · exact hin i (by omega)
      · have hlt' : ∀ i, i + 1 < k + 1 → lexC (N.rows.getD i []) (N.rows.getD (i + 1) []) < 0 := fun i hi => by omega
        simp (maxSteps := 300000) (disch := omega) only [gs, gs2, gs3, gs4, ↓reduceIte, Nat.reduceEqDiff, Int.reduceToNat, Nat.reduceMul, Nat.reduceAdd, Nat.reduceBEq, isLd, hk0, e0, e3, f0, f1, r]
        refine gLoop_intro (fun m' T G'' => ∃ j : Nat, T 0 = .pointer q ∧ T 3 = .int .i64 k ∧ T 4 = .int .i64 j ∧ m' + j = (N.rows.getD k []).length ∧ j ≤ (N.rows.getD k []).length ∧ G'' = G' ∧ ∀ i, i < j → 0 ≤ (N.rows.getD k []).getD i 0 ∧ (N.rows.getD k []).getD i 0 ≤ 3) (N.rows.getD k []).length
          ⟨0, by simp (maxSteps := 300000) (disch := omega) only [gs, gs2, gs3, gs4, ↓reduceIte, Nat.reduceEqDiff, Int.reduceToNat, Nat.reduceMul, Nat.reduceAdd, Nat.reduceBEq, isLd, e0], by simp (maxSteps := 300000) (disch := omega) only [gs, gs2, gs3, gs4, ↓reduceIte, Nat.reduceEqDiff, Int.reduceToNat, Nat.reduceMul, Nat.reduceAdd, Nat.reduceBEq, isLd, e3], by simp (maxSteps := 300000) (disch := omega) only [gs, gs2, gs3, gs4, ↓reduceIte, Nat.reduceEqDiff, Int.reduceToNat, Nat.reduceMul, Nat.reduceAdd, Nat.reduceBEq, isLd] <;> rfl, by omega, by omega, rfl, fun i hi => by omega⟩ ?_
        rintro m' T G'' ⟨j, e0, e3, e4, hm', hjl, rfl, hje⟩
        have hrk := hr.row k (by omega)
        have rr := hrk.rd
        have hsnk := hrk.sn
        have hl3k := hl3 k (by omega)
        simp (maxSteps := 300000) (disch := omega) only [gs, gs2, gs3, gs4, ↓reduceIte, Nat.reduceEqDiff, Int.reduceToNat, Nat.reduceMul, Nat.reduceAdd, Nat.reduceBEq, isLd, e0, e3, e4, f0, f1, r]
        by_cases hj : (j : Int) < (N.rows.getD k []).length
        · simp (maxSteps := 300000) (disch := omega) only [gs, gs2, gs3, gs4, ↓reduceIte, Nat.reduceEqDiff, Int.reduceToNat, Nat.reduceMul, Nat.reduceAdd, Nat.reduceBEq, isLd, e0, e3, e4, f0, f1, r, hj, rr]
          refine spec_l00In_ok _ _ _ ?_
          simp (maxSteps := 300000) (disch := omega) only [gs, gs2, gs3, gs4, ↓reduceIte, Nat.reduceEqDiff, Int.reduceToNat, Nat.reduceMul, Nat.reduceAdd, Nat.reduceBEq, isLd, e0, e3, e4]
          cases g : decide (0 ≤ (N.rows.getD k []).getD j 0 ∧ (N.rows.getD k []).getD j 0 ≤ 3)
          · simp (maxSteps := 300000) (disch := omega) only [gs, gs2, gs3, gs4, ↓reduceIte, Nat.reduceEqDiff, Int.reduceToNat, Nat.reduceMul, Nat.reduceAdd, Nat.reduceBEq, isLd, e0, e3, e4]
            have g := of_decide_eq_false g
            exact hno fun hx => g ((hx.2.2.2.1 k (by omega)).2 j (by omega))
          · simp (maxSteps := 300000) (disch := omega) only [gs, gs2, gs3, gs4, ↓reduceIte, Nat.reduceEqDiff, Int.reduceToNat, Nat.reduceMul, Nat.reduceAdd, Nat.reduceBEq, isLd, e0, e3, e4]
            have g := of_decide_eq_true g
            refine ⟨m' - 1, by omega, _, Sub.refl _, j + 1, rfl, by omega, by omega, rfl, fun i hi => ?_⟩
            by_cases hij : i = j
            · subst hij; exact g
            · exact hje i (by omega)
        · simp (maxSteps := 300000) (disch := omega) only [gs, gs2, gs3, gs4, ↓reduceIte, Nat.reduceEqDiff, Int.reduceToNat, Nat.reduceMul, Nat.reduceAdd, Nat.reduceBEq, isLd, e0, e3, e4, f0, f1, r, hj]
          refine ⟨m - 1, by omega, _, Sub.refl _, k + 1, rfl, by omega, by omega, rfl, fun i hi => ?_, hlt'⟩
          by_cases hik : i = k
          · subst hik; exact ⟨by omega, fun i hi => hje i (by omega)⟩
          · exact hin i (by omega)
    · simp (maxSteps := 300000) (disch := omega) only [gs, gs2, gs3, gs4, ↓reduceIte, Nat.reduceEqDiff, Int.reduceToNat, Nat.reduceMul, Nat.reduceAdd, Nat.reduceBEq, isLd, eq_false hlen, e0, e3, f0, f1, r]
      exact hno fun hx => hlen (by have := (hx.2.2.2.1 k (by omega)).1; omega)
  · simp (maxSteps := 300000) (disch := omega) only [gs, gs2, gs3, gs4, ↓reduceIte, Nat.reduceEqDiff, Int.reduceToNat, Nat.reduceMul, Nat.reduceAdd, Nat.reduceBEq, isLd, e0, e3, f0, f1, hkk]
    exact hk true (by simp; exact ⟨hb.2, hb.1, by omega, fun i hi => hin i (by omega), fun i hi => hlt i (by omega)⟩)
theorem spec_ValidTable_ok {G : GH} {N : Tab} {A B : Option Addr} {c d : Nat} {hs : Nat → Option Addr × Nat} (h : IntS G A c N.cols) (h' : RowS G B d hs N.rows) (hl : N.cols.length < 2 ^ 40) (hl1 : Sh N.rows) {K : Value → GH → Prop}
    (hk : ∀ b : Bool, (b = true ↔ TabOk N) → K (.bool b) G) : GC Tryz.prog 48 [tabV N A c B d] G K := by
  refine GC_drop (c_spec_ValidTable_i (by simp) ?_)
  unfold tabV
  simp (maxSteps := 300000) (disch := omega) only [gs, gs2, gs3, gs4, ↓reduceIte, Nat.reduceEqDiff, Int.reduceToNat, Nat.reduceMul, Nat.reduceAdd, Nat.reduceBEq, isLd]
  intro b1 hb1
  simp (maxSteps := 300000) (disch := omega) only [gs, gs2, gs3, gs4, ↓reduceIte, Nat.reduceEqDiff, Int.reduceToNat, Nat.reduceMul, Nat.reduceAdd, Nat.reduceBEq, isLd]
  refine spec_l20Ok_ok (TabP.box hb1 h h') hl hl1 fun b hb => ?_
  simp (maxSteps := 300000) (disch := omega) only [gs, gs2, gs3, gs4, ↓reduceIte, Nat.reduceEqDiff, Int.reduceToNat, Nat.reduceMul, Nat.reduceAdd, Nat.reduceBEq, isLd]
  exact ⟨G, Sub.put hb1 _, hk b hb⟩
theorem flatMap_cong {α β : Type} {l : List α} {f g : α → List β} (h : ∀ a ∈ l, f a = g a) : l.flatMap f = l.flatMap g := by
  induction l with
  | nil => rfl
  | cons a l ih => rw [List.flatMap_cons, List.flatMap_cons, h a (by simp), ih fun b hb => h b (by simp [hb])]
/-- few tables, which are all valid. -/
def TabsOk (ts : List Tab) : Prop := ts.length ≤ 6 ∧ ∀ i, i < ts.length → TabOk (ts.getD i t0)
theorem spec_l20List_ok {G : GH} {A : Option Addr} {c : Nat} {H : Nat → TH} {ts : List Tab} (h : TabsS G A c H ts) (hl : TabsSm ts) {K : Value → GH → Prop}
    (hk : ∀ b : Bool, (b = true ↔ TabsOk ts) → K (.bool b) G) : GC Tryz.prog 119 [.slice A ts.length c] G K := by
  refine c_spec_l20List_i (by simp) ?_
  obtain ⟨hl1, hl2⟩ := hl
  have hsn := h.sn
  simp (maxSteps := 300000) (disch := omega) only [gs, gs2, gs3, gs4, ↓reduceIte, Nat.reduceEqDiff, Int.reduceToNat, Nat.reduceMul, Nat.reduceAdd, Nat.reduceBEq, isLd]
  refine gLoop_intro (fun m T G' => ∃ k : Nat, T 0 = .slice A ts.length c ∧ T 3 = .int .i64 k ∧ m + k = ts.length ∧ k ≤ ts.length ∧ G' = G ∧ ∀ i, i < k → TabOk (ts.getD i t0)) ts.length
    ⟨0, by simp (maxSteps := 300000) (disch := omega) only [gs, gs2, gs3, gs4, ↓reduceIte, Nat.reduceEqDiff, Int.reduceToNat, Nat.reduceMul, Nat.reduceAdd, Nat.reduceBEq, isLd], by simp (maxSteps := 300000) (disch := omega) only [gs, gs2, gs3, gs4, ↓reduceIte, Nat.reduceEqDiff, Int.reduceToNat, Nat.reduceMul, Nat.reduceAdd, Nat.reduceBEq, isLd] <;> rfl, by omega, by omega, rfl, fun i hi => by omega⟩ ?_
  rintro m T G' ⟨k, e0, e3, hm, hkl, rfl, hin⟩
  simp (maxSteps := 300000) (disch := omega) only [gs, gs2, gs3, gs4, ↓reduceIte, Nat.reduceEqDiff, Int.reduceToNat, Nat.reduceMul, Nat.reduceAdd, Nat.reduceBEq, isLd, e0, e3]
  by_cases hkk : (k : Int) < ts.length
  · simp (maxSteps := 300000) (disch := omega) only [gs, gs2, gs3, gs4, ↓reduceIte, Nat.reduceEqDiff, Int.reduceToNat, Nat.reduceMul, Nat.reduceAdd, Nat.reduceBEq, isLd, e0, e3, hkk]
    have := hl2 k (by omega)
    refine spec_l20Ok_ok (q := pa A (k * 2)) (N := ts.getD k t0) ⟨h.r0 k (by omega), by rw [pa_pa]; exact h.r1 k (by omega), h.cols k (by omega), h.rows k (by omega)⟩ (by have := this.1; omega) this.2.sh fun b hb => ?_
    cases b
    · simp (maxSteps := 300000) (disch := omega) only [gs, gs2, gs3, gs4, ↓reduceIte, Nat.reduceEqDiff, Int.reduceToNat, Nat.reduceMul, Nat.reduceAdd, Nat.reduceBEq, isLd, e0, e3]
      exact hk false (by simp; intro hx; simpa using hb.2 (hx.2 k (by omega)))
    · simp (maxSteps := 300000) (disch := omega) only [gs, gs2, gs3, gs4, ↓reduceIte, Nat.reduceEqDiff, Int.reduceToNat, Nat.reduceMul, Nat.reduceAdd, Nat.reduceBEq, isLd, e0, e3]
      refine ⟨m - 1, by omega, _, Sub.refl _, k + 1, rfl, by omega, by omega, rfl, fun i hi => ?_⟩
      by_cases hik : i = k
      · subst hik; exact hb.1 rfl
      · exact hin i (by omega)
  · simp (maxSteps := 300000) (disch := omega) only [gs, gs2, gs3, gs4, ↓reduceIte, Nat.reduceEqDiff, Int.reduceToNat, Nat.reduceMul, Nat.reduceAdd, Nat.reduceBEq, isLd, e0, e3, hkk]
    refine hk _ ?_
    rw [decide_eq_true_eq]
    exact ⟨fun hx => ⟨by omega, fun i hi => hin i (by omega)⟩, fun hx => by have := hx.1; omega⟩
theorem spec_ValidTables_ok {G : GH} {A : Option Addr} {c : Nat} {H : Nat → TH} {ts : List Tab} (h : TabsS G A c H ts) (hl : TabsSm ts) {K : Value → GH → Prop}
    (hk : ∀ b : Bool, (b = true ↔ TabsOk ts) → K (.bool b) G) : GC Tryz.prog 52 [.slice A ts.length c] G K := by
  refine c_spec_ValidTables_i (by simp) ?_
  simp (maxSteps := 300000) (disch := omega) only [gs, gs2, gs3, gs4, ↓reduceIte, Nat.reduceEqDiff, Int.reduceToNat, Nat.reduceMul, Nat.reduceAdd, Nat.reduceBEq, isLd]
  refine spec_l20List_ok h hl fun b hb => ?_
  simp (maxSteps := 300000) (disch := omega) only [gs, gs2, gs3, gs4, ↓reduceIte, Nat.reduceEqDiff, Int.reduceToNat, Nat.reduceMul, Nat.reduceAdd, Nat.reduceBEq, isLd]
  exact hk b hb
theorem impl_ValidTables_ok {G : GH} {A : Option Addr} {c : Nat} {H : Nat → TH} {ts : List Tab} (h : TabsS G A c H ts) (hl : TabsSm ts) {K : Value → GH → Prop}
    (hk : ∀ b : Bool, (b = true ↔ TabsOk ts) → K (.bool b) G) : GC Tryz.prog 116 [.slice A ts.length c] G K := by
  refine c_impl_ValidTables_i (by simp) ?_
  obtain ⟨hl1, hl2⟩ := hl
  have hsn := h.sn
  have r0 := h.r0
  have r1 := h.r1
  simp (maxSteps := 300000) (disch := omega) only [gs, gs2, gs3, gs4, ↓reduceIte, Nat.reduceEqDiff, Int.reduceToNat, Nat.reduceMul, Nat.reduceAdd, Nat.reduceBEq, isLd]
  by_cases h6 : (ts.length : Int) ≤ 6
  · simp (maxSteps := 300000) (disch := omega) only [gs, gs2, gs3, gs4, ↓reduceIte, Nat.reduceEqDiff, Int.reduceToNat, Nat.reduceMul, Nat.reduceAdd, Nat.reduceBEq, isLd, h6]
    refine c_slices_ContainsFunc_impl_Table_impl_Table_i (by simp) ?_
    simp (maxSteps := 300000) (disch := omega) only [gs, gs2, gs3, gs4, ↓reduceIte, Nat.reduceEqDiff, Int.reduceToNat, Nat.reduceMul, Nat.reduceAdd, Nat.reduceBEq, isLd]
    refine c_slices_IndexFunc_impl_Table_impl_Table_i (by simp) ?_
    simp (maxSteps := 300000) (disch := omega) only [gs, gs2, gs3, gs4, ↓reduceIte, Nat.reduceEqDiff, Int.reduceToNat, Nat.reduceMul, Nat.reduceAdd, Nat.reduceBEq, isLd]
    refine gLoop_intro (fun m T G' => ∃ k : Nat, T 0 = .slice A ts.length c ∧ T 1 = .func (.func 196) #[] #[] ∧ T 7 = .int .i64 ts.length ∧ T 8 = .int .i64 k ∧ m + k = ts.length ∧ k ≤ ts.length ∧ G' = G ∧ ∀ i, i < k → TabOk (ts.getD i t0)) ts.length
      ⟨0, by simp (maxSteps := 300000) (disch := omega) only [gs, gs2, gs3, gs4, ↓reduceIte, Nat.reduceEqDiff, Int.reduceToNat, Nat.reduceMul, Nat.reduceAdd, Nat.reduceBEq, isLd], by simp (maxSteps := 300000) (disch := omega) only [gs, gs2, gs3, gs4, ↓reduceIte, Nat.reduceEqDiff, Int.reduceToNat, Nat.reduceMul, Nat.reduceAdd, Nat.reduceBEq, isLd], by simp (maxSteps := 300000) (disch := omega) only [gs, gs2, gs3, gs4, ↓reduceIte, Nat.reduceEqDiff, Int.reduceToNat, Nat.reduceMul, Nat.reduceAdd, Nat.reduceBEq, isLd], by simp (maxSteps := 300000) (disch := omega) only [gs, gs2, gs3, gs4, ↓reduceIte, Nat.reduceEqDiff, Int.reduceToNat, Nat.reduceMul, Nat.reduceAdd, Nat.reduceBEq, isLd] <;> rfl, by omega, by omega, rfl, fun i hi => by omega⟩ ?_
    rintro m T G' ⟨k, e0, e1, e7, e8, hm, hkl, rfl, hin⟩
    simp (maxSteps := 300000) (disch := omega) only [gs, gs2, gs3, gs4, ↓reduceIte, Nat.reduceEqDiff, Int.reduceToNat, Nat.reduceMul, Nat.reduceAdd, Nat.reduceBEq, isLd, e0, e1, e7, e8]
    by_cases hkk : (k : Int) < ts.length
    · simp (maxSteps := 300000) (disch := omega) only [gs, gs2, gs3, gs4, ↓reduceIte, Nat.reduceEqDiff, Int.reduceToNat, Nat.reduceMul, Nat.reduceAdd, Nat.reduceBEq, isLd, e0, e1, e7, e8, hkk, r0, r1]
      have := hl2 k (by omega)
      refine GC_drop (c_impl_ValidTables_fn1_i (by simp) ?_)
      simp (maxSteps := 300000) (disch := omega) only [gs, gs2, gs3, gs4, ↓reduceIte, Nat.reduceEqDiff, Int.reduceToNat, Nat.reduceMul, Nat.reduceAdd, Nat.reduceBEq, isLd]
      intro b1 hb1
      have s1 := Sub.put hb1 ⟨tabC (ts.getD k t0) (H k).A (H k).c (H k).B (H k).d, true⟩
      unfold tabC at s1
      simp (maxSteps := 300000) (disch := omega) only [gs, gs2, gs3, gs4, ↓reduceIte, Nat.reduceEqDiff, Int.reduceToNat, Nat.reduceMul, Nat.reduceAdd, Nat.reduceBEq, isLd]
      refine impl_ValidTable_ok (N := ts.getD k t0) ((h.cols k (by omega)).sub s1) ((h.rows k (by omega)).sub s1) (by have := this.1; omega) this.2.sh fun b hb => ?_
      simp (maxSteps := 300000) (disch := omega) only [gs, gs2, gs3, gs4, ↓reduceIte, Nat.reduceEqDiff, Int.reduceToNat, Nat.reduceMul, Nat.reduceAdd, Nat.reduceBEq, isLd]
      refine ⟨G', s1, ?_⟩
      cases b
      · simp (maxSteps := 300000) (disch := omega) only [gs, gs2, gs3, gs4, ↓reduceIte, Nat.reduceEqDiff, Int.reduceToNat, Nat.reduceMul, Nat.reduceAdd, Nat.reduceBEq, isLd, e0, e1, e7, e8, show (0 : Int) ≤ (k : Int) by omega]
        exact hk false (by simp; intro hx; simpa using hb.2 (hx.2 k (by omega)))
      · simp (maxSteps := 300000) (disch := omega) only [gs, gs2, gs3, gs4, ↓reduceIte, Nat.reduceEqDiff, Int.reduceToNat, Nat.reduceMul, Nat.reduceAdd, Nat.reduceBEq, isLd, e0, e1, e7, e8]
        refine ⟨m - 1, by omega, _, Sub.refl _, k + 1, rfl, by omega, by omega, rfl, fun i hi => ?_⟩
        by_cases hik : i = k
        · subst hik; exact hb.1 rfl
        · exact hin i (by omega)
    · simp (maxSteps := 300000) (disch := omega) only [gs, gs2, gs3, gs4, ↓reduceIte, Nat.reduceEqDiff, Int.reduceToNat, Nat.reduceMul, Nat.reduceAdd, Nat.reduceBEq, isLd, e0, e1, e7, e8, hkk]
      rw [show decide ((0 : Int) ≤ -1) = false by decide]
      simp (maxSteps := 300000) (disch := omega) only [gs, gs2, gs3, gs4, ↓reduceIte, Nat.reduceEqDiff, Int.reduceToNat, Nat.reduceMul, Nat.reduceAdd, Nat.reduceBEq, isLd]
      exact hk true (by simp; exact ⟨by omega, fun i hi => hin i (by omega)⟩)
  · simp (maxSteps := 300000) (disch := omega) only [gs, gs2, gs3, gs4, ↓reduceIte, Nat.reduceEqDiff, Int.reduceToNat, Nat.reduceMul, Nat.reduceAdd, Nat.reduceBEq, isLd, h6]
    exact hk false (by simp; intro hx; have := hx.1; omega)
theorem sl_rest {b n i c : Nat} (hi : i < n) (hn : n ≤ c) : slV 1 (.slice (some ⟨b, 0, none⟩) n c) (some (.int .i64 (i : Int))) none = some (.slice (some ⟨b, i, none⟩) (n - i) (c - i)) := by
  simp only [slV, onSl, bndV, onInt, Option.bind_some]
  rw [if_pos ⟨by omega, by omega⟩]
  simp only [Option.bind_some, Int.toNat_natCast]
  rw [if_pos (by omega), if_neg (by omega)]
  simp [pa_mk]
theorem sl_init {A : Option Addr} {n i c : Nat} (hi : i ≤ n) (hn : n ≤ c) : slV 1 (.slice A n c) none (some (.int .i64 (i : Int))) = some (.slice A i c) := by
  simp only [slV, onSl, bndV, onInt]
  rw [if_pos ⟨by omega, by omega⟩, Int.toNat_natCast]
  simp [pa_zero]
theorem slices_DeleteFunc_ok {H G : GH} {A : Option Addr} {c : Nat} {f : Value} {xs : List Int} (p : Int → Bool) (hO : Own G A c (xs.map I64) 1 xs.length) (hs : Sub H G) (ho : Off H A) (hl : xs.length < 2 ^ 30)
    (hf : ∀ G', Sub H G' → ∀ (v : Int) (K : Value → GH → Prop), K (.bool (p v)) G' → gCl Tryz.prog f [.int .i64 v] G' K) {K : Value → GH → Prop}
    (hk : ∀ G', Sub H G' → Own G' A c ((xs.filter fun v => !(p v)).map I64) 1 (xs.filter fun v => !(p v)).length → K (.slice A (xs.filter fun v => !(p v)).length c) G') : GC Tryz.prog 173 [.slice A xs.length c, f] G K := by
  refine c_slices_DeleteFunc_int64_int64_i (by simp) ?_
  simp (maxSteps := 300000) (disch := omega) only [gs, gs2, gs3, gs4, ↓reduceIte, Nat.reduceEqDiff, Int.reduceToNat, Nat.reduceMul, Nat.reduceAdd, Nat.reduceBEq, isLd]
  refine slices_IndexFunc_ok p hO.ints (by omega) (fun i hi K' hk' => hf G hs _ K' hk') ?_
  simp (maxSteps := 300000) (disch := omega) only [gs, gs2, gs3, gs4, ↓reduceIte, Nat.reduceEqDiff, Int.reduceToNat, Nat.reduceMul, Nat.reduceAdd, Nat.reduceBEq, isLd]
  unfold idxI
  cases hi0 : xs.findIdx? p with
  | none =>
    rw [List.findIdx?_eq_none_iff] at hi0
    have hfl : (xs.filter fun v => !(p v)) = xs := List.filter_eq_self.2 fun v hv => by rw [hi0 v hv]; rfl
    rw [hfl] at hk
    simp (maxSteps := 300000) (disch := omega) only [gs, gs2, gs3, gs4, ↓reduceIte, Nat.reduceEqDiff, Int.reduceToNat, Nat.reduceMul, Nat.reduceAdd, Nat.reduceBEq, isLd, eq_true (show (-1 : Int) = -1 from rfl)]
    exact hk G hs hO
  | some i0 =>
    obtain ⟨h0, hp0, hb0⟩ := List.findIdx?_eq_some_iff_getElem.1 hi0
    have hne : ((i0 : Int) = -1) = False := eq_false (by omega)
    rcases hO with ⟨_, _, hz, _⟩ | ⟨b, r, rfl, hb, hlen, hc, hnc⟩
    · omega
    have hHb : H b = none := ho _ rfl
    simp (maxSteps := 300000) (disch := omega) only [gs, gs2, gs3, gs4, ↓reduceIte, Nat.reduceEqDiff, Int.reduceToNat, Nat.reduceMul, Nat.reduceAdd, Nat.reduceBEq, isLd, hne]
    have hk0 : ((xs.take (i0 + 1)).filter fun v => !(p v)) = xs.take i0 := by
      rw [List.take_succ_eq_append_getElem h0, List.filter_append, List.filter_eq_self.2 fun v hv => ?_]
      · simp [hp0]
      · obtain ⟨j, hj, rfl⟩ := List.mem_iff_getElem.1 hv
        rw [List.length_take] at hj
        rw [List.getElem_take]
        have := hb0 j (by omega)
        simp at this; rw [this]; rfl
    refine gLoop_intro (fun m T G' => ∃ (j : Nat) (m1 : List Value), T 0 = .slice (some ⟨b, 0, none⟩) xs.length c ∧ T 1 = f ∧ T 5 = .int .i64 ((xs.take j).filter fun v => !(p v)).length ∧ T 6 = .int .i64 j ∧ m + j = xs.length ∧ j ≤ xs.length ∧ 0 < m1.length ∧
        ((xs.take j).filter fun v => !(p v)).length + m1.length = j ∧ Sub H G' ∧ G' b = some ⟨((xs.take j).filter fun v => !(p v)).map I64 ++ (m1 ++ ((xs.drop j).map I64 ++ r)), true⟩) (xs.length - (i0 + 1))
      ⟨i0 + 1, [I64 (xs[i0])], by simp (maxSteps := 300000) (disch := omega) only [gs, gs2, gs3, gs4, ↓reduceIte, Nat.reduceEqDiff, Int.reduceToNat, Nat.reduceMul, Nat.reduceAdd, Nat.reduceBEq, isLd], by simp (maxSteps := 300000) (disch := omega) only [gs, gs2, gs3, gs4, ↓reduceIte, Nat.reduceEqDiff, Int.reduceToNat, Nat.reduceMul, Nat.reduceAdd, Nat.reduceBEq, isLd], by rw [hk0, List.length_take, Nat.min_eq_left (by omega)]; simp (maxSteps := 300000) (disch := omega) only [gs, gs2, gs3, gs4, ↓reduceIte, Nat.reduceEqDiff, Int.reduceToNat, Nat.reduceMul, Nat.reduceAdd, Nat.reduceBEq, isLd], by simp (maxSteps := 300000) (disch := omega) only [gs, gs2, gs3, gs4, ↓reduceIte, Nat.reduceEqDiff, Int.reduceToNat, Nat.reduceMul, Nat.reduceAdd, Nat.reduceBEq, isLd] <;> rfl, by omega, by omega, by simp, by rw [hk0, List.length_take, Nat.min_eq_left (by omega)]; rfl, hs, by
        rw [hk0, hb]
        have e1 : xs.take i0 ++ (xs[i0] :: xs.drop (i0 + 1)) = xs := by rw [← List.drop_eq_getElem_cons h0, List.take_append_drop]
        have e2 : (xs.take i0).map I64 ++ ([I64 xs[i0]] ++ ((xs.drop (i0 + 1)).map I64 ++ r)) = xs.map I64 ++ r := by
          rw [← congrArg (List.map I64) e1]
          simp only [List.map_append, List.map_cons, List.append_assoc, List.cons_append, List.nil_append]
        rw [e2]⟩ ?_
    rintro m T G' ⟨j, m1, e0, e1, e5, e6, hm, hj, hm1, hmj, hS, hB⟩
    simp (maxSteps := 300000) (disch := omega) only [gs, gs2, gs3, gs4, ↓reduceIte, Nat.reduceEqDiff, Int.reduceToNat, Nat.reduceMul, Nat.reduceAdd, Nat.reduceBEq, isLd, e0, e1, e5, e6]
    by_cases hjj : (j : Int) < xs.length
    · have hd : xs.drop j = xs.getD j 0 :: xs.drop (j + 1) := drop_cons (by omega)
      have ht : xs.take (j + 1) = xs.take j ++ [xs.getD j 0] := by
        rw [List.take_succ_eq_append_getElem (by omega)]; simp [List.getD, show j < xs.length by omega]
      have hr : rd G' (some ⟨b, j, none⟩) = some (.int .i64 (xs.getD j 0)) := by
        simp only [rd, hB, Option.bind_some]
        rw [List.getElem?_append_right (by rw [List.length_map]; omega), List.length_map, List.getElem?_append_right (by omega), hd]
        rw [show j - ((xs.take j).filter fun v => !(p v)).length - m1.length = 0 by omega]
        rfl
      simp (maxSteps := 300000) (disch := omega) only [gs, gs2, gs3, gs4, ↓reduceIte, Nat.reduceEqDiff, Int.reduceToNat, Nat.reduceMul, Nat.reduceAdd, Nat.reduceBEq, isLd, e0, e1, e5, e6, hjj, hr]
      refine hf G' hS _ _ ?_
      cases hp : p (xs.getD j 0)
      · simp (maxSteps := 300000) (disch := omega) only [gs, gs2, gs3, gs4, ↓reduceIte, Nat.reduceEqDiff, Int.reduceToNat, Nat.reduceMul, Nat.reduceAdd, Nat.reduceBEq, isLd, e0, e1, e5, e6]
        have hkl : ((((xs.take j).filter fun v => !(p v)).length : Nat) : Int) < xs.length := by omega
        refine st_one hB (by simp; omega) rfl ?_
        simp (maxSteps := 300000) (disch := omega) only [gs, gs2, gs3, gs4, ↓reduceIte, Nat.reduceEqDiff, Int.reduceToNat, Nat.reduceMul, Nat.reduceAdd, Nat.reduceBEq, isLd, e0, e1, e5, e6]
        have hf2 : ((xs.take (j + 1)).filter fun v => !(p v)) = ((xs.take j).filter fun v => !(p v)) ++ [xs.getD j 0] := by rw [ht, List.filter_append, List.filter_cons_of_pos (by rw [hp]; rfl), List.filter_nil]
        obtain ⟨y, m2, rfl⟩ : ∃ y m2, m1 = y :: m2 := by
          cases m1 with
          | nil => simp at hm1
          | cons y m2 => exact ⟨y, m2, rfl⟩
        rw [List.length_cons] at hmj
        refine ⟨m - 1, by omega, _, Sub.refl _, j + 1, m2 ++ [I64 (xs.getD j 0)], by rw [hf2, List.length_append]; rfl, rfl, by omega, by omega, by simp, by rw [hf2, List.length_append, List.length_append]; simp; omega, hS.skip hHb, ?_⟩
        rw [put_same, hf2]
        congr 2
        rw [List.set_append_right _ _ (by rw [List.length_map]; exact Nat.le_refl _), List.length_map, Nat.sub_self, List.cons_append, List.set_cons_zero, hd]
        simp [I64]
      · simp (maxSteps := 300000) (disch := omega) only [gs, gs2, gs3, gs4, ↓reduceIte, Nat.reduceEqDiff, Int.reduceToNat, Nat.reduceMul, Nat.reduceAdd, Nat.reduceBEq, isLd, e0, e1, e5, e6]
        have hf2 : ((xs.take (j + 1)).filter fun v => !(p v)) = ((xs.take j).filter fun v => !(p v)) := by rw [ht, List.filter_append, List.filter_cons_of_neg (by rw [hp]; simp), List.filter_nil, List.append_nil]
        refine ⟨m - 1, by omega, G', Sub.refl _, j + 1, m1 ++ [I64 (xs.getD j 0)], by rw [hf2], rfl, by omega, by omega, by simp, by rw [hf2, List.length_append]; simp; omega, hS, ?_⟩
        rw [hB, hf2, hd]
        simp
    · obtain rfl : j = xs.length := by omega
      rw [List.take_length] at e5 hmj hB
      rw [List.drop_length, List.map_nil, List.nil_append] at hB
      have hkl : ((xs.filter fun v => !(p v)).length) < xs.length := by omega
      simp (maxSteps := 300000) (disch := omega) only [gs, gs2, gs3, gs4, ↓reduceIte, Nat.reduceEqDiff, Int.reduceToNat, Nat.reduceMul, Nat.reduceAdd, Nat.reduceBEq, isLd, e0, e1, e5, e6, hjj, sl_rest hkl hnc, Option.map_none]
      have ho' := over_app (zc [Value.int IntKind.i64 0] (xs.length - (xs.filter fun v => !(p v)).length)) ((xs.filter fun v => !(p v)).map I64) (m1 ++ r)
      have hzl : (zc [Value.int IntKind.i64 0] (xs.length - (xs.filter fun v => !(p v)).length)).length = xs.length - (xs.filter fun v => !(p v)).length := by rw [zc_one, List.length_replicate]
      rw [hzl, if_pos (by rw [List.length_append]; omega), List.length_map, show (m1 ++ r).drop (xs.length - (xs.filter fun v => !(p v)).length) = r by rw [← show m1.length = xs.length - (xs.filter fun v => !(p v)).length by omega]; simp] at ho'
      have hcl : xs.length + r.length = c := by rw [List.length_append, List.length_map] at hc; omega
      refine ⟨_, _, _, rfl, .inr ⟨b, _, _, rfl, hB, by simp; omega, fun v hv => by rw [zc_one] at hv; rw [List.eq_of_mem_replicate hv]; rfl, ?_⟩⟩
      rw [ho']
      simp (maxSteps := 300000) (disch := omega) only [gs, gs2, gs3, gs4, ↓reduceIte, Nat.reduceEqDiff, Int.reduceToNat, Nat.reduceMul, Nat.reduceAdd, Nat.reduceBEq, isLd, e0, e1, e5, e6, Option.map_none, sl_init (A := some ⟨b, 0, none⟩) (Nat.le_of_lt hkl) hnc]
      refine hk _ (hS.skip hHb) (.inr ⟨b, zc [Value.int IntKind.i64 0] (xs.length - (xs.filter fun v => !(p v)).length) ++ r, rfl, ?_, by simp, ?_, by omega⟩)
      · rw [put_same, List.append_assoc]
      · rw [List.length_append, List.length_append, List.length_map, hzl]; omega
theorem impl_without_fn1_ok {G : GH} {q A : Option Addr} {c : Nat} {xs : List Int} {v : Int} (hq : rd G q = some (.slice A xs.length c)) (h : IntS G A c xs) (hl : xs.length < 2 ^ 40) {K : Value → GH → Prop} (hk : K (.bool (decide (v ∈ xs))) G) :
    GC Tryz.prog 174 [.int .i64 v, .pointer q] G K := by
  refine c_impl_without_fn1_i (by simp) ?_
  simp (maxSteps := 300000) (disch := omega) only [gs, gs2, gs3, gs4, ↓reduceIte, Nat.reduceEqDiff, Int.reduceToNat, Nat.reduceMul, Nat.reduceAdd, Nat.reduceBEq, isLd, hq]
  refine slices_Contains_ok h hl fun b hb => ?_
  have : b = decide (v ∈ xs) := Bool.eq_iff_iff.2 (by rw [hb, decide_eq_true_eq])
  subst this
  simp (maxSteps := 300000) (disch := omega) only [gs, gs2, gs3, gs4, ↓reduceIte, Nat.reduceEqDiff, Int.reduceToNat, Nat.reduceMul, Nat.reduceAdd, Nat.reduceBEq, isLd]
  exact hk
theorem impl_without_ok {G : GH} {A B : Option Addr} {c d : Nat} {xs ys : List Int} (h : IntS G A c xs) (h' : IntS G B d ys) (hl : xs.length < 2 ^ 30) (hl' : ys.length < 2 ^ 30) {K : Value → GH → Prop}
    (hk : ∀ G' A' c', New G G' A' c' ((wo' xs ys).map I64) 1 (wo' xs ys).length → K (.slice A' (wo' xs ys).length c') G') : GC Tryz.prog 97 [.slice A xs.length c, .slice B ys.length d] G K := by
  refine GC_drop (c_impl_without_i (by simp) ?_)
  simp (maxSteps := 300000) (disch := omega) only [gs, gs2, gs3, gs4, ↓reduceIte, Nat.reduceEqDiff, Int.reduceToNat, Nat.reduceMul, Nat.reduceAdd, Nat.reduceBEq, isLd]
  intro b3 hb3
  have s3 := Sub.put hb3 ⟨[.slice B ys.length d], true⟩
  have f3 : rd (put G b3 ⟨[.slice B ys.length d], true⟩) (some ⟨b3, 0, none⟩) = some (.slice B ys.length d) := rd_box _ _ _ 0 _ rfl
  revert s3 f3
  generalize put G b3 ⟨[.slice B ys.length d], true⟩ = G1
  intro s3 f3
  simp (maxSteps := 300000) (disch := omega) only [gs, gs2, gs3, gs4, ↓reduceIte, Nat.reduceEqDiff, Int.reduceToNat, Nat.reduceMul, Nat.reduceAdd, Nat.reduceBEq, isLd]
  refine slices_Clone_ok (h.sub s3) hl fun G2 A2 c2 hN => ?_
  simp (maxSteps := 300000) (disch := omega) only [gs, gs2, gs3, gs4, ↓reduceIte, Nat.reduceEqDiff, Int.reduceToNat, Nat.reduceMul, Nat.reduceAdd, Nat.reduceBEq, isLd]
  refine slices_DeleteFunc_ok (H := G1) (fun v => decide (v ∈ ys)) hN.fresh hN.sub hN.off hl (fun G' s v K' hk' => ?_) fun G' hS hW => ?_
  · simp (maxSteps := 300000) (disch := omega) only [gs, gs2, gs3, gs4, ↓reduceIte, Nat.reduceEqDiff, Int.reduceToNat, Nat.reduceMul, Nat.reduceAdd, Nat.reduceBEq, isLd]
    exact impl_without_fn1_ok (rd_sub s f3) ((h'.sub s3).sub s) (by omega) hk'
  · have e : (xs.filter fun v => !(decide (v ∈ ys))) = wo' xs ys := by
      unfold wo'
      refine List.filter_congr fun v _ => ?_
      by_cases hv : v ∈ ys <;> simp [hv]
    rw [e] at hW ⊢
    simp (maxSteps := 300000) (disch := omega) only [gs, gs2, gs3, gs4, ↓reduceIte, Nat.reduceEqDiff, Int.reduceToNat, Nat.reduceMul, Nat.reduceAdd, Nat.reduceBEq, isLd]
    obtain ⟨G'', s'', hN2⟩ := hW.new (s3.trans hS) (hN.off.mono s3)
    exact ⟨G'', s'', hk _ _ _ hN2⟩
theorem wo_len (xs ys : List Int) : (wo' xs ys).length ≤ xs.length := List.length_filter_le _ _
theorem comm_len (xs ys : List Int) : (comm xs ys).length ≤ xs.length := List.length_filter_le _ _
theorem impl_commonColumns_ok {G : GH} {a b : Tab} {A B A' B' : Option Addr} {c d c' d' : Nat} (h : IntS G A c a.cols) (h' : IntS G A' c' b.cols) (hl : a.cols.length < 2 ^ 30) (hl' : b.cols.length < 2 ^ 30) {K : Value → GH → Prop}
    (hk : ∀ G' D e, New G G' D e ((comm a.cols b.cols).map I64) 1 (comm a.cols b.cols).length → K (.slice D (comm a.cols b.cols).length e) G') : GC Tryz.prog 184 [tabV a A c B d, tabV b A' c' B' d'] G K := by
  refine GC_drop (c_impl_commonColumns_i (by simp) ?_)
  unfold tabV tabC
  simp (maxSteps := 300000) (disch := omega) only [gs, gs2, gs3, gs4, ↓reduceIte, Nat.reduceEqDiff, Int.reduceToNat, Nat.reduceMul, Nat.reduceAdd, Nat.reduceBEq, isLd]
  intro b2 hb2
  simp (maxSteps := 300000) (disch := omega) only [gs, gs2, gs3, gs4, ↓reduceIte, Nat.reduceEqDiff, Int.reduceToNat, Nat.reduceMul, Nat.reduceAdd, Nat.reduceBEq, isLd]
  intro b3 hb3
  simp only [put_none] at hb3
  obtain ⟨n23, hb3'⟩ := hb3
  have s2 := Sub.put hb2 ⟨[.slice A a.cols.length c, .slice B a.rows.length d], true⟩
  have s3 := Sub.put (show put G b2 ⟨[.slice A a.cols.length c, .slice B a.rows.length d], true⟩ b3 = none from by rw [put_ne _ _ (by omega)]; exact hb3') ⟨[.slice A' b.cols.length c', .slice B' b.rows.length d'], true⟩
  have f2 := rd_sub s3 (show rd (put G b2 ⟨[.slice A a.cols.length c, .slice B a.rows.length d], true⟩) (some ⟨b2, 0, none⟩) = some (.slice A a.cols.length c) from rd_box _ _ _ 0 _ rfl)
  have f3 : rd (put (put G b2 ⟨[.slice A a.cols.length c, .slice B a.rows.length d], true⟩) b3 ⟨[.slice A' b.cols.length c', .slice B' b.rows.length d'], true⟩) (some ⟨b3, 0, none⟩) = some (.slice A' b.cols.length c') := rd_box _ _ _ 0 _ rfl
  have s1 := s2.trans s3
  revert s1 f2 f3
  generalize put (put G b2 ⟨[.slice A a.cols.length c, .slice B a.rows.length d], true⟩) b3 ⟨[.slice A' b.cols.length c', .slice B' b.rows.length d'], true⟩ = G1
  intro f2 f3 s1
  simp (maxSteps := 300000) (disch := omega) only [gs, gs2, gs3, gs4, ↓reduceIte, Nat.reduceEqDiff, Int.reduceToNat, Nat.reduceMul, Nat.reduceAdd, Nat.reduceBEq, isLd, f2, f3]
  refine impl_without_ok (h.sub s1) (h'.sub s1) hl hl' fun G2 D2 e2 hN => ?_
  have s2 := hN.sub
  simp (maxSteps := 300000) (disch := omega) only [gs, gs2, gs3, gs4, ↓reduceIte, Nat.reduceEqDiff, Int.reduceToNat, Nat.reduceMul, Nat.reduceAdd, Nat.reduceBEq, isLd, rd_sub s2 f2, rd_sub s2 f3]
  refine impl_without_ok ((h.sub s1).sub s2) hN.ints hl (by have := wo_len a.cols b.cols; omega) fun G3 D3 e3 hN3 => ?_
  have s3 := hN3.sub
  rw [wo_wo] at hN3 ⊢
  simp (maxSteps := 300000) (disch := omega) only [gs, gs2, gs3, gs4, ↓reduceIte, Nat.reduceEqDiff, Int.reduceToNat, Nat.reduceMul, Nat.reduceAdd, Nat.reduceBEq, isLd, rd_sub (s2.trans s3) f2, rd_sub (s2.trans s3) f3]
  obtain ⟨G4, s4, hN4⟩ := hN3.low (s1.trans s2)
  exact ⟨G4, s4, hk _ _ _ hN4⟩
def ddpE : List Int → List (Value × List Int) → List (Value × List Int)
  | _, [] => []
  | p, e :: es => if e.2 = p then ddpE e.2 es else e :: ddpE e.2 es
def ddE : List (Value × List Int) → List (Value × List Int)
  | [] => []
  | e :: es => e :: ddpE e.2 es
theorem ddpE_map : ∀ (p : List Int) (E : List (Value × List Int)), (ddpE p E).map (·.2) = ddp p (E.map (·.2))
  | _, [] => rfl
  | p, e :: es => by
    rw [ddpE, List.map_cons, ddp]
    split
    · next h => rw [h, ddpE_map]
    · rw [List.map_cons, ddpE_map]
theorem ddE_map (E : List (Value × List Int)) : (ddE E).map (·.2) = dd (E.map (·.2)) := by
  cases E with
  | nil => rfl
  | cons e es => rw [ddE, List.map_cons, List.map_cons, dd, ddpE_map]
theorem ddpE_mem : ∀ {p : List Int} {E : List (Value × List Int)} {e : Value × List Int}, e ∈ ddpE p E → e ∈ E
  | _, [], _, h => by cases h
  | p, e :: es, z, h => by
    rw [ddpE] at h
    split at h
    · exact List.mem_cons_of_mem _ (ddpE_mem h)
    · rcases List.mem_cons.1 h with q | q
      · rw [q]; simp
      · exact List.mem_cons_of_mem _ (ddpE_mem q)
theorem ddE_mem {E : List (Value × List Int)} {e : Value × List Int} (h : e ∈ ddE E) : e ∈ E := by
  cases E with
  | nil => cases h
  | cons x es =>
    rcases List.mem_cons.1 h with q | q
    · rw [q]; simp
    · exact List.mem_cons_of_mem _ (ddpE_mem q)
theorem ddpE_len : ∀ (p : List Int) (E : List (Value × List Int)), (ddpE p E).length ≤ E.length
  | _, [] => by simp [ddpE]
  | p, e :: es => by
    have := ddpE_len e.2 es
    rw [ddpE]; split <;> simp <;> omega
theorem ddE_len (E : List (Value × List Int)) : (ddE E).length ≤ E.length := by
  cases E with
  | nil => simp [ddE]
  | cons e es => have := ddpE_len e.2 es; simp [ddE]; omega
def lastR : List Int → List (Value × List Int) → List Int
  | p, [] => p
  | _, e :: es => lastR e.2 es
theorem lastR_snoc : ∀ (p : List Int) (E : List (Value × List Int)) (x : Value × List Int), lastR p (E ++ [x]) = x.2
  | _, [], _ => rfl
  | _, e :: es, x => by rw [List.cons_append, lastR, lastR_snoc]
theorem ddpE_snoc : ∀ (p : List Int) (E : List (Value × List Int)) (x : Value × List Int), ddpE p (E ++ [x]) = if x.2 = lastR p E then ddpE p E else ddpE p E ++ [x]
  | p, [], x => by
    by_cases h : x.2 = p <;> simp [ddpE, lastR, h]
  | p, e :: es, x => by
    rw [List.cons_append, ddpE, lastR, ddpE, ddpE_snoc]
    split
    · rfl
    · split <;> rfl
theorem ddE_snoc {E : List (Value × List Int)} {j : Nat} {e0 : Value × List Int} (h1 : 1 ≤ j) (hj : j < E.length) : ddE (E.take (j + 1)) = if (E.getD j e0).2 = (E.getD (j - 1) e0).2 then ddE (E.take j) else ddE (E.take j) ++ [E.getD j e0] := by
  cases E with
  | nil => simp at hj
  | cons e es =>
    obtain ⟨k, rfl⟩ : ∃ k, j = k + 1 := ⟨j - 1, by omega⟩
    have hk : k < es.length := by simpa using hj
    rw [List.take_succ_cons, List.take_succ_cons, ddE, ddE, List.take_succ_eq_append_getElem hk, ddpE_snoc]
    have e1 : (e :: es).getD (k + 1) e0 = es[k] := by simp [List.getD, hk]
    have e2 : lastR e.2 (es.take k) = ((e :: es).getD (k + 1 - 1) e0).2 := by
      cases k with
      | zero => simp [lastR]
      | succ m => rw [List.take_succ_eq_append_getElem (show m < es.length by omega), lastR_snoc]; simp [List.getD, show m < es.length by omega]
    rw [e1, e2]
    split
    · rfl
    · rfl
theorem dropE {E : List (Value × List Int)} {j : Nat} {e0 : Value × List Int} (hj : j < E.length) : E.drop j = E.getD j e0 :: E.drop (j + 1) := by
  rw [List.drop_eq_getElem_cons hj]; simp [List.getD, hj]
theorem CompactFunc_ok {H G : GH} {b c : Nat} {f : Value} {E : List (Value × List Int)} {r : List Value} (hb : G b = some ⟨E.map (·.1) ++ r, true⟩) (hs : Sub H G) (hHb : H b = none) (hl : E.length < 2 ^ 30) (hc : E.length + r.length = c) (h1 : ∀ e ∈ E, oneB e.1 = true)
    (hf : ∀ G', Sub H G' → ∀ e ∈ E, ∀ e' ∈ E, ∀ (K : Value → GH → Prop), K (.bool (decide (e.2 = e'.2))) G' → gCl Tryz.prog f [e.1, e'.1] G' K) {K : Value → GH → Prop}
    (hk : ∀ G' r', Sub H G' → G' b = some ⟨(ddE E).map (·.1) ++ r', true⟩ → (ddE E).length + r'.length = c → K (.slice (some ⟨b, 0, none⟩) (ddE E).length c) G') : GC Tryz.prog 187 [.slice (some ⟨b, 0, none⟩) E.length c, f] G K := by
  refine c_slices_CompactFunc_SS_int64_int64_i (by simp) ?_
  simp (maxSteps := 300000) (disch := omega) only [gs, gs2, gs3, gs4, ↓reduceIte, Nat.reduceEqDiff, Int.reduceToNat, Nat.reduceMul, Nat.reduceAdd, Nat.reduceBEq, isLd]
  by_cases h2 : (E.length : Int) < 2
  · simp (maxSteps := 300000) (disch := omega) only [gs, gs2, gs3, gs4, ↓reduceIte, Nat.reduceEqDiff, Int.reduceToNat, Nat.reduceMul, Nat.reduceAdd, Nat.reduceBEq, isLd, h2]
    have hd : ddE E = E := by
      rcases E with _ | ⟨e, _ | ⟨e', es⟩⟩
      · rfl
      · rfl
      · simp at h2; omega
    rw [hd] at hk
    exact hk G r hs hb hc
  · simp (maxSteps := 300000) (disch := omega) only [gs, gs2, gs3, gs4, ↓reduceIte, Nat.reduceEqDiff, Int.reduceToNat, Nat.reduceMul, Nat.reduceAdd, Nat.reduceBEq, isLd, h2]
    obtain ⟨e0, he0⟩ : ∃ e0, e0 = E[0] := ⟨_, rfl⟩
    have hmem : ∀ i, i < E.length → E.getD i e0 ∈ E := fun i hi => by simp [List.getD, hi]
    refine gLoop_intro (fun m T G' => ∃ j : Nat, T 0 = .slice (some ⟨b, 0, none⟩) E.length c ∧ T 1 = f ∧ T 5 = .int .i64 j ∧ m + j = E.length ∧ 1 ≤ j ∧ j ≤ E.length ∧ G' = G ∧ ddE (E.take j) = E.take j) (E.length - 1)
      ⟨1, by simp (maxSteps := 300000) (disch := omega) only [gs, gs2, gs3, gs4, ↓reduceIte, Nat.reduceEqDiff, Int.reduceToNat, Nat.reduceMul, Nat.reduceAdd, Nat.reduceBEq, isLd], by simp (maxSteps := 300000) (disch := omega) only [gs, gs2, gs3, gs4, ↓reduceIte, Nat.reduceEqDiff, Int.reduceToNat, Nat.reduceMul, Nat.reduceAdd, Nat.reduceBEq, isLd], by simp (maxSteps := 300000) (disch := omega) only [gs, gs2, gs3, gs4, ↓reduceIte, Nat.reduceEqDiff, Int.reduceToNat, Nat.reduceMul, Nat.reduceAdd, Nat.reduceBEq, isLd] <;> rfl, by omega, by omega, by omega, rfl, by
        cases E with
        | nil => simp at h2
        | cons e es => simp [ddE, ddpE]⟩ ?_
    rintro m T G' ⟨j, t0, t1, t5, hm, hj1, hj, rfl, hinv⟩
    simp (maxSteps := 300000) (disch := omega) only [gs, gs2, gs3, gs4, ↓reduceIte, Nat.reduceEqDiff, Int.reduceToNat, Nat.reduceMul, Nat.reduceAdd, Nat.reduceBEq, isLd, t0, t1, t5]
    by_cases hjj : (j : Int) < E.length
    · have hr : ∀ i, i < E.length → rd G' (some ⟨b, i, none⟩) = some (E.getD i e0).1 := fun i hi => by
        simp only [rd, hb, Option.bind_some]
        rw [List.getElem?_append_left (by simpa using hi)]
        simp [List.getD, hi]
      have w1 : IntKind.i64.wrap ((j : Int) - 1) = ((j - 1 : Nat) : Int) := by rw [w64 (n := (j : Int) - 1) (by omega) (by omega)]; omega
      simp (maxSteps := 300000) (disch := omega) only [gs, gs2, gs3, gs4, ↓reduceIte, Nat.reduceEqDiff, Int.reduceToNat, Nat.reduceMul, Nat.reduceAdd, Nat.reduceBEq, isLd, t0, t1, t5, hjj, w1, hr j (by omega), hr (j - 1) (by omega)]
      refine hf _ hs _ (hmem j (by omega)) _ (hmem (j - 1) (by omega)) _ ?_
      by_cases hq : (E.getD j e0).2 = (E.getD (j - 1) e0).2
      · have hkk0 : ddE (E.take (j + 1)) = E.take j := by rw [ddE_snoc (e0 := e0) hj1 (by omega), if_pos hq, hinv]
        have hlk0 : (E.take j).length = j := by rw [List.length_take, Nat.min_eq_left (by omega)]
        simp (maxSteps := 300000) (disch := omega) only [gs, gs2, gs3, gs4, ↓reduceIte, Nat.reduceEqDiff, Int.reduceToNat, Nat.reduceMul, Nat.reduceAdd, Nat.reduceBEq, isLd, t0, t1, t5, hjj, hq, sl_rest (show j < E.length by omega) (show E.length ≤ c by omega), Option.map_some, Option.map_none]
        refine gLoop_intro (fun m T G' => ∃ (q : Nat) (m0 : List Value), T 0 = .slice (some ⟨b, 0, none⟩) E.length c ∧ T 1 = f ∧ T 5 = .int .i64 (ddE (E.take (j + q))).length ∧ T 6 = .slice (some ⟨b, j, none⟩) (E.length - j) (c - j) ∧ T 7 = .int .i64 q ∧ m + (j + q) = E.length ∧ 1 ≤ q ∧ j + q ≤ E.length ∧
            (ddE (E.take (j + q))).length + m0.length + 1 = j + q ∧ Sub H G' ∧ G' b = some ⟨(ddE (E.take (j + q))).map (·.1) ++ (m0 ++ ((E.getD (j + q - 1) e0).1 :: ((E.drop (j + q)).map (·.1) ++ r))), true⟩) (E.length - (j + 1))
          ⟨1, [], by simp (maxSteps := 300000) (disch := omega) only [gs, gs2, gs3, gs4, ↓reduceIte, Nat.reduceEqDiff, Int.reduceToNat, Nat.reduceMul, Nat.reduceAdd, Nat.reduceBEq, isLd, t0], by simp (maxSteps := 300000) (disch := omega) only [gs, gs2, gs3, gs4, ↓reduceIte, Nat.reduceEqDiff, Int.reduceToNat, Nat.reduceMul, Nat.reduceAdd, Nat.reduceBEq, isLd, t1], by rw [hkk0, hlk0]; simp (maxSteps := 300000) (disch := omega) only [gs, gs2, gs3, gs4, ↓reduceIte, Nat.reduceEqDiff, Int.reduceToNat, Nat.reduceMul, Nat.reduceAdd, Nat.reduceBEq, isLd, t5], by simp (maxSteps := 300000) (disch := omega) only [gs, gs2, gs3, gs4, ↓reduceIte, Nat.reduceEqDiff, Int.reduceToNat, Nat.reduceMul, Nat.reduceAdd, Nat.reduceBEq, isLd], by simp (maxSteps := 300000) (disch := omega) only [gs, gs2, gs3, gs4, ↓reduceIte, Nat.reduceEqDiff, Int.reduceToNat, Nat.reduceMul, Nat.reduceAdd, Nat.reduceBEq, isLd] <;> rfl, by omega, by omega, by omega, by rw [hkk0, hlk0]; simp, hs, by
            rw [hkk0, hb]
            have e1 : E.take j ++ (E.getD j e0 :: E.drop (j + 1)) = E := by rw [← dropE (e0 := e0) (by omega), List.take_append_drop]
            have e2 : (E.take j).map (·.1) ++ ([] ++ ((E.getD (j + 1 - 1) e0).1 :: ((E.drop (j + 1)).map (·.1) ++ r))) = E.map (·.1) ++ r := by
              rw [← congrArg (List.map (·.1)) e1]
              simp only [List.map_append, List.map_cons, List.append_assoc, List.cons_append, List.nil_append, Nat.add_sub_cancel]
            rw [e2]⟩ ?_
        rintro m T G'' ⟨q, m0, t0, t1, t5, t6, t7, hm, hq1, hqj, hkm, hS, hB⟩
        simp (maxSteps := 300000) (disch := omega) only [gs, gs2, gs3, gs4, ↓reduceIte, Nat.reduceEqDiff, Int.reduceToNat, Nat.reduceMul, Nat.reduceAdd, Nat.reduceBEq, isLd, t0, t1, t5, t6, t7]
        by_cases hqq : (q : Int) < ((E.length - j : Nat) : Int)
        · have hd : E.drop (j + q) = E.getD (j + q) e0 :: E.drop (j + (q + 1)) := dropE (by omega)
          have hr1 : rd G'' (some ⟨b, j + q, none⟩) = some (E.getD (j + q) e0).1 := by
            simp only [rd, hB, Option.bind_some]
            rw [List.getElem?_append_right (by rw [List.length_map]; omega), List.length_map, List.getElem?_append_right (by omega), hd]
            rw [show j + q - (ddE (E.take (j + q))).length - m0.length = 1 by omega]
            rfl
          have hr0 : rd G'' (some ⟨b, j + (q - 1), none⟩) = some (E.getD (j + q - 1) e0).1 := by
            simp only [rd, hB, Option.bind_some]
            rw [List.getElem?_append_right (by rw [List.length_map]; omega), List.length_map, List.getElem?_append_right (by omega)]
            rw [show j + (q - 1) - (ddE (E.take (j + q))).length - m0.length = 0 by omega]
            rfl
          have w2 : IntKind.i64.wrap ((q : Int) - 1) = ((q - 1 : Nat) : Int) := by rw [w64 (n := (q : Int) - 1) (by omega) (by omega)]; omega
          simp (maxSteps := 300000) (disch := omega) only [gs, gs2, gs3, gs4, ↓reduceIte, Nat.reduceEqDiff, Int.reduceToNat, Nat.reduceMul, Nat.reduceAdd, Nat.reduceBEq, isLd, t0, t1, t5, t6, t7, hqq, w2, hr1, hr0]
          refine hf _ hS _ (hmem (j + q) (by omega)) _ (hmem (j + q - 1) (by omega)) _ ?_
          have hsn := ddE_snoc (E := E) (e0 := e0) (show 1 ≤ j + q by omega) (by omega)
          by_cases hp : (E.getD (j + q) e0).2 = (E.getD (j + q - 1) e0).2
          · rw [if_pos hp] at hsn
            simp (maxSteps := 300000) (disch := omega) only [gs, gs2, gs3, gs4, ↓reduceIte, Nat.reduceEqDiff, Int.reduceToNat, Nat.reduceMul, Nat.reduceAdd, Nat.reduceBEq, isLd, t0, t1, t5, t6, t7, hp]
            refine ⟨m - 1, by omega, G'', Sub.refl _, q + 1, m0 ++ [(E.getD (j + q - 1) e0).1], by rw [← Nat.add_assoc, hsn], rfl, by omega, by omega, by omega, by rw [← Nat.add_assoc, hsn, List.length_append]; simp; omega, hS, ?_⟩
            rw [hB, ← Nat.add_assoc, hsn, hd]
            simp [← Nat.add_assoc]
          · rw [if_neg hp] at hsn
            simp (maxSteps := 300000) (disch := omega) only [gs, gs2, gs3, gs4, ↓reduceIte, Nat.reduceEqDiff, Int.reduceToNat, Nat.reduceMul, Nat.reduceAdd, Nat.reduceBEq, isLd, t0, t1, t5, t6, t7, hp, hr1]
            have hkl : (((ddE (E.take (j + q))).length : Nat) : Int) < E.length := by omega
            refine st_one hB (by simp; omega) (h1 _ (hmem (j + q) (by omega))) ?_
            simp (maxSteps := 300000) (disch := omega) only [gs, gs2, gs3, gs4, ↓reduceIte, Nat.reduceEqDiff, Int.reduceToNat, Nat.reduceMul, Nat.reduceAdd, Nat.reduceBEq, isLd, t0, t1, t5, t6, t7]
            obtain ⟨y, m2, hm2, hm2l⟩ : ∃ y m2, m0 ++ [(E.getD (j + q - 1) e0).1] = y :: m2 ∧ m2.length = m0.length := by
              cases m0 with
              | nil => exact ⟨_, _, rfl, rfl⟩
              | cons y m2 => exact ⟨y, m2 ++ [(E.getD (j + q - 1) e0).1], rfl, by simp⟩
            refine ⟨m - 1, by omega, _, Sub.refl _, q + 1, m2, by rw [← Nat.add_assoc, hsn, List.length_append]; rfl, rfl, by omega, by omega, by omega, by rw [← Nat.add_assoc, hsn, List.length_append]; simp; omega, hS.skip hHb, ?_⟩
            rw [put_same, ← Nat.add_assoc, hsn, hd]
            have e3 : m0 ++ ((E.getD (j + q - 1) e0).1 :: ((E.getD (j + q) e0 :: E.drop (j + (q + 1))).map (·.1) ++ r)) = y :: (m2 ++ ((E.getD (j + q) e0).1 :: ((E.drop (j + (q + 1))).map (·.1) ++ r))) := by
              have e4 : ∀ X : List Value, m0 ++ ((E.getD (j + q - 1) e0).1 :: X) = y :: (m2 ++ X) := fun X => by
                rw [← List.cons_append, ← hm2, List.append_assoc]; rfl
              exact e4 _
            rw [e3]
            congr 2
            rw [List.set_append_right _ _ (by rw [List.length_map]; exact Nat.le_refl _), List.length_map, Nat.sub_self, List.set_cons_zero]
            simp [← Nat.add_assoc]
        · have hjn : j + q = E.length := by omega
          rw [hjn, List.take_length] at t5 hkm hB
          rw [List.drop_length, List.map_nil, List.nil_append] at hB
          have hkl : (ddE E).length < E.length := by omega
          have hnc : E.length ≤ c := by omega
          simp (maxSteps := 300000) (disch := omega) only [gs, gs2, gs3, gs4, ↓reduceIte, Nat.reduceEqDiff, Int.reduceToNat, Nat.reduceMul, Nat.reduceAdd, Nat.reduceBEq, isLd, t0, t1, t5, t6, t7, hqq, sl_rest hkl hnc, Option.map_none]
          have ho' := over_app (zc [Value.slice none 0 0] (E.length - (ddE E).length)) ((ddE E).map (·.1)) ((m0 ++ [(E.getD (E.length - 1) e0).1]) ++ r)
          have hzl : (zc [Value.slice none 0 0] (E.length - (ddE E).length)).length = E.length - (ddE E).length := by rw [zc_one, List.length_replicate]
          rw [hzl, if_pos (by simp; omega), List.length_map, show ((m0 ++ [(E.getD (E.length - 1) e0).1]) ++ r).drop (E.length - (ddE E).length) = r by rw [← show (m0 ++ [(E.getD (E.length - 1) e0).1]).length = E.length - (ddE E).length by simp; omega]; simp] at ho'
          have hBB : G'' b = some ⟨(ddE E).map (·.1) ++ ((m0 ++ [(E.getD (E.length - 1) e0).1]) ++ r), true⟩ := by rw [hB]; simp
          refine ⟨_, _, _, rfl, .inr ⟨b, _, _, rfl, hBB, by simp; omega, fun v hv => by rw [zc_one] at hv; rw [List.eq_of_mem_replicate hv]; rfl, ?_⟩⟩
          rw [ho']
          simp (maxSteps := 300000) (disch := omega) only [gs, gs2, gs3, gs4, ↓reduceIte, Nat.reduceEqDiff, Int.reduceToNat, Nat.reduceMul, Nat.reduceAdd, Nat.reduceBEq, isLd, t0, t1, t5, t6, t7, Option.map_none, sl_init (A := some ⟨b, 0, none⟩) (Nat.le_of_lt hkl) hnc]
          refine hk _ (zc [Value.slice none 0 0] (E.length - (ddE E).length) ++ r) (hS.skip hHb) ?_ ?_
          · rw [put_same, List.append_assoc]
          · rw [List.length_append, hzl]; omega
      · simp (maxSteps := 300000) (disch := omega) only [gs, gs2, gs3, gs4, ↓reduceIte, Nat.reduceEqDiff, Int.reduceToNat, Nat.reduceMul, Nat.reduceAdd, Nat.reduceBEq, isLd, t0, t1, t5, hjj, hq]
        have hsn := ddE_snoc (E := E) (e0 := e0) hj1 (show j < E.length by omega)
        rw [if_neg hq, hinv] at hsn
        refine ⟨m - 1, by omega, G', Sub.refl _, j + 1, rfl, by omega, by omega, by omega, rfl, ?_⟩
        rw [hsn, List.take_succ_eq_append_getElem (show j < E.length by omega)]
        simp [List.getD, show j < E.length by omega]
    · obtain rfl : j = E.length := by omega
      simp (maxSteps := 300000) (disch := omega) only [gs, gs2, gs3, gs4, ↓reduceIte, Nat.reduceEqDiff, Int.reduceToNat, Nat.reduceMul, Nat.reduceAdd, Nat.reduceBEq, isLd, t0, t1, t5, hjj]
      rw [List.take_length] at hinv
      rw [hinv] at hk
      exact hk G' r hs hb hc
def sri_lay_ren : Go.Shelf.Ren := ⟨fun | 53 => 181 | 64 => 228 | 63 => 227 | 78 => 263 | 79 => 264 | 70 => 254 | 71 => 255 | 72 => 256 | 73 => 257 | 74 => 258 | 75 => 259 | 59 => 260 | 76 => 261 | 77 => 262 | 88 => 286 | 89 => 287 | 90 => 288 | 91 => 289 | 92 => 290 | 68 => 253 | 96 => 300 | n => n, fun | 22 => 27 | 23 => 2 | 3 => 3 | 51 => 206 | 0 => 0 | 67 => 248 | 69 => 145 | 4 => 4 | 61 => 242 | 60 => 241 | 44 => 238 | 5 => 5 | 9 => 9 | 75 => 262 | 79 => 266 | 83 => 274 | 84 => 275 | n => n, fun n => n⟩
theorem sri_lay : Go.Proofs.SlLaysN.n53 Tryz.prog sri_lay_ren := {
  mixed := by kernel_rfl
  f53 := ⟨Tryz.f181.name, by decide, Tryz.func181.trans (congrArg some (by kernel_rfl))⟩
  f59 := ⟨Tryz.f260.name, by decide, Tryz.func260.trans (congrArg some (by kernel_rfl))⟩
  f63 := ⟨Tryz.f227.name, by decide, Tryz.func227.trans (congrArg some (by kernel_rfl))⟩
  f64 := Tryz.func228.trans (congrArg some (by kernel_rfl))
  f68 := ⟨Tryz.f253.name, by decide, Tryz.func253.trans (congrArg some (by kernel_rfl))⟩
  f70 := ⟨Tryz.f254.name, by decide, Tryz.func254.trans (congrArg some (by kernel_rfl))⟩
  f71 := ⟨Tryz.f255.name, by decide, Tryz.func255.trans (congrArg some (by kernel_rfl))⟩
  f72 := ⟨Tryz.f256.name, by decide, Tryz.func256.trans (congrArg some (by kernel_rfl))⟩
  f73 := ⟨Tryz.f257.name, by decide, Tryz.func257.trans (congrArg some (by kernel_rfl))⟩
  f74 := ⟨Tryz.f258.name, by decide, Tryz.func258.trans (congrArg some (by kernel_rfl))⟩
  f75 := ⟨Tryz.f259.name, by decide, Tryz.func259.trans (congrArg some (by kernel_rfl))⟩
  f76 := ⟨Tryz.f261.name, by decide, Tryz.func261.trans (congrArg some (by kernel_rfl))⟩
  f77 := ⟨Tryz.f262.name, by decide, Tryz.func262.trans (congrArg some (by kernel_rfl))⟩
  f78 := Tryz.func263.trans (congrArg some (by kernel_rfl))
  f79 := Tryz.func264.trans (congrArg some (by kernel_rfl))
  f88 := ⟨Tryz.f286.name, by decide, Tryz.func286.trans (congrArg some (by kernel_rfl))⟩
  f89 := Tryz.func287.trans (congrArg some (by kernel_rfl))
  f90 := Tryz.func288.trans (congrArg some (by kernel_rfl))
  f91 := ⟨Tryz.f289.name, by decide, Tryz.func289.trans (congrArg some (by kernel_rfl))⟩
  f92 := ⟨Tryz.f290.name, by decide, Tryz.func290.trans (congrArg some (by kernel_rfl))⟩
  f96 := ⟨Tryz.f300.name, by decide, Tryz.func300.trans (congrArg some (by kernel_rfl))⟩
  t0 := Tryz.underlying0
  a0 := Tryz.isAgg0
  z0 := Tryz.sizeOf0
  v0 := Tryz.zeroValue0
  t3 := Tryz.underlying3
  a3 := Tryz.isAgg3
  z3 := Tryz.sizeOf3
  v3 := Tryz.zeroValue3
  t4 := Tryz.underlying4
  a4 := Tryz.isAgg4
  z4 := Tryz.sizeOf4
  v4 := Tryz.zeroValue4
  t5 := Tryz.underlying5
  a5 := Tryz.isAgg5
  z5 := Tryz.sizeOf5
  v5 := Tryz.zeroValue5
  t9 := Tryz.underlying9
  a9 := Tryz.isAgg9
  z9 := Tryz.sizeOf9
  v9 := Tryz.zeroValue9
  t22 := Tryz.underlying27
  a22 := Tryz.isAgg27
  z22 := Tryz.sizeOf27
  v22 := Tryz.zeroValue27
  t23 := Tryz.underlying2
  a23 := Tryz.isAgg2
  z23 := Tryz.sizeOf2
  v23 := Tryz.zeroValue2
  t44 := Tryz.underlying238
  a44 := Tryz.isAgg238
  z44 := Tryz.sizeOf238
  v44 := Tryz.zeroValue238
  t51 := Tryz.underlying206
  a51 := Tryz.isAgg206
  z51 := Tryz.sizeOf206
  v51 := Tryz.zeroValue206
  t60 := Tryz.underlying241
  a60 := Tryz.isAgg241
  z60 := Tryz.sizeOf241
  v60 := Tryz.zeroValue241
  t61 := Tryz.underlying242
  a61 := Tryz.isAgg242
  z61 := Tryz.sizeOf242
  v61 := Tryz.zeroValue242
  t67 := Tryz.underlying248
  a67 := Tryz.isAgg248
  z67 := Tryz.sizeOf248
  v67 := Tryz.zeroValue248
  t69 := Tryz.underlying145
  a69 := Tryz.isAgg145
  z69 := Tryz.sizeOf145
  v69 := Tryz.zeroValue145
  t75 := Tryz.underlying262
  a75 := Tryz.isAgg262
  z75 := Tryz.sizeOf262
  v75 := Tryz.zeroValue262
  t79 := Tryz.underlying266
  a79 := Tryz.isAgg266
  z79 := Tryz.sizeOf266
  v79 := Tryz.zeroValue266
  t83 := Tryz.underlying274
  a83 := Tryz.isAgg274
  z83 := Tryz.sizeOf274
  v83 := Tryz.zeroValue274
  t84 := Tryz.underlying275
  a84 := Tryz.isAgg275
  z84 := Tryz.sizeOf275
  v84 := Tryz.zeroValue275 }
theorem sorti_enter : Enterable Tryz.prog 181 := by
  obtain ⟨nm, hn, hf⟩ := sri_lay.f53
  exact ⟨_, hf, hn, rfl⟩
theorem Sort_int_none_ok {G : GH} {p : Option Addr} {c : Nat} {K : Value → GH → Prop} (hk : K (.tuple #[]) G) : GC Tryz.prog 181 [.slice p 0 c] G K := by
  refine ⟨sorti_enter, fun W w hw => ?_⟩
  have h := AnyG.slices_Sort_int_none (P := Tryz.prog) (ρ := sri_lay_ren) sri_lay p c w
  refine Calls.mono h ?_
  rintro e w' ⟨rfl, rfl⟩
  exact ⟨_, G, rfl, hk, hw⟩
theorem Sort_int_some_ok {G : GH} {b c : Nat} {xs : List Int} {r : List Value} (h0 : 0 < xs.length) (hb : G b = some ⟨xs.map I64 ++ r, true⟩) (hn : xs.length < 2 ^ 40) {K : Value → GH → Prop}
    (hk : K (.tuple #[]) (put G b ⟨(xs.mergeSort fun x y => decide (x ≤ y)).map I64 ++ r, true⟩)) : GC Tryz.prog 181 [.slice (some ⟨b, 0, none⟩) xs.length c] G K := by
  refine ⟨sorti_enter, fun W w hw => ?_⟩
  obtain ⟨el, fz, hheap, hrw⟩ := hw.ent b _ hb
  obtain ⟨hWb, hfr⟩ := hrw rfl
  have hbs := heap_lt hheap
  have hH : Go.Sort.Holds (Value.int .i64) w b 0 xs.toArray := fun j hj => by
    have hj : j < xs.length := by simpa using hj
    constructor
    · simp only [World.cell?, hheap, Nat.zero_add, Option.isSome_none, Bool.false_eq_true, if_false]
      simp [List.getElem?_append_left, hj, I64]
    · simp only [World.frozen?, hheap, Nat.zero_add]
      have := hfr j (by simp; omega)
      simp only [Bool.and_eq_false_iff, decide_eq_false_iff_not]
      omega
  have main := AnyG.slices_Sort_int (P := Tryz.prog) (ρ := sri_lay_ren) sri_lay b 0 c xs w hH hbs (by omega)
  refine Calls.mono main ?_
  rintro e w' ⟨rfl, n, os, rfl⟩
  have hln : (xs.mergeSort fun x y => decide (x ≤ y)).length = xs.length := List.length_mergeSort _
  show ∃ v G', _ = _ ∧ K v G' ∧ Holds W (sortWorld (Value.int .i64) w b 0 n (xs.mergeSort fun x y => decide (x ≤ y)).toArray os) G'
  refine ⟨_, _, rfl, hk, ⟨⟨hw.below.os, hw.below.tape, hw.below.output, Nat.le_trans hw.below.size (sw_size _ _ _ _ _ _ _), fun k hk' => ?_⟩, fun x e he => ?_, Nat.le_trans hw.drawn (Nat.le_add_right _ _)⟩⟩
  · rw [sw_heap _ _ _ _ _ _ _ (Nat.lt_of_lt_of_le hk' hw.below.size), if_neg (by omega)]
    exact hw.below.block k hk'
  · unfold put at he
    split at he
    · next q =>
      subst q
      obtain rfl := Option.some.inj he
      refine ⟨el, fz, ?_, fun _ => ⟨hWb, fun i hi => hfr i (by simpa [hln] using hi)⟩⟩
      rw [sw_heap _ _ _ _ _ _ _ hbs, if_pos rfl, hheap]
      show some (Obj.cells (Go.Sort.putCells (Value.int .i64) 0 (xs.mergeSort fun x y => decide (x ≤ y)).toArray (xs.map I64 ++ r).toArray) el fz) = _
      rw [putCells_all _ _ _ _ (by simp)]
      rfl
    · next q =>
      obtain ⟨el', fz', hh, hr⟩ := hw.ent x e he
      exact ⟨el', fz', by rw [sw_heap _ _ _ _ _ _ _ (heap_lt hh), if_neg fun r => q r.symm]; exact hh, hr⟩
theorem idxI_mem' {xs : List Int} {v : Int} (h : v ∈ xs) : idxI (fun x => decide (x = v)) xs = xs.idxOf v ∧ xs.idxOf v < xs.length := by
  have hlt := List.idxOf_lt_length_iff.2 h
  refine ⟨?_, hlt⟩
  unfold idxI
  have : xs.findIdx? (fun x => decide (x = v)) = some (xs.idxOf v) := by
    rw [List.findIdx?_eq_some_iff_findIdx_eq]
    exact ⟨hlt, rfl⟩
  rw [this]
theorem impl_project_ok {G : GH} {A B D : Option Addr} {c d e : Nat} {cols row wanted : List Int} (h : IntS G A c cols) (h' : IntS G B d row) (hw : IntS G D e wanted) (hmem : ∀ v ∈ wanted, v ∈ cols) (hlen : row.length = cols.length) (hl : cols.length < 2 ^ 30) (hl2 : wanted.length < 2 ^ 30) {K : Value → GH → Prop}
    (hk : ∀ G' A' c', New G G' A' c' ((wanted.map (cellAt cols row)).map I64) 1 wanted.length → K (.slice A' wanted.length c') G') : GC Tryz.prog 107 [.slice A cols.length c, .slice B row.length d, .slice D wanted.length e] G K := by
  refine GC_drop (c_impl_project_i (by simp) ?_)
  have hsw := hw.sn
  have rw' := hw.rd
  simp (maxSteps := 300000) (disch := omega) only [gs, gs2, gs3, gs4, ↓reduceIte, Nat.reduceEqDiff, Int.reduceToNat, Nat.reduceMul, Nat.reduceAdd, Nat.reduceBEq, isLd]
  refine gLoop_intro (fun m T G' => ∃ (k : Nat) (Z : Option Addr) (z : Nat), T 0 = .slice A cols.length c ∧ T 1 = .slice B row.length d ∧ T 10 = .slice D wanted.length e ∧ T 11 = .int .i64 wanted.length ∧ T 7 = .slice Z k z ∧ T 12 = .int .i64 k ∧ m + k = wanted.length ∧ k ≤ wanted.length ∧ Sub G G' ∧ Off G Z ∧ Own G' Z z (((wanted.take k).map (cellAt cols row)).map I64) 1 k) wanted.length
    ⟨0, none, 0, by simp (maxSteps := 300000) (disch := omega) only [gs, gs2, gs3, gs4, ↓reduceIte, Nat.reduceEqDiff, Int.reduceToNat, Nat.reduceMul, Nat.reduceAdd, Nat.reduceBEq, isLd], by simp (maxSteps := 300000) (disch := omega) only [gs, gs2, gs3, gs4, ↓reduceIte, Nat.reduceEqDiff, Int.reduceToNat, Nat.reduceMul, Nat.reduceAdd, Nat.reduceBEq, isLd], by simp (maxSteps := 300000) (disch := omega) only [gs, gs2, gs3, gs4, ↓reduceIte, Nat.reduceEqDiff, Int.reduceToNat, Nat.reduceMul, Nat.reduceAdd, Nat.reduceBEq, isLd], by simp (maxSteps := 300000) (disch := omega) only [gs, gs2, gs3, gs4, ↓reduceIte, Nat.reduceEqDiff, Int.reduceToNat, Nat.reduceMul, Nat.reduceAdd, Nat.reduceBEq, isLd], by simp (maxSteps := 300000) (disch := omega) only [gs, gs2, gs3, gs4, ↓reduceIte, Nat.reduceEqDiff, Int.reduceToNat, Nat.reduceMul, Nat.reduceAdd, Nat.reduceBEq, isLd] <;> rfl, by simp (maxSteps := 300000) (disch := omega) only [gs, gs2, gs3, gs4, ↓reduceIte, Nat.reduceEqDiff, Int.reduceToNat, Nat.reduceMul, Nat.reduceAdd, Nat.reduceBEq, isLd] <;> rfl, by omega, by omega, Sub.refl _, Off.nil _, Own.nil _ _⟩ ?_
  rintro m T G' ⟨k, Z, z, e0, e1, e10, e11, e7, e12, hm, hkl, hS, hO, hW⟩
  simp (maxSteps := 300000) (disch := omega) only [gs, gs2, gs3, gs4, ↓reduceIte, Nat.reduceEqDiff, Int.reduceToNat, Nat.reduceMul, Nat.reduceAdd, Nat.reduceBEq, isLd, e0, e1, e10, e11, e7, e12]
  by_cases hkk : (k : Int) < wanted.length
  · have rk := rd_sub hS (rw' k (by omega))
    have hv : wanted.getD k 0 ∈ cols := hmem _ (by simp [List.getD, show k < wanted.length by omega])
    obtain ⟨hid, hlt⟩ := idxI_mem' hv
    have rr := rd_sub hS (h'.rd (cols.idxOf (wanted.getD k 0)) (by omega))
    have hsr := h'.sn (by omega)
    simp (maxSteps := 300000) (disch := omega) only [gs, gs2, gs3, gs4, ↓reduceIte, Nat.reduceEqDiff, Int.reduceToNat, Nat.reduceMul, Nat.reduceAdd, Nat.reduceBEq, isLd, e0, e1, e10, e11, e7, e12, hkk, rk]
    refine slices_Index_ok (h.sub hS) (by omega) ?_
    rw [hid]
    have hlt' : ((cols.idxOf (wanted.getD k 0) : Nat) : Int) < row.length := by omega
    simp (maxSteps := 300000) (disch := omega) only [gs, gs2, gs3, gs4, ↓reduceIte, Nat.reduceEqDiff, Int.reduceToNat, Nat.reduceMul, Nat.reduceAdd, Nat.reduceBEq, isLd, e0, e1, e10, e11, e7, e12, hlt', rr, gBs]
    refine ⟨by intro v hv; simp at hv; subst hv; rfl, fun by' hby => ?_⟩
    have sy := Sub.put hby ⟨[I64 (row.getD (cols.idxOf (wanted.getD k 0)) 0)], true⟩
    refine ap_own (hW.sub sy) (news := [I64 (row.getD (cols.idxOf (wanted.getD k 0)) 0)]) (m := 1) (cells_one _ true) rfl (by intro v hv; simp at hv; subst hv; rfl) rfl (by omega) (by omega) (by omega) fun G3 A3 c3' hW3 keep => ?_
    obtain ⟨hS3, hO3⟩ := keep G (hS.trans sy) hO
    simp (maxSteps := 300000) (disch := omega) only [gs, gs2, gs3, gs4, ↓reduceIte, Nat.reduceEqDiff, Int.reduceToNat, Nat.reduceMul, Nat.reduceAdd, Nat.reduceBEq, isLd, e0, e1, e10, e11, e7, e12]
    refine ⟨m - 1, by omega, G3, Sub.refl _, k + 1, A3, c3', rfl, rfl, by omega, by omega, hS3, hO3, ?_⟩
    refine hW3.cast ?_ rfl
    rw [List.take_succ_eq_append_getElem (show k < wanted.length by omega), List.map_append, List.map_append]
    simp [cellAt, List.getD, show k < wanted.length by omega]
  · simp (maxSteps := 300000) (disch := omega) only [gs, gs2, gs3, gs4, ↓reduceIte, Nat.reduceEqDiff, Int.reduceToNat, Nat.reduceMul, Nat.reduceAdd, Nat.reduceBEq, isLd, e0, e1, e10, e11, e7, e12, hkk]
    obtain rfl : k = wanted.length := by omega
    rw [List.take_length] at hW
    obtain ⟨G4, s4, hN4⟩ := hW.new hS hO
    exact ⟨G4, s4, hk _ _ _ hN4⟩
theorem impl_fit_ok {G : GH} {a b : Tab} {A B A' B' D D' : Option Addr} {c d c' d' e e' : Nat} {x y : List Int} (h : IntS G A c a.cols) (h' : IntS G A' c' b.cols) (hx : IntS G D e x) (hy : IntS G D' e' y) (hl : a.cols.length < 2 ^ 30) (hl' : b.cols.length < 2 ^ 30) (hxl : x.length = a.cols.length) (hyl : y.length = b.cols.length) {K : Value → GH → Prop}
    (hk : ∀ z : Bool, (z = true ↔ FitP a.cols b.cols x y) → K (.bool z) G) : GC Tryz.prog 106 [tabV a A c B d, tabV b A' c' B' d', .slice D x.length e, .slice D' y.length e'] G K := by
  refine GC_drop (c_impl_fit_i (by simp) ?_)
  unfold tabV tabC
  simp (maxSteps := 300000) (disch := omega) only [gs, gs2, gs3, gs4, ↓reduceIte, Nat.reduceEqDiff, Int.reduceToNat, Nat.reduceMul, Nat.reduceAdd, Nat.reduceBEq, isLd]
  intro b2 hb2
  simp (maxSteps := 300000) (disch := omega) only [gs, gs2, gs3, gs4, ↓reduceIte, Nat.reduceEqDiff, Int.reduceToNat, Nat.reduceMul, Nat.reduceAdd, Nat.reduceBEq, isLd]
  intro b3 hb3
  simp only [put_none] at hb3
  obtain ⟨n23, hb3'⟩ := hb3
  have s2 := Sub.put hb2 ⟨[.slice A a.cols.length c, .slice B a.rows.length d], true⟩
  have s3 := Sub.put (show put G b2 ⟨[.slice A a.cols.length c, .slice B a.rows.length d], true⟩ b3 = none from by rw [put_ne _ _ (by omega)]; exact hb3') ⟨[.slice A' b.cols.length c', .slice B' b.rows.length d'], true⟩
  have f2 := rd_sub s3 (show rd (put G b2 ⟨[.slice A a.cols.length c, .slice B a.rows.length d], true⟩) (some ⟨b2, 0, none⟩) = some (.slice A a.cols.length c) from rd_box _ _ _ 0 _ rfl)
  have f2' := rd_sub s3 (show rd (put G b2 ⟨[.slice A a.cols.length c, .slice B a.rows.length d], true⟩) (some ⟨b2, 1, none⟩) = some (.slice B a.rows.length d) from rd_box _ _ _ 1 _ rfl)
  have f3 : rd (put (put G b2 ⟨[.slice A a.cols.length c, .slice B a.rows.length d], true⟩) b3 ⟨[.slice A' b.cols.length c', .slice B' b.rows.length d'], true⟩) (some ⟨b3, 0, none⟩) = some (.slice A' b.cols.length c') := rd_box _ _ _ 0 _ rfl
  have f3' : rd (put (put G b2 ⟨[.slice A a.cols.length c, .slice B a.rows.length d], true⟩) b3 ⟨[.slice A' b.cols.length c', .slice B' b.rows.length d'], true⟩) (some ⟨b3, 1, none⟩) = some (.slice B' b.rows.length d') := rd_box _ _ _ 1 _ rfl
  have s1 := s2.trans s3
  revert s1 f2 f3 f2' f3'
  generalize put (put G b2 ⟨[.slice A a.cols.length c, .slice B a.rows.length d], true⟩) b3 ⟨[.slice A' b.cols.length c', .slice B' b.rows.length d'], true⟩ = G1
  intro f2 f2' f3 f3' s1
  simp (maxSteps := 300000) (disch := omega) only [gs, gs2, gs3, gs4, ↓reduceIte, Nat.reduceEqDiff, Int.reduceToNat, Nat.reduceMul, Nat.reduceAdd, Nat.reduceBEq, isLd, f2, f3, f2', f3']
  refine impl_commonColumns_ok (a := a) (b := b) (h.sub s1) (h'.sub s1) hl hl' fun G2 D2 e2 hN => ?_
  have s2 := s1.trans hN.sub
  have hcl := comm_len a.cols b.cols
  have g2 := rd_sub hN.sub f2
  have g3 := rd_sub hN.sub f3
  simp (maxSteps := 300000) (disch := omega) only [gs, gs2, gs3, gs4, ↓reduceIte, Nat.reduceEqDiff, Int.reduceToNat, Nat.reduceMul, Nat.reduceAdd, Nat.reduceBEq, isLd, g2, g3]
  refine impl_project_ok (h.sub s2) (hx.sub s2) hN.ints (fun v hv => by unfold comm at hv; simp at hv; exact hv.1) hxl hl (by omega) fun G3 D3 e3 hN3 => ?_
  have s3 := s2.trans hN3.sub
  simp (maxSteps := 300000) (disch := omega) only [gs, gs2, gs3, gs4, ↓reduceIte, Nat.reduceEqDiff, Int.reduceToNat, Nat.reduceMul, Nat.reduceAdd, Nat.reduceBEq, isLd, rd_sub hN3.sub g2, rd_sub hN3.sub g3]
  refine impl_project_ok (h'.sub s3) (hy.sub s3) (hN.ints.sub hN3.sub) (fun v hv => by unfold comm at hv; simp at hv; exact hv.2) hyl hl' (by omega) fun G4 D4 e4 hN4 => ?_
  have s4 := s3.trans hN4.sub
  simp (maxSteps := 300000) (disch := omega) only [gs, gs2, gs3, gs4, ↓reduceIte, Nat.reduceEqDiff, Int.reduceToNat, Nat.reduceMul, Nat.reduceAdd, Nat.reduceBEq, isLd, rd_sub hN4.sub (rd_sub hN3.sub g2), rd_sub hN4.sub (rd_sub hN3.sub g3)]
  have hI3 := (hN3.ints' (by rw [List.length_map])).sub hN4.sub
  have hI4 := hN4.ints' (by rw [List.length_map])
  have heq := fun K => slices_Equal_int64_ok hI3 hI4 (by rw [List.length_map]; omega) (K := K)
  simp only [List.length_map] at heq
  refine heq _ ?_
  simp (maxSteps := 300000) (disch := omega) only [gs, gs2, gs3, gs4, ↓reduceIte, Nat.reduceEqDiff, Int.reduceToNat, Nat.reduceMul, Nat.reduceAdd, Nat.reduceBEq, isLd, rd_sub hN4.sub (rd_sub hN3.sub g2), rd_sub hN4.sub (rd_sub hN3.sub g3)]
  exact ⟨G, s4, hk _ (by rw [decide_eq_true_eq]; exact fit_map)⟩
theorem slices_IndexFuncR_ok {G : GH} {A : Option Addr} {c : Nat} {hs : Nat → Option Addr × Nat} {xss : List (List Int)} {f : Value} (p : List Int → Bool) (h : RowS G A c hs xss) (hl : xss.length < 2 ^ 40)
    (hf : ∀ i, i < xss.length → ∀ K : Value → GH → Prop, K (.bool (p (xss.getD i []))) G → gCl Tryz.prog f [.slice (hs i).1 (xss.getD i []).length (hs i).2] G K) {K : Value → GH → Prop}
    (hk : ∀ v : Int, (0 ≤ v ↔ ∃ x ∈ xss, p x = true) → K (.int .i64 v) G) : GC Tryz.prog 230 [.slice A xss.length c, f] G K := by
  refine c_slices_IndexFunc_SS_int64_int64_i (by simp) ?_
  have hsn := h.sn
  have hrd := h.r
  simp (maxSteps := 300000) (disch := omega) only [gs, gs2, gs3, gs4, ↓reduceIte, Nat.reduceEqDiff, Int.reduceToNat, Nat.reduceMul, Nat.reduceAdd, Nat.reduceBEq, isLd]
  refine gLoop_intro (fun m T G' => ∃ k : Nat, T 0 = .slice A xss.length c ∧ T 1 = f ∧ T 7 = .int .i64 xss.length ∧ T 8 = .int .i64 k ∧ m + k = xss.length ∧ k ≤ xss.length ∧ G' = G ∧ ∀ i, i < k → p (xss.getD i []) = false) xss.length
    ⟨0, by simp (maxSteps := 300000) (disch := omega) only [gs, gs2, gs3, gs4, ↓reduceIte, Nat.reduceEqDiff, Int.reduceToNat, Nat.reduceMul, Nat.reduceAdd, Nat.reduceBEq, isLd], by simp (maxSteps := 300000) (disch := omega) only [gs, gs2, gs3, gs4, ↓reduceIte, Nat.reduceEqDiff, Int.reduceToNat, Nat.reduceMul, Nat.reduceAdd, Nat.reduceBEq, isLd], by simp (maxSteps := 300000) (disch := omega) only [gs, gs2, gs3, gs4, ↓reduceIte, Nat.reduceEqDiff, Int.reduceToNat, Nat.reduceMul, Nat.reduceAdd, Nat.reduceBEq, isLd], by simp (maxSteps := 300000) (disch := omega) only [gs, gs2, gs3, gs4, ↓reduceIte, Nat.reduceEqDiff, Int.reduceToNat, Nat.reduceMul, Nat.reduceAdd, Nat.reduceBEq, isLd] <;> rfl, by omega, by omega, rfl, fun i hi => by omega⟩ ?_
  rintro m T G' ⟨k, h0, h1, h7, h8, hm, hkl, rfl, hinv⟩
  simp (maxSteps := 300000) (disch := omega) only [gs, gs2, gs3, gs4, ↓reduceIte, Nat.reduceEqDiff, Int.reduceToNat, Nat.reduceMul, Nat.reduceAdd, Nat.reduceBEq, isLd, h0, h1, h7, h8]
  by_cases hlt : (k : Int) < xss.length
  · simp (maxSteps := 300000) (disch := omega) only [gs, gs2, gs3, gs4, ↓reduceIte, Nat.reduceEqDiff, Int.reduceToNat, Nat.reduceMul, Nat.reduceAdd, Nat.reduceBEq, isLd, h0, h1, h7, h8, hlt, hrd]
    refine hf k (by omega) _ ?_
    simp (maxSteps := 300000) (disch := omega) only [gs, gs2, gs3, gs4, ↓reduceIte, Nat.reduceEqDiff, Int.reduceToNat, Nat.reduceMul, Nat.reduceAdd, Nat.reduceBEq, isLd, h0, h1, h7, h8]
    cases hp : p (xss.getD k [])
    · simp (maxSteps := 300000) (disch := omega) only [gs, gs2, gs3, gs4, ↓reduceIte, Nat.reduceEqDiff, Int.reduceToNat, Nat.reduceMul, Nat.reduceAdd, Nat.reduceBEq, isLd, h0, h1, h7, h8]
      refine ⟨m - 1, by omega, _, Sub.refl _, k + 1, rfl, by omega, by omega, rfl, fun i hi => ?_⟩
      by_cases hik : i = k
      · subst hik; exact hp
      · exact hinv i (by omega)
    · simp (maxSteps := 300000) (disch := omega) only [gs, gs2, gs3, gs4, ↓reduceIte, Nat.reduceEqDiff, Int.reduceToNat, Nat.reduceMul, Nat.reduceAdd, Nat.reduceBEq, isLd, h0, h1, h7, h8]
      exact hk _ ⟨fun _ => ⟨xss.getD k [], by simp [List.getD, show k < xss.length by omega], hp⟩, fun _ => by omega⟩
  · simp (maxSteps := 300000) (disch := omega) only [gs, gs2, gs3, gs4, ↓reduceIte, Nat.reduceEqDiff, Int.reduceToNat, Nat.reduceMul, Nat.reduceAdd, Nat.reduceBEq, isLd, h0, h1, h7, h8, hlt]
    refine hk _ ⟨fun x => by omega, fun ⟨x, hx, hp⟩ => ?_⟩
    obtain ⟨i, hi, rfl⟩ := List.mem_iff_getElem.1 hx
    have := hinv i (by omega)
    rw [show xss.getD i [] = xss[i] by simp [List.getD, hi]] at this
    rw [this] at hp; cases hp
theorem slices_ContainsFuncR_ok {G : GH} {A : Option Addr} {c : Nat} {hs : Nat → Option Addr × Nat} {xss : List (List Int)} {f : Value} (p : List Int → Bool) (h : RowS G A c hs xss) (hl : xss.length < 2 ^ 40)
    (hf : ∀ i, i < xss.length → ∀ K : Value → GH → Prop, K (.bool (p (xss.getD i []))) G → gCl Tryz.prog f [.slice (hs i).1 (xss.getD i []).length (hs i).2] G K) {K : Value → GH → Prop}
    (hk : ∀ z : Bool, (z = true ↔ ∃ x ∈ xss, p x = true) → K (.bool z) G) : GC Tryz.prog 188 [.slice A xss.length c, f] G K := by
  refine c_slices_ContainsFunc_SS_int64_int64_i (by simp) ?_
  simp (maxSteps := 300000) (disch := omega) only [gs, gs2, gs3, gs4, ↓reduceIte, Nat.reduceEqDiff, Int.reduceToNat, Nat.reduceMul, Nat.reduceAdd, Nat.reduceBEq, isLd]
  refine slices_IndexFuncR_ok p h hl hf fun v hv => ?_
  simp (maxSteps := 300000) (disch := omega) only [gs, gs2, gs3, gs4, ↓reduceIte, Nat.reduceEqDiff, Int.reduceToNat, Nat.reduceMul, Nat.reduceAdd, Nat.reduceBEq, isLd]
  exact hk _ (by rw [decide_eq_true_eq]; exact hv)
/-- what is known but for a list's block. -/
def wz (G : GH) (A : Option Addr) : GH := fun x => if A.map (·.block) = some x then none else G x
theorem Sub.wz (G : GH) (A : Option Addr) : Sub (Gh.wz G A) G := fun x e h => by
  unfold Gh.wz at h; split at h
  · cases h
  · exact h
theorem Off.wz (G : GH) (A : Option Addr) : Off (Gh.wz G A) A := fun a ha => by unfold Gh.wz; rw [if_pos (by rw [ha]; rfl)]
theorem wz_ne {G : GH} {A : Option Addr} {x : Nat} (h : ∀ a, A = some a → a.block ≠ x) : wz G A x = G x := by
  unfold wz; rw [if_neg]
  intro y
  cases A with
  | none => cases y
  | some a => simp at y; exact h a rfl y
theorem Own.wz {G : GH} {Z A : Option Addr} {c sz n : Nat} {cs : List Value} (h : Own G A c cs sz n) (hne : ∀ a b, A = some a → Z = some b → a.block ≠ b.block) : Own (Gh.wz G Z) A c cs sz n := by
  rcases h with h | ⟨b, r, rfl, hb, h⟩
  · exact .inl h
  · exact .inr ⟨b, r, rfl, by rw [wz_ne fun a ha x => hne _ a rfl ha x.symm]; exact hb, h⟩
/-- one more list is laid behind the others. -/
theorem OwnR.snoc {G G' : GH} {Z Z' D : Option Addr} {z z' e : Nat} {hs : Nat → Option Addr × Nat} {xss : List (List Int)} {x : List Int} (h : OwnR G Z z hs xss) (hx : Own G D e (x.map I64) 1 x.length) (hZ : ∀ a b, D = some a → Z = some b → a.block ≠ b.block)
    (hR : ∀ i, i < xss.length → ∀ a b, (hs i).1 = some a → D = some b → a.block ≠ b.block) (s : Sub (wz G Z) G') (o : Off (wz G Z) Z')
    (hO : Own G' Z' z' (((List.range xss.length).map fun i => Value.slice (hs i).1 (xss.getD i []).length (hs i).2) ++ [.slice D x.length e]) 1 (xss.length + 1)) : OwnR G' Z' z' (fun i => if i = xss.length then (D, e) else hs i) (xss ++ [x]) := by
  have hg : ∀ i, i < xss.length → (xss ++ [x]).getD i [] = xss.getD i [] := fun i hi => by simp [List.getD, List.getElem?_append_left hi]
  have hgl : (xss ++ [x]).getD xss.length [] = x := by simp [List.getD]
  have hl : (xss ++ [x]).length = xss.length + 1 := by simp
  have offZ : ∀ {A : Option Addr} {c sz n : Nat} {cs : List Value}, Own G A c cs sz n → (∀ a b, A = some a → Z = some b → a.block ≠ b.block) → ∀ a b, A = some a → Z' = some b → a.block ≠ b.block := fun hA hn a b ha hb y => by
    have h1 := own_ne (hA.wz hn) a ha
    have h2 := o b hb
    rw [← y] at h2; exact h1 h2
  refine ⟨?_, fun i hi => ?_, fun i hi => ?_, fun i j hi hj => ?_⟩
  · refine hO.cast ?_ hl.symm
    rw [hl, List.range_succ, List.map_append]
    congr 1
    · exact List.map_congr_left fun i hi => by
        have := List.mem_range.1 hi
        rw [if_neg (by omega), hg i this]
    · simp
  · rw [hl] at hi
    by_cases c : i = xss.length
    · subst c
      simp only [if_true]
      rw [hgl]
      exact (hx.wz hZ).sub s
    · simp only [if_neg c]
      rw [hg i (by omega)]
      exact ((h.row i (by omega)).wz (h.ne i (by omega))).sub s
  · rw [hl] at hi
    by_cases c : i = xss.length
    · subst c
      simp only [if_true]
      exact offZ hx hZ
    · simp only [if_neg c]
      exact offZ (h.row i (by omega)) (h.ne i (by omega))
  · rw [hl] at hi hj
    intro hij
    by_cases ci : i = xss.length
    · subst ci
      have cj : ¬ j = xss.length := fun y => hij y.symm
      simp only [if_true, if_neg cj]
      exact fun a b ha hb y => hR j (by omega) b a hb ha y.symm
    · by_cases cj : j = xss.length
      · subst cj
        simp only [if_true, if_neg ci]
        exact hR i (by omega)
      · simp only [if_neg ci, if_neg cj]
        exact h.inj i j (by omega) (by omega) hij
theorem OwnR.oth {G G' : GH} {S : Nat → Prop} {B : Option Addr} {d : Nat} {hs : Nat → Option Addr × Nat} {xss : List (List Int)} (h : OwnR G B d hs xss) (u : Oth S G G') (hB : ∀ a, B = some a → ¬ S a.block) (hR : ∀ i, i < xss.length → ∀ a, (hs i).1 = some a → ¬ S a.block) : OwnR G' B d hs xss :=
  ⟨h.out.oth u hB, fun i hi => (h.row i hi).oth u (hR i hi), h.ne, h.inj⟩
theorem Oth.put (G : GH) (b : Nat) (e : Ent) : Oth (fun x => x = b) G (Gh.put G b e) := fun x hx => put_ne _ _ hx
/-- the rows that a table which is being made has so far. -/
structure SemG (H G : GH) (b5 : Nat) (A1 : Option Addr) (n c1 : Nat) (Z : Option Addr) (z : Nat) (hs : Nat → Option Addr × Nat) (xss : List (List Int)) : Prop where
  nb : H b5 = none
  sub : Sub (put H b5 ⟨[.slice A1 n c1, .slice Z xss.length z], true⟩) G
  own : OwnR G Z z hs xss
  oZ : Off (put H b5 ⟨[], true⟩) Z
  oR : ∀ i, i < xss.length → Off (put H b5 ⟨[], true⟩) (hs i).1
theorem SemG.up {H G G' : GH} {b5 n c1 z : Nat} {A1 Z : Option Addr} {hs : Nat → Option Addr × Nat} {xss : List (List Int)} (h : SemG H G b5 A1 n c1 Z z hs xss) (s : Sub G G') : SemG H G' b5 A1 n c1 Z z hs xss := ⟨h.nb, h.sub.trans s, h.own.sub s, h.oZ, h.oR⟩
theorem SemG.low {H G : GH} {b5 n c1 z : Nat} {A1 Z : Option Addr} {hs : Nat → Option Addr × Nat} {xss : List (List Int)} (h : SemG H G b5 A1 n c1 Z z hs xss) : Sub H G := (Sub.put h.nb _).trans h.sub
theorem Off.ne {H : GH} {b : Nat} {e : Ent} {A : Option Addr} (h : Off (Gh.put H b e) A) : ∀ a, A = some a → a.block ≠ b := fun a ha x => by
  have := h a ha; rw [x, put_same] at this; cases this
theorem Off.pute {H : GH} {b : Nat} {e e' : Ent} {A : Option Addr} (h : Off (Gh.put H b e) A) : Off (Gh.put H b e') A := fun a ha => by
  have h1 := h a ha
  have h2 := h.ne a ha
  rw [put_ne _ _ h2] at h1 ⊢; exact h1
theorem SemG.add {H G : GH} {b5 n c1 z bs e : Nat} {A1 Z D : Option Addr} {hs : Nat → Option Addr × Nat} {xss : List (List Int)} {x : List Int} (h : SemG H G b5 A1 n c1 Z z hs xss) (hD : Own G D e (x.map I64) 1 x.length) (oD : Off (put H b5 ⟨[], true⟩) D)
    (nZ : ∀ a b, D = some a → Z = some b → a.block ≠ b.block) (nR : ∀ i, i < xss.length → ∀ a b, (hs i).1 = some a → D = some b → a.block ≠ b.block) (hb : G bs = some ⟨[.slice D x.length e], true⟩) (hl : xss.length < 2 ^ 30) {K : Value → GH → Prop}
    (hK : ∀ G4 Z' z', Sub (wz G Z) G4 → Sub H G4 → (∀ K' : Value → GH → Prop, (∀ G5 hs', SemG H G5 b5 A1 n c1 Z' z' hs' (xss ++ [x]) → K' undef G5) → gSt 1 (.pointer (some ⟨b5, 1, none⟩)) (.slice Z' (xss.length + 1) z') G4 K') → K (.slice Z' (xss.length + 1) z') G4) :
    gAp 1 24 [.slice none 0 0] (.slice Z xss.length z) (.slice (some ⟨bs, 0, none⟩) 1 1) G K := by
  refine ap_own h.own.out (Own.blk (n := 1) (sz := 1) hb rfl).cells (by rfl) (by intro v hv; simp at hv; subst hv; rfl) rfl (by omega) (by omega) (by omega) fun G4 Z' z' hO keep => ?_
  obtain ⟨s4, o4⟩ := keep _ (Sub.wz G Z) (Off.wz G Z)
  have sw : ∀ {e : Ent}, Sub (put H b5 e) G → Sub (put H b5 e) (wz G Z) := fun {e} s y f hy => by
    rw [wz_ne fun a ha => fun q => by
      have := (h.oZ.pute (e' := e)) a ha
      rw [q, hy] at this; cases this]
    exact s y f hy
  have s5 := (sw h.sub).trans s4
  refine hK G4 Z' z' s4 ((Sub.put h.nb _).trans s5) fun K' hK' => ?_
  have hbox : G4 b5 = some ⟨[.slice A1 n c1, .slice Z xss.length z], true⟩ := s5 _ _ (put_same _ _ _)
  have oZ' : Off (put H b5 ⟨[], true⟩) Z' := (o4.mono (sw h.sub)).pute
  have hR' := h.own.snoc hD nZ nR s4 o4 hO
  have oR' : ∀ i, i < (xss ++ [x]).length → Off (put H b5 ⟨[], true⟩) ((fun i => if i = xss.length then (D, e) else hs i) i).1 := fun i hi => by
    rw [List.length_append, List.length_singleton] at hi
    by_cases c : i = xss.length
    · simp only [if_pos c]; exact oD
    · simp only [if_neg c]; exact h.oR i (by omega)
  refine st_one hbox (by simp) rfl (hK' _ _ ⟨h.nb, fun y f hy => ?_, hR'.oth (Oth.put _ _ _) (oZ'.ne) fun i hi a ha => (oR' i hi).ne a ha, oZ', oR'⟩)
  by_cases c : y = b5
  · subst c
    rw [put_same] at hy ⊢
    rw [← hy, List.length_append]; rfl
  · rw [put_ne _ _ c] at hy ⊢
    exact s5 _ _ (by rw [put_ne _ _ c]; exact hy)
theorem TabP.rd {G : GH} {q : Option Addr} {N : Tab} {A B : Option Addr} {c d : Nat} {hs : Nat → Option Addr × Nat} (h : TabP G q N A c B d hs) : rd G q = some (.slice A N.cols.length c) ∧ rd G (pa q 1) = some (.slice B N.rows.length d) := ⟨h.f0, h.f1⟩
/-- rows of a table as long as it has columns. -/
def RowL (N : Tab) : Prop := ∀ i, i < N.rows.length → (N.rows.getD i []).length = N.cols.length
theorem impl_semiJoin_fn1_ok {G : GH} {q q' r : Option Addr} {a b : Tab} {A B A' B' D D' : Option Addr} {c d c' d' e e' : Nat} {hs hs' : Nat → Option Addr × Nat} {x y : List Int} (h : TabP G q a A c B d hs) (h' : TabP G q' b A' c' B' d' hs') (hr : rd G r = some (.slice D x.length e)) (hx : IntS G D e x) (hy : IntS G D' e' y)
    (hl : a.cols.length < 2 ^ 30) (hl' : b.cols.length < 2 ^ 30) (hxl : x.length = a.cols.length) (hyl : y.length = b.cols.length) {K : Value → GH → Prop}
    (hk : ∀ z : Bool, (z = true ↔ FitP a.cols b.cols x y) → K (.bool z) G) : GC Tryz.prog 189 [.slice D' y.length e', .pointer q, .pointer q', .pointer r] G K := by
  refine c_impl_semiJoin_fn1_i (by simp) ?_
  simp (maxSteps := 300000) (disch := omega) only [gs, gs2, gs3, gs4, ↓reduceIte, Nat.reduceEqDiff, Int.reduceToNat, Nat.reduceMul, Nat.reduceAdd, Nat.reduceBEq, isLd, h.f0, h.f1, h'.f0, h'.f1, hr]
  refine impl_fit_ok (a := a) (b := b) (B := B) (d := d) (B' := B') (d' := d') h.cols h'.cols hx hy hl hl' hxl hyl fun z hz => ?_
  simp (maxSteps := 300000) (disch := omega) only [gs, gs2, gs3, gs4, ↓reduceIte, Nat.reduceEqDiff, Int.reduceToNat, Nat.reduceMul, Nat.reduceAdd, Nat.reduceBEq, isLd]
  exact hk z hz
theorem srt_perm {xs ys : List (List Int)} (h : xs.Perm ys) : srt xs = srt ys := asc_unique (srt_asc xs) (srt_asc ys) fun z => by rw [srt_mem, srt_mem, h.mem_iff]
theorem CompactFunc_nil_ok {G : GH} {p : Option Addr} {c : Nat} {f : Value} {K : Value → GH → Prop} (hk : K (.slice p 0 c) G) : GC Tryz.prog 187 [.slice p 0 c, f] G K := by
  refine c_slices_CompactFunc_SS_int64_int64_i (by simp) ?_
  simp (maxSteps := 300000) (disch := omega) only [gs, gs2, gs3, gs4, ↓reduceIte, Nat.reduceEqDiff, Int.reduceToNat, Nat.reduceMul, Nat.reduceAdd, Nat.reduceBEq, isLd, show (((0 : Nat) : Int) < 2) = True from eq_true (by decide)]
  exact hk
theorem SortFunc_some_ok' {G : GH} {b c n : Nat} {E : List (Value × List Int)} {rest : List Value} (he : n = E.length) (h0 : 0 < E.length) (hb : G b = some ⟨E.map (·.1) ++ rest, true⟩) (hE : ∀ e ∈ E, RowV G b e) (hn : E.length < 2 ^ 40) {K : Value → GH → Prop}
    (hk : ∀ E' : List (Value × List Int), E'.Perm E → Wk (E'.map (·.2)) → K (.tuple #[]) (put G b ⟨E'.map (·.1) ++ rest, true⟩)) :
    GC Tryz.prog 186 [.slice (some ⟨b, 0, none⟩) n c, .func (.func 180) #[] #[]] G K := by
  subst he; exact SortFunc_some_ok h0 hb hE hn hk
theorem CompactFunc_ok' {H G : GH} {b c n : Nat} {f : Value} {E : List (Value × List Int)} {r : List Value} (he : n = E.length) (hb : G b = some ⟨E.map (·.1) ++ r, true⟩) (hs : Sub H G) (hHb : H b = none) (hl : E.length < 2 ^ 30) (hc : E.length + r.length = c) (h1 : ∀ e ∈ E, oneB e.1 = true)
    (hf : ∀ G', Sub H G' → ∀ e ∈ E, ∀ e' ∈ E, ∀ (K : Value → GH → Prop), K (.bool (decide (e.2 = e'.2))) G' → gCl Tryz.prog f [e.1, e'.1] G' K) {K : Value → GH → Prop}
    (hk : ∀ G' r', Sub H G' → G' b = some ⟨(ddE E).map (·.1) ++ r', true⟩ → (ddE E).length + r'.length = c → K (.slice (some ⟨b, 0, none⟩) (ddE E).length c) G') : GC Tryz.prog 187 [.slice (some ⟨b, 0, none⟩) n c, f] G K := by
  subst he; exact CompactFunc_ok hb hs hHb hl hc h1 hf hk
/-- rows of one's own, laid in their order. -/
theorem impl_sortedRows_ok {G : GH} {Z : Option Addr} {z : Nat} {hs : Nat → Option Addr × Nat} {xss : List (List Int)} (h : OwnR G Z z hs xss) (hl : xss.length < 2 ^ 30) (hl2 : ∀ i, i < xss.length → (xss.getD i []).length < 2 ^ 30) {K : Value → GH → Prop}
    (hk : ∀ G' hs', Sub (wz G Z) G' → OwnR G' Z z hs' (srt xss) → (∀ i, i < (srt xss).length → ∃ j, j < xss.length ∧ hs' i = hs j) → K (.slice Z (srt xss).length z) G') : GC Tryz.prog 108 [.slice Z xss.length z] G K := by
  refine c_impl_sortedRows_i (by simp) ?_
  simp (maxSteps := 300000) (disch := omega) only [gs, gs2, gs3, gs4, ↓reduceIte, Nat.reduceEqDiff, Int.reduceToNat, Nat.reduceMul, Nat.reduceAdd, Nat.reduceBEq, isLd]
  by_cases h0 : xss.length = 0
  · have hx : xss = [] := List.length_eq_zero_iff.1 h0
    subst hx
    refine SortFunc_none_ok ?_
    simp (maxSteps := 300000) (disch := omega) only [gs, gs2, gs3, gs4, ↓reduceIte, Nat.reduceEqDiff, Int.reduceToNat, Nat.reduceMul, Nat.reduceAdd, Nat.reduceBEq, isLd]
    refine CompactFunc_nil_ok ?_
    simp (maxSteps := 300000) (disch := omega) only [gs, gs2, gs3, gs4, ↓reduceIte, Nat.reduceEqDiff, Int.reduceToNat, Nat.reduceMul, Nat.reduceAdd, Nat.reduceBEq, isLd]
    exact hk G hs (Sub.wz G Z) h fun i hi => by simp [srt] at hi
  · obtain ⟨E, hEd⟩ : ∃ E : List (Value × List Int), E = (List.range xss.length).map fun i => (Value.slice (hs i).1 (xss.getD i []).length (hs i).2, xss.getD i []) := ⟨_, rfl⟩
    have hEl : E.length = xss.length := by rw [hEd]; simp
    have hE1 : E.map (·.1) = (List.range xss.length).map fun i => Value.slice (hs i).1 (xss.getD i []).length (hs i).2 := by rw [hEd]; simp [Function.comp_def]
    have hE2 : E.map (·.2) = xss := by
      rw [hEd, List.map_map]
      apply List.ext_getElem?
      intro i
      rw [List.getElem?_map]
      by_cases hi : i < xss.length
      · simp [hi, List.getD]
      · simp [hi, List.getElem?_eq_none (show xss.length ≤ i by omega)]
    rcases h.out with ⟨_, _, hz, _⟩ | ⟨b, r, rfl, hb, hlen, hc, hnc⟩
    · exact absurd hz h0
    have hcl : xss.length + r.length = z := by
      rw [List.length_append, List.length_map, List.length_range] at hc; omega
    have hHb : wz G (some ⟨b, 0, none⟩) b = none := Off.wz G _ _ rfl
    have hof : ∀ e ∈ E, ∃ i, i < xss.length ∧ e = (Value.slice (hs i).1 (xss.getD i []).length (hs i).2, xss.getD i []) := fun e he => by
      rw [hEd] at he
      obtain ⟨i, hi, rfl⟩ := List.mem_map.1 he
      exact ⟨i, List.mem_range.1 hi, rfl⟩
    have hrow : ∀ e ∈ E, ∃ A d, e.1 = .slice A e.2.length d ∧ IntS (wz G (some ⟨b, 0, none⟩)) A d e.2 ∧ (∀ a, A = some a → a.block ≠ b) ∧ e.2.length < 2 ^ 30 := fun e he => by
      obtain ⟨i, hi, rfl⟩ := hof e he
      exact ⟨_, _, rfl, ((h.row i hi).wz (h.ne i hi)).ints, fun a ha => h.ne i hi a _ ha rfl, hl2 i hi⟩
    refine SortFunc_some_ok' hEl.symm (by omega) (by rw [hE1]; exact hb) (fun e he => ?_) (by omega) fun E' hp hw => ?_
    · obtain ⟨A, d, h1, h2, h3, h4⟩ := hrow e he
      exact ⟨A, d, h1, h2.sub (Sub.wz _ _), h3, by omega⟩
    simp (maxSteps := 300000) (disch := omega) only [gs, gs2, gs3, gs4, ↓reduceIte, Nat.reduceEqDiff, Int.reduceToNat, Nat.reduceMul, Nat.reduceAdd, Nat.reduceBEq, isLd]
    have hsub : Sub (wz G (some ⟨b, 0, none⟩)) (put G b ⟨E'.map (·.1) ++ r, true⟩) := (Sub.wz G _).skip hHb
    have hE'l : E'.length = xss.length := by rw [hp.length_eq, hEl]
    refine CompactFunc_ok' hE'l.symm (put_same _ _ _) hsub hHb (by omega) (by omega) (fun e he => ?_) (fun G' hG e he e' he' K' hk' => ?_) fun G' r' hG' hb' hc' => ?_
    · obtain ⟨A, d, h1, _⟩ := hrow e (hp.mem_iff.1 he)
      rw [h1]; rfl
    · obtain ⟨A, d, h1, h2, h3, h4⟩ := hrow e (hp.mem_iff.1 he)
      obtain ⟨B, d', k1, k2, k3, k4⟩ := hrow e' (hp.mem_iff.1 he')
      rw [h1, k1, gCl_fn]
      exact slices_Equal_int64_ok (h2.sub hG) (k2.sub hG) (by omega) hk'
    have hmap : (ddE E').map (·.2) = srt xss := by rw [ddE_map, dd_srt hw, ← hE2]; exact srt_perm (hp.map _)
    have hlen2 : (ddE E').length = (srt xss).length := by rw [← hmap, List.length_map]
    simp (maxSteps := 300000) (disch := omega) only [gs, gs2, gs3, gs4, ↓reduceIte, Nat.reduceEqDiff, Int.reduceToNat, Nat.reduceMul, Nat.reduceAdd, Nat.reduceBEq, isLd]
    have hix : ∀ p, ∃ i, p < (ddE E').length → i < xss.length ∧ (ddE E')[p]? = some (Value.slice (hs i).1 (xss.getD i []).length (hs i).2, xss.getD i []) := fun p => by
      by_cases hp' : p < (ddE E').length
      · obtain ⟨i, hi, he⟩ := hof _ (hp.mem_iff.1 (ddE_mem (List.getElem_mem hp')))
        exact ⟨i, fun _ => ⟨hi, by rw [List.getElem?_eq_getElem hp', he]⟩⟩
      · exact ⟨0, fun q => absurd q hp'⟩
    obtain ⟨idx, hidx⟩ := Classical.skolem.1 hix
    have hsr : ∀ p, p < (srt xss).length → (srt xss).getD p [] = xss.getD (idx p) [] := fun p hp' => by
      rw [← hmap, List.getD, List.getElem?_map, (hidx p (by omega)).2]; rfl
    rw [hlen2]
    refine hk G' (fun p => hs (idx p)) hG' ⟨.inr ⟨b, r', rfl, ?_, by simp, by simp; omega, by omega⟩, fun p hp' => ?_, fun p hp' => ?_, fun p q hp' hq' hpq => ?_⟩ fun p hp' => ⟨idx p, (hidx p (by omega)).1, rfl⟩
    · rw [hb']
      congr 3
      apply List.ext_getElem?
      intro p
      rw [List.getElem?_map, List.getElem?_map]
      by_cases hp' : p < (srt xss).length
      · rw [(hidx p (by omega)).2, List.getElem?_range hp']
        simp only [Option.map_some, hsr p hp']
      · rw [List.getElem?_eq_none (by omega), List.getElem?_eq_none (by simpa using hp')]; rfl
    · rw [hsr p hp']
      exact ((h.row _ (hidx p (by omega)).1).wz (h.ne _ (hidx p (by omega)).1)).sub hG'
    · exact h.ne _ (hidx p (by omega)).1
    · refine h.inj _ _ (hidx p (by omega)).1 (hidx q (by omega)).1 fun e => ?_
      have ep := hsr p hp'
      have eq := hsr q hq'
      rw [← e, ← ep] at eq
      have ha := List.pairwise_iff_getElem.1 (srt_asc xss)
      have gp : (srt xss).getD p [] = (srt xss)[p] := by simp [List.getD, hp']
      have gq : (srt xss).getD q [] = (srt xss)[q] := by simp [List.getD, hq']
      rw [gp, gq] at eq
      rcases Nat.lt_or_gt_of_ne hpq with k | k
      · have := ha p q hp' hq' k; rw [eq, lexC_self] at this; omega
      · have := ha q p hq' hp' k; rw [eq, lexC_self] at this; omega
theorem Own.rest {G G' : GH} {A : Option Addr} {c sz n : Nat} {cs : List Value} (h : Own G' A c cs sz n) (o : Off G A) : Own (Gh.rest G G') A c cs sz n := by
  rcases h with h | ⟨b, r, rfl, hb, h⟩
  · exact .inl h
  · exact .inr ⟨b, r, rfl, rest_some.2 ⟨o _ rfl, hb⟩, h⟩
theorem OwnR.rest {G G' : GH} {B : Option Addr} {d : Nat} {hs : Nat → Option Addr × Nat} {xss : List (List Int)} (h : OwnR G' B d hs xss) (o : Off G B) (oR : ∀ i, i < xss.length → Off G (hs i).1) : OwnR (Gh.rest G G') B d hs xss := ⟨h.out.rest o, fun i hi => (h.row i hi).rest (oR i hi), h.ne, h.inj⟩
theorem semi_take {a : Tab} {P : List Int → Bool} {k : Nat} (hk : k < a.rows.length) : (a.rows.take (k + 1)).filter P = if P (a.rows.getD k []) = true then (a.rows.take k).filter P ++ [a.rows.getD k []] else (a.rows.take k).filter P := by
  rw [List.take_succ_eq_append_getElem hk, List.filter_append]
  have e : a.rows.getD k [] = a.rows[k] := by simp [List.getD, hk]
  rw [e]
  by_cases h : P a.rows[k] = true
  · rw [if_pos h]; simp [h]
  · rw [if_neg h]; simp [h]
/-- the table that is made, when it is taken out of its box. -/
theorem SemG.newT {G H G' G'' : GH} {b5 c1 z : Nat} {A1 Z : Option Addr} {hs : Nat → Option Addr × Nat} {N : Tab} (h : SemG H G' b5 A1 N.cols.length c1 Z z hs N.rows) (s : Sub G H) (hA : Own H A1 c1 (N.cols.map I64) 1 N.cols.length) (oA : Off G A1)
    (s' : Sub G G'') {S : Nat → Prop} (u : Oth S G' G'') (uA : ∀ a, A1 = some a → ¬ S a.block) (uH : ∀ x, S x → H x ≠ none) : NewT G G'' N A1 c1 Z z hs := by
  have oH : ∀ {A : Option Addr}, Off (put H b5 ⟨[], true⟩) A → Off H A := fun o => o.mono (Sub.put h.nb _)
  have oS : ∀ {A : Option Addr}, Off (put H b5 ⟨[], true⟩) A → ∀ a, A = some a → ¬ S a.block := fun o a ha y => uH _ y (oH o a ha)
  have key : ∀ {A : Option Addr}, Off (put H b5 ⟨[], true⟩) A → ∀ a b, A1 = some a → A = some b → a.block ≠ b.block := fun o a b ha hb y => by
    have := oH o b hb
    rw [← y] at this
    exact own_ne hA a ha this
  exact ⟨s', ⟨((hA.sub h.low).oth u uA).rest oA, (h.own.oth u (oS h.oZ) fun i hi => oS (h.oR i hi)).rest ((oH h.oZ).mono s) fun i hi => (oH (h.oR i hi)).mono s, key h.oZ, fun i hi => key (h.oR i hi)⟩⟩
open Classical in
theorem impl_semiJoin_ok {G : GH} {a b : Tab} {A B A' B' : Option Addr} {c d c' d' : Nat} {hs hs' : Nat → Option Addr × Nat} (h : IntS G A c a.cols) (hr : RowS G B d hs a.rows) (h' : IntS G A' c' b.cols) (hr' : RowS G B' d' hs' b.rows) (hl : a.cols.length < 2 ^ 30) (hl' : b.cols.length < 2 ^ 30) (ra : RowL a) (rb : RowL b) (na : a.rows.length < 2 ^ 20) (nb : b.rows.length < 2 ^ 20)
    {K : Value → GH → Prop} (hk : ∀ G' X x Y y hs'', NewT G G' (semiT a b) X x Y y hs'' → K (tabV (semiT a b) X x Y y) G') : GC Tryz.prog 109 [tabV a A c B d, tabV b A' c' B' d'] G K := by
  refine GC_drop (c_impl_semiJoin_i (by simp) ?_)
  unfold tabV tabC
  simp (maxSteps := 300000) (disch := omega) only [gs, gs2, gs3, gs4, ↓reduceIte, Nat.reduceEqDiff, Int.reduceToNat, Nat.reduceMul, Nat.reduceAdd, Nat.reduceBEq, isLd]
  intro b2 hb2
  have p2 := TabP.box hb2 h hr
  have s2 := Sub.put hb2 ⟨tabC a A c B d, true⟩
  unfold tabC at p2 s2
  simp (maxSteps := 300000) (disch := omega) only [gs, gs2, gs3, gs4, ↓reduceIte, Nat.reduceEqDiff, Int.reduceToNat, Nat.reduceMul, Nat.reduceAdd, Nat.reduceBEq, isLd]
  intro b3 hb3
  have p3 := TabP.box hb3 (h'.sub s2) (hr'.sub s2)
  have s3 := Sub.put hb3 ⟨tabC b A' c' B' d', true⟩
  unfold tabC at p3 s3
  have p2 := p2.sub s3
  have s1 := s2.trans s3
  revert s1 p2 p3
  generalize put (put G b2 ⟨[.slice A a.cols.length c, .slice B a.rows.length d], true⟩) b3 ⟨[.slice A' b.cols.length c', .slice B' b.rows.length d'], true⟩ = G1
  intro p3 p2 s1
  clear hb2 hb3 s2 s3
  simp (maxSteps := 300000) (disch := omega) only [gs, gs2, gs3, gs4, ↓reduceIte, Nat.reduceEqDiff, Int.reduceToNat, Nat.reduceMul, Nat.reduceAdd, Nat.reduceBEq, isLd]
  intro b4 hb4
  have s4 := Sub.put hb4 ⟨[.slice none 0 0, .slice none 0 0], true⟩
  have g4 := put_same G1 b4 ⟨[.slice none 0 0, .slice none 0 0], true⟩
  have p2 := p2.sub s4
  have p3 := p3.sub s4
  have s1' := s1.trans s4
  have n4 : G b4 = none := s1.none hb4
  revert s1' p2 p3 g4
  generalize put G1 b4 ⟨[.slice none 0 0, .slice none 0 0], true⟩ = G2
  intro g4 p2 p3 s1'
  clear s4
  simp (maxSteps := 300000) (disch := omega) only [gs, gs2, gs3, gs4, ↓reduceIte, Nat.reduceEqDiff, Int.reduceToNat, Nat.reduceMul, Nat.reduceAdd, Nat.reduceBEq, isLd, p2.f0, p2.f1, p3.f0, p3.f1]
  refine slices_Clone_ok p2.cols hl fun H A1 c1 hN1 => ?_
  have p2 := p2.sub hN1.sub
  have p3 := p3.sub hN1.sub
  have g4' := hN1.sub _ _ g4
  have hbl : bldV [Value.slice none 0 0, Value.slice none 0 0] [(0, 1, Value.slice A1 a.cols.length c1)] = some [Value.slice A1 a.cols.length c1, .slice none 0 0] := rfl
  simp (maxSteps := 300000) (disch := omega) only [gs, gs2, gs3, gs4, ↓reduceIte, Nat.reduceEqDiff, Int.reduceToNat, Nat.reduceMul, Nat.reduceAdd, Nat.reduceBEq, isLd, hbl]
  intro b5 hb5
  simp (maxSteps := 300000) (disch := omega) only [gs, gs2, gs3, gs4, ↓reduceIte, Nat.reduceEqDiff, Int.reduceToNat, Nat.reduceMul, Nat.reduceAdd, Nat.reduceBEq, isLd]
  refine st_fresh (vs := [.slice A1 a.cols.length c1, .slice none 0 0]) rfl rfl rfl (by intro v hv; simp at hv; rcases hv with rfl | rfl <;> rfl) ?_
  have hX0 : SemG H (put H b5 ⟨[.slice A1 a.cols.length c1, .slice none 0 0], true⟩) b5 A1 a.cols.length c1 none 0 (fun _ => (none, 0)) [] := ⟨hb5, Sub.refl _, OwnR.nil _ _, Off.nil _, fun i hi => by simp at hi⟩
  have sH := s1'.trans hN1.sub
  have hA1 : Own H A1 c1 (a.cols.map I64) 1 a.cols.length := hN1.fresh
  have oA1 : Off G A1 := hN1.off.mono s1'
  have n41 : ∀ x, A1 = some x → x.block ≠ b4 := fun x hx y => by have := hN1.off x hx; rw [y, g4] at this; cases this
  clear hN1 g4
  generalize put H b5 ⟨[.slice A1 a.cols.length c1, .slice none 0 0], true⟩ = G3 at hX0 ⊢
  have fb : ∀ {G' : GH} {q : Nat} {N : Tab} {A B : Option Addr} {c d : Nat} {hs : Nat → Option Addr × Nat}, TabP G' (some ⟨q, 0, none⟩) N A c B d hs → rd G' (some ⟨q, 1, none⟩) = some (.slice B N.rows.length d) := fun h => by
    have := h.f1; rwa [pa_mk] at this
  have q2 := p2.sub hX0.low
  simp (maxSteps := 300000) (disch := omega) only [gs, gs2, gs3, gs4, ↓reduceIte, Nat.reduceEqDiff, Int.reduceToNat, Nat.reduceMul, Nat.reduceAdd, Nat.reduceBEq, isLd, q2.f0, fb q2]
  refine gLoop_intro (fun m T G' => ∃ (k : Nat) (Z : Option Addr) (z : Nat) (hz : Nat → Option Addr × Nat), T 2 = .pointer (some ⟨b2, 0, none⟩) ∧ T 3 = .pointer (some ⟨b3, 0, none⟩) ∧ T 4 = .pointer (some ⟨b4, 0, none⟩) ∧ T 5 = .pointer (some ⟨b5, 0, none⟩) ∧ T 13 = .slice B a.rows.length d ∧ T 14 = .int .i64 a.rows.length ∧ T 15 = .int .i64 k ∧ m + k = a.rows.length ∧ k ≤ a.rows.length ∧
      SemG H G' b5 A1 a.cols.length c1 Z z hz ((a.rows.take k).filter fun x => decide (∃ y ∈ b.rows, FitP a.cols b.cols x y))) a.rows.length
    ⟨0, none, 0, _, by simp (maxSteps := 300000) (disch := omega) only [gs, gs2, gs3, gs4, ↓reduceIte, Nat.reduceEqDiff, Int.reduceToNat, Nat.reduceMul, Nat.reduceAdd, Nat.reduceBEq, isLd], by simp (maxSteps := 300000) (disch := omega) only [gs, gs2, gs3, gs4, ↓reduceIte, Nat.reduceEqDiff, Int.reduceToNat, Nat.reduceMul, Nat.reduceAdd, Nat.reduceBEq, isLd], by simp (maxSteps := 300000) (disch := omega) only [gs, gs2, gs3, gs4, ↓reduceIte, Nat.reduceEqDiff, Int.reduceToNat, Nat.reduceMul, Nat.reduceAdd, Nat.reduceBEq, isLd], by simp (maxSteps := 300000) (disch := omega) only [gs, gs2, gs3, gs4, ↓reduceIte, Nat.reduceEqDiff, Int.reduceToNat, Nat.reduceMul, Nat.reduceAdd, Nat.reduceBEq, isLd], by simp (maxSteps := 300000) (disch := omega) only [gs, gs2, gs3, gs4, ↓reduceIte, Nat.reduceEqDiff, Int.reduceToNat, Nat.reduceMul, Nat.reduceAdd, Nat.reduceBEq, isLd], by simp (maxSteps := 300000) (disch := omega) only [gs, gs2, gs3, gs4, ↓reduceIte, Nat.reduceEqDiff, Int.reduceToNat, Nat.reduceMul, Nat.reduceAdd, Nat.reduceBEq, isLd], by simp (maxSteps := 300000) (disch := omega) only [gs, gs2, gs3, gs4, ↓reduceIte, Nat.reduceEqDiff, Int.reduceToNat, Nat.reduceMul, Nat.reduceAdd, Nat.reduceBEq, isLd] <;> rfl, by omega, by omega, hX0⟩ ?_
  clear hX0 q2
  rintro m T G' ⟨k, Z, z, hz, e2, e3, e4, e5, e13, e14, e15, hm, hkl, hX⟩
  simp (maxSteps := 300000) (disch := omega) only [gs, gs2, gs3, gs4, ↓reduceIte, Nat.reduceEqDiff, Int.reduceToNat, Nat.reduceMul, Nat.reduceAdd, Nat.reduceBEq, isLd, e2, e3, e4, e5, e13, e14, e15]
  have hlen : ((a.rows.take k).filter fun x => decide (∃ y ∈ b.rows, FitP a.cols b.cols x y)).length ≤ k := Nat.le_trans (List.length_filter_le _ _) (by rw [List.length_take]; omega)
  by_cases hkk : (k : Int) < a.rows.length
  · have q2 := p2.sub hX.low
    have q3 := p3.sub hX.low
    have rk := q2.rows.r k (by omega)
    have hsB := q2.rows.sn (by omega)
    simp (maxSteps := 300000) (disch := omega) only [gs, gs2, gs3, gs4, ↓reduceIte, Nat.reduceEqDiff, Int.reduceToNat, Nat.reduceMul, Nat.reduceAdd, Nat.reduceBEq, isLd, e2, e3, e4, e5, e13, e14, e15, hkk, rk]
    intro b7 hb7
    simp (maxSteps := 300000) (disch := omega) only [gs, gs2, gs3, gs4, ↓reduceIte, Nat.reduceEqDiff, Int.reduceToNat, Nat.reduceMul, Nat.reduceAdd, Nat.reduceBEq, isLd]
    refine st_one (put_same _ _ _) (by simp) rfl ?_
    rw [put_put', List.set_cons_zero]
    have s7 := Sub.put hb7 ⟨[.slice (hs k).1 (a.rows.getD k []).length (hs k).2], true⟩
    have f7 : rd (put G' b7 ⟨[.slice (hs k).1 (a.rows.getD k []).length (hs k).2], true⟩) (some ⟨b7, 0, none⟩) = some (.slice (hs k).1 (a.rows.getD k []).length (hs k).2) := rd_box _ _ _ 0 _ rfl
    have hX7 := hX.up s7
    have nZ7 : ∀ z', Z = some z' → z'.block ≠ b7 := fun z' hz' y => by have := own_ne hX.own.out z' hz'; rw [y, hb7] at this; exact this rfl
    revert s7 f7 hX7
    generalize put G' b7 ⟨[.slice (hs k).1 (a.rows.getD k []).length (hs k).2], true⟩ = G7
    intro s7 f7 hX7
    have q2 := q2.sub s7
    have q3 := q3.sub s7
    have hxl := ra k (by omega)
    simp (maxSteps := 300000) (disch := omega) only [gs, gs2, gs3, gs4, ↓reduceIte, Nat.reduceEqDiff, Int.reduceToNat, Nat.reduceMul, Nat.reduceAdd, Nat.reduceBEq, isLd, e2, e3, e4, e5, e13, e14, e15, fb q3]
    refine slices_ContainsFuncR_ok (fun y => decide (FitP a.cols b.cols (a.rows.getD k []) y)) q3.rows (by omega) (fun i hi K' hk' => ?_) fun zz hzz => ?_
    · simp (maxSteps := 300000) (disch := omega) only [gs, gs2, gs3, gs4, ↓reduceIte, Nat.reduceEqDiff, Int.reduceToNat, Nat.reduceMul, Nat.reduceAdd, Nat.reduceBEq, isLd]
      refine impl_semiJoin_fn1_ok q2 q3 f7 (q2.rows.row k (by omega)) (q3.rows.row i hi) hl hl' hxl (rb i hi) fun w hw => ?_
      have : w = decide (FitP a.cols b.cols (a.rows.getD k []) (b.rows.getD i [])) := Bool.eq_iff_iff.2 (by rw [hw, decide_eq_true_eq])
      subst this
      exact hk'
    · have hzz' : zz = decide (∃ y ∈ b.rows, FitP a.cols b.cols (a.rows.getD k []) y) := Bool.eq_iff_iff.2 (by rw [hzz, decide_eq_true_eq]; simp)
      have htk := semi_take (a := a) (P := fun x => decide (∃ y ∈ b.rows, FitP a.cols b.cols x y)) (k := k) (by omega)
      rw [← hzz'] at htk
      clear hzz hzz'
      cases zz
      · rw [if_neg (by simp)] at htk
        simp (maxSteps := 300000) (disch := omega) only [gs, gs2, gs3, gs4, ↓reduceIte, Nat.reduceEqDiff, Int.reduceToNat, Nat.reduceMul, Nat.reduceAdd, Nat.reduceBEq, isLd, e2, e3, e4, e5, e13, e14, e15]
        exact ⟨m - 1, by omega, G7, Sub.refl _, k + 1, Z, z, hz, rfl, by omega, by omega, by rw [htk]; exact hX7⟩
      · rw [if_pos rfl] at htk
        have f50 : rd G7 (some ⟨b5, 1, none⟩) = some (.slice Z ((a.rows.take k).filter fun x => decide (∃ y ∈ b.rows, FitP a.cols b.cols x y)).length z) := rd_sub hX7.sub (rd_box _ _ _ 1 _ rfl)
        simp (maxSteps := 300000) (disch := omega) only [gs, gs2, gs3, gs4, ↓reduceIte, Nat.reduceEqDiff, Int.reduceToNat, Nat.reduceMul, Nat.reduceAdd, Nat.reduceBEq, isLd, e2, e3, e4, e5, e13, e14, e15, f50, f7]
        refine slices_Clone_ok (q2.rows.row k (by omega)) (by omega) fun G8 D8 d8 hN8 => ?_
        have g50 := rd_sub hN8.sub f50
        have g7 := rd_sub hN8.sub f7
        simp (maxSteps := 300000) (disch := omega) only [gs, gs2, gs3, gs4, ↓reduceIte, Nat.reduceEqDiff, Int.reduceToNat, Nat.reduceMul, Nat.reduceAdd, Nat.reduceBEq, isLd, e2, e3, e4, e5, e13, e14, e15, g50, g7, gBs]
        refine ⟨by intro v hv; simp at hv; subst hv; rfl, fun bs hbs => ?_⟩
        have s9 := Sub.put hbs ⟨[.slice D8 (a.rows.getD k []).length d8], true⟩
        refine ⟨⟨rd_sub s9 g7, rd_sub s9 g50⟩, ?_⟩
        have s79 := hN8.sub.trans s9
        have hDo : ∀ x, D8 = some x → G7 x.block = none := hN8.off
        refine SemG.add (hX7.up s79) (hN8.fresh.sub s9) ((hN8.off.mono hX7.sub).pute) (fun x y hx hy q => ?_) (fun i hi x y hx hy q => ?_) (put_same _ _ _) (by omega) fun G4 Z' z' s4 _ hst => ?_
        · have := own_ne hX7.own.out y hy
          rw [← q, hDo x hx] at this; exact this rfl
        · have := own_ne (hX7.own.row i hi) x hx
          rw [q, hDo y hy] at this; exact this rfl
        · have f74 : rd G4 (some ⟨b7, 0, none⟩) = some (.slice (hs k).1 (a.rows.getD k []).length (hs k).2) := by
            refine rd_sub s4 ?_
            have := rd_sub s9 g7
            simp only [rd] at this ⊢
            rw [wz_ne nZ7]; exact this
          simp (maxSteps := 300000) (disch := omega) only [gs, gs2, gs3, gs4, ↓reduceIte, Nat.reduceEqDiff, Int.reduceToNat, Nat.reduceMul, Nat.reduceAdd, Nat.reduceBEq, isLd, e2, e3, e4, e5, e13, e14, e15, f74]
          refine hst _ fun G5 hs5 hX5 => ?_
          simp (maxSteps := 300000) (disch := omega) only [gs, gs2, gs3, gs4, ↓reduceIte, Nat.reduceEqDiff, Int.reduceToNat, Nat.reduceMul, Nat.reduceAdd, Nat.reduceBEq, isLd, e2, e3, e4, e5, e13, e14, e15]
          exact ⟨m - 1, by omega, G5, Sub.refl _, k + 1, Z', z', hs5, rfl, by omega, by omega, by rw [htk]; exact hX5⟩
  · obtain rfl : k = a.rows.length := by omega
    rw [List.take_length] at hX
    have f50 : rd G' (some ⟨b5, 0, none⟩) = some (.slice A1 a.cols.length c1) := rd_sub hX.sub (rd_box _ _ _ 0 _ rfl)
    have f51 : rd G' (some ⟨b5, 1, none⟩) = some (.slice Z (a.rows.filter fun x => decide (∃ y ∈ b.rows, FitP a.cols b.cols x y)).length z) := rd_sub hX.sub (rd_box _ _ _ 1 _ rfl)
    simp (maxSteps := 300000) (disch := omega) only [gs, gs2, gs3, gs4, ↓reduceIte, Nat.reduceEqDiff, Int.reduceToNat, Nat.reduceMul, Nat.reduceAdd, Nat.reduceBEq, isLd, e2, e3, e4, e5, e13, e14, e15, hkk, f50, f51]
    refine st_many (vs := [.slice A1 a.cols.length c1, .slice Z (a.rows.filter fun x => decide (∃ y ∈ b.rows, FitP a.cols b.cols x y)).length z]) rfl (hX.low _ _ g4') rfl (by simp) (by intro v hv; simp at hv; rcases hv with rfl | rfl <;> rfl) ?_
    simp only [over, List.set_cons_zero, List.set_cons_succ]
    have k0 : rd (put G' b4 ⟨[.slice A1 a.cols.length c1, .slice Z (a.rows.filter fun x => decide (∃ y ∈ b.rows, FitP a.cols b.cols x y)).length z], true⟩) (some ⟨b4, 0, none⟩) = some (.slice A1 a.cols.length c1) := rd_box _ _ _ 0 _ rfl
    have k1 : rd (put G' b4 ⟨[.slice A1 a.cols.length c1, .slice Z (a.rows.filter fun x => decide (∃ y ∈ b.rows, FitP a.cols b.cols x y)).length z], true⟩) (some ⟨b4, 1, none⟩) = some (.slice Z (a.rows.filter fun x => decide (∃ y ∈ b.rows, FitP a.cols b.cols x y)).length z) := rd_box _ _ _ 1 _ rfl
    simp (maxSteps := 300000) (disch := omega) only [gs, gs2, gs3, gs4, ↓reduceIte, Nat.reduceEqDiff, Int.reduceToNat, Nat.reduceMul, Nat.reduceAdd, Nat.reduceBEq, isLd, e4, k0, k1]
    exact ⟨_, Sub.refl _, hk _ _ _ _ _ _ (hX.newT (N := semiT a b) sH hA1 oA1 ((sH.trans hX.low).skip n4) (Oth.put _ _ _) n41 (fun x hx => by subst hx; rw [g4']; simp))⟩
theorem SemG.sorted {H G G' : GH} {b5 n c1 z : Nat} {A1 Z : Option Addr} {hs hs' : Nat → Option Addr × Nat} {xss : List (List Int)} (h : SemG H G b5 A1 n c1 Z z hs xss) (s : Sub (wz G Z) G') (ho : OwnR G' Z z hs' (srt xss))
    (hj : ∀ i, i < (srt xss).length → ∃ j, j < xss.length ∧ hs' i = hs j) {K : Value → GH → Prop} (hK : ∀ G5, SemG H G5 b5 A1 n c1 Z z hs' (srt xss) → K undef G5) : gSt 1 (.pointer (some ⟨b5, 1, none⟩)) (.slice Z (srt xss).length z) G' K := by
  have sw : ∀ {e : Ent}, Sub (put H b5 e) G → Sub (put H b5 e) (wz G Z) := fun {e} s y f hy => by
    rw [wz_ne fun a ha => fun q => by
      have := (h.oZ.pute (e' := e)) a ha
      rw [q, hy] at this; cases this]
    exact s y f hy
  have s5 := (sw h.sub).trans s
  have hbox : G' b5 = some ⟨[.slice A1 n c1, .slice Z xss.length z], true⟩ := s5 _ _ (put_same _ _ _)
  have oR' : ∀ i, i < (srt xss).length → Off (put H b5 ⟨[], true⟩) (hs' i).1 := fun i hi => by
    obtain ⟨j, hj', e⟩ := hj i hi
    rw [e]; exact h.oR j hj'
  refine st_one hbox (by simp) rfl (hK _ ⟨h.nb, fun y f hy => ?_, ho.oth (Oth.put _ _ _) (h.oZ.ne) fun i hi a ha => (oR' i hi).ne a ha, h.oZ, oR'⟩)
  by_cases c : y = b5
  · subst c
    rw [put_same] at hy ⊢
    rw [← hy]; rfl
  · rw [put_ne _ _ c] at hy ⊢
    exact s5 _ _ (by rw [put_ne _ _ c]; exact hy)
/-- a row's cells in some columns. -/
def prj (cs wanted row : List Int) : List Int := wanted.map (cellAt cs row)
theorem prj_len (cs wanted row : List Int) : (prj cs wanted row).length = wanted.length := by simp [prj]
def projT (t : Tab) (wanted : List Int) : Tab := ⟨wanted, srt (t.rows.map (prj t.cols wanted))⟩
theorem map_take {α β : Type} [Inhabited α] {f : α → β} {xs : List α} {k : Nat} {d : α} (hk : k < xs.length) : (xs.take (k + 1)).map f = (xs.take k).map f ++ [f (xs.getD k d)] := by
  rw [List.take_succ_eq_append_getElem hk, List.map_append]; simp [List.getD, hk]
theorem impl_projected_ok {G : GH} {t : Tab} {A B W : Option Addr} {c d w : Nat} {hs : Nat → Option Addr × Nat} {wanted : List Int} (h : IntS G A c t.cols) (hr : RowS G B d hs t.rows) (hw : IntS G W w wanted) (hmem : ∀ v ∈ wanted, v ∈ t.cols) (hl : t.cols.length < 2 ^ 30) (hl2 : wanted.length < 2 ^ 30) (rt : RowL t) (nt : t.rows.length < 2 ^ 20)
    {K : Value → GH → Prop} (hk : ∀ G' X x Y y hs'', NewT G G' (projT t wanted) X x Y y hs'' → K (tabV (projT t wanted) X x Y y) G') : GC Tryz.prog 112 [tabV t A c B d, .slice W wanted.length w] G K := by
  refine GC_drop (c_impl_projected_i (by simp) ?_)
  unfold tabV tabC
  simp (maxSteps := 300000) (disch := omega) only [gs, gs2, gs3, gs4, ↓reduceIte, Nat.reduceEqDiff, Int.reduceToNat, Nat.reduceMul, Nat.reduceAdd, Nat.reduceBEq, isLd]
  intro b2 hb2
  have p2 := TabP.box hb2 h hr
  have s2 := Sub.put hb2 ⟨tabC t A c B d, true⟩
  unfold tabC at p2 s2
  have hw2 := hw.sub s2
  revert s2 p2 hw2
  generalize put G b2 ⟨[.slice A t.cols.length c, .slice B t.rows.length d], true⟩ = G1
  intro p2 s1 hw2
  clear hb2
  simp (maxSteps := 300000) (disch := omega) only [gs, gs2, gs3, gs4, ↓reduceIte, Nat.reduceEqDiff, Int.reduceToNat, Nat.reduceMul, Nat.reduceAdd, Nat.reduceBEq, isLd]
  intro b4 hb4
  have s4 := Sub.put hb4 ⟨[.slice none 0 0, .slice none 0 0], true⟩
  have g4 := put_same G1 b4 ⟨[.slice none 0 0, .slice none 0 0], true⟩
  have p2 := p2.sub s4
  have hw2 := hw2.sub s4
  have s1' := s1.trans s4
  have n4 : G b4 = none := s1.none hb4
  revert s1' p2 hw2 g4
  generalize put G1 b4 ⟨[.slice none 0 0, .slice none 0 0], true⟩ = G2
  intro g4 p2 hw2 s1'
  clear s4
  simp (maxSteps := 300000) (disch := omega) only [gs, gs2, gs3, gs4, ↓reduceIte, Nat.reduceEqDiff, Int.reduceToNat, Nat.reduceMul, Nat.reduceAdd, Nat.reduceBEq, isLd, p2.f0, p2.f1]
  refine slices_Clone_ok hw2 hl2 fun H A1 c1 hN1 => ?_
  have p2 := p2.sub hN1.sub
  have hw2 := hw2.sub hN1.sub
  have g4' := hN1.sub _ _ g4
  have hbl : bldV [Value.slice none 0 0, Value.slice none 0 0] [(0, 1, Value.slice A1 wanted.length c1)] = some [Value.slice A1 wanted.length c1, .slice none 0 0] := rfl
  simp (maxSteps := 300000) (disch := omega) only [gs, gs2, gs3, gs4, ↓reduceIte, Nat.reduceEqDiff, Int.reduceToNat, Nat.reduceMul, Nat.reduceAdd, Nat.reduceBEq, isLd, hbl]
  intro b5 hb5
  simp (maxSteps := 300000) (disch := omega) only [gs, gs2, gs3, gs4, ↓reduceIte, Nat.reduceEqDiff, Int.reduceToNat, Nat.reduceMul, Nat.reduceAdd, Nat.reduceBEq, isLd]
  refine st_fresh (vs := [.slice A1 wanted.length c1, .slice none 0 0]) rfl rfl rfl (by intro v hv; simp at hv; rcases hv with rfl | rfl <;> rfl) ?_
  have hX0 : SemG H (put H b5 ⟨[.slice A1 wanted.length c1, .slice none 0 0], true⟩) b5 A1 wanted.length c1 none 0 (fun _ => (none, 0)) [] := ⟨hb5, Sub.refl _, OwnR.nil _ _, Off.nil _, fun i hi => by simp at hi⟩
  have sH := s1'.trans hN1.sub
  have hA1 : Own H A1 c1 (wanted.map I64) 1 wanted.length := hN1.fresh
  have oA1 : Off G A1 := hN1.off.mono s1'
  have n41 : ∀ x, A1 = some x → x.block ≠ b4 := fun x hx y => by have := hN1.off x hx; rw [y, g4] at this; cases this
  clear hN1 g4
  generalize put H b5 ⟨[.slice A1 wanted.length c1, .slice none 0 0], true⟩ = G3 at hX0 ⊢
  have fb : ∀ {G' : GH} {q : Nat} {N : Tab} {A B : Option Addr} {c d : Nat} {hs : Nat → Option Addr × Nat}, TabP G' (some ⟨q, 0, none⟩) N A c B d hs → rd G' (some ⟨q, 1, none⟩) = some (.slice B N.rows.length d) := fun h => by
    have := h.f1; rwa [pa_mk] at this
  have q2 := p2.sub hX0.low
  simp (maxSteps := 300000) (disch := omega) only [gs, gs2, gs3, gs4, ↓reduceIte, Nat.reduceEqDiff, Int.reduceToNat, Nat.reduceMul, Nat.reduceAdd, Nat.reduceBEq, isLd, q2.f0, fb q2]
  refine gLoop_intro (fun m T G' => ∃ (k : Nat) (Z : Option Addr) (z : Nat) (hz : Nat → Option Addr × Nat), T 1 = .slice W wanted.length w ∧ T 2 = .pointer (some ⟨b2, 0, none⟩) ∧ T 4 = .pointer (some ⟨b4, 0, none⟩) ∧ T 5 = .pointer (some ⟨b5, 0, none⟩) ∧ T 12 = .slice B t.rows.length d ∧ T 13 = .int .i64 t.rows.length ∧ T 14 = .int .i64 k ∧ m + k = t.rows.length ∧ k ≤ t.rows.length ∧
      SemG H G' b5 A1 wanted.length c1 Z z hz ((t.rows.take k).map (prj t.cols wanted))) t.rows.length
    ⟨0, none, 0, _, by simp (maxSteps := 300000) (disch := omega) only [gs, gs2, gs3, gs4, ↓reduceIte, Nat.reduceEqDiff, Int.reduceToNat, Nat.reduceMul, Nat.reduceAdd, Nat.reduceBEq, isLd], by simp (maxSteps := 300000) (disch := omega) only [gs, gs2, gs3, gs4, ↓reduceIte, Nat.reduceEqDiff, Int.reduceToNat, Nat.reduceMul, Nat.reduceAdd, Nat.reduceBEq, isLd], by simp (maxSteps := 300000) (disch := omega) only [gs, gs2, gs3, gs4, ↓reduceIte, Nat.reduceEqDiff, Int.reduceToNat, Nat.reduceMul, Nat.reduceAdd, Nat.reduceBEq, isLd], by simp (maxSteps := 300000) (disch := omega) only [gs, gs2, gs3, gs4, ↓reduceIte, Nat.reduceEqDiff, Int.reduceToNat, Nat.reduceMul, Nat.reduceAdd, Nat.reduceBEq, isLd], by simp (maxSteps := 300000) (disch := omega) only [gs, gs2, gs3, gs4, ↓reduceIte, Nat.reduceEqDiff, Int.reduceToNat, Nat.reduceMul, Nat.reduceAdd, Nat.reduceBEq, isLd], by simp (maxSteps := 300000) (disch := omega) only [gs, gs2, gs3, gs4, ↓reduceIte, Nat.reduceEqDiff, Int.reduceToNat, Nat.reduceMul, Nat.reduceAdd, Nat.reduceBEq, isLd], by simp (maxSteps := 300000) (disch := omega) only [gs, gs2, gs3, gs4, ↓reduceIte, Nat.reduceEqDiff, Int.reduceToNat, Nat.reduceMul, Nat.reduceAdd, Nat.reduceBEq, isLd] <;> rfl, by omega, by omega, hX0⟩ ?_
  clear hX0 q2
  rintro m T G' ⟨k, Z, z, hz, e1, e2, e4, e5, e12, e13, e14, hm, hkl, hX⟩
  simp (maxSteps := 300000) (disch := omega) only [gs, gs2, gs3, gs4, ↓reduceIte, Nat.reduceEqDiff, Int.reduceToNat, Nat.reduceMul, Nat.reduceAdd, Nat.reduceBEq, isLd, e1, e2, e4, e5, e12, e13, e14]
  have hlen : ((t.rows.take k).map (prj t.cols wanted)).length = k := by rw [List.length_map, List.length_take]; omega
  by_cases hkk : (k : Int) < t.rows.length
  · have q2 := p2.sub hX.low
    have hw3 := hw2.sub hX.low
    have rk := q2.rows.r k (by omega)
    have hsB := q2.rows.sn (by omega)
    have htk : (t.rows.take (k + 1)).map (prj t.cols wanted) = (t.rows.take k).map (prj t.cols wanted) ++ [prj t.cols wanted (t.rows.getD k [])] := map_take (by omega)
    have f50 : rd G' (some ⟨b5, 1, none⟩) = some (.slice Z ((t.rows.take k).map (prj t.cols wanted)).length z) := rd_sub hX.sub (rd_box _ _ _ 1 _ rfl)
    simp (maxSteps := 300000) (disch := omega) only [gs, gs2, gs3, gs4, ↓reduceIte, Nat.reduceEqDiff, Int.reduceToNat, Nat.reduceMul, Nat.reduceAdd, Nat.reduceBEq, isLd, e1, e2, e4, e5, e12, e13, e14, hkk, rk, f50, q2.f0]
    refine impl_project_ok q2.cols (q2.rows.row k (by omega)) hw3 hmem (rt k (by omega)) hl hl2 fun G8 D8 d8 hN8 => ?_
    have g50 := rd_sub hN8.sub f50
    have g20 := rd_sub hN8.sub q2.f0
    simp (maxSteps := 300000) (disch := omega) only [gs, gs2, gs3, gs4, ↓reduceIte, Nat.reduceEqDiff, Int.reduceToNat, Nat.reduceMul, Nat.reduceAdd, Nat.reduceBEq, isLd, e1, e2, e4, e5, e12, e13, e14, g50, g20, gBs]
    refine ⟨by intro v hv; simp at hv; subst hv; rfl, fun bs hbs => ?_⟩
    have s9 := Sub.put hbs ⟨[.slice D8 wanted.length d8], true⟩
    refine ⟨⟨rd_sub s9 g20, rd_sub s9 g50⟩, ?_⟩
    have s79 := hN8.sub.trans s9
    have hDo : ∀ x, D8 = some x → G' x.block = none := hN8.off
    have hF : Own G8 D8 d8 ((prj t.cols wanted (t.rows.getD k [])).map I64) 1 (prj t.cols wanted (t.rows.getD k [])).length := hN8.fresh.cast rfl (prj_len _ _ _).symm
    refine SemG.add (x := prj t.cols wanted (t.rows.getD k [])) (hX.up s79) (hF.sub s9) ((hN8.off.mono hX.sub).pute) (fun x y hx hy q => ?_) (fun i hi x y hx hy q => ?_) (by rw [prj_len]; exact put_same _ _ _) (by omega) fun G4 Z' z' s4 sH4 hst => ?_
    · have := own_ne hX.own.out y hy
      rw [← q, hDo x hx] at this; exact this rfl
    · have := own_ne (hX.own.row i hi) x hx
      rw [q, hDo y hy] at this; exact this rfl
    · have f24 := rd_sub sH4 p2.f0
      simp (maxSteps := 300000) (disch := omega) only [gs, gs2, gs3, gs4, ↓reduceIte, Nat.reduceEqDiff, Int.reduceToNat, Nat.reduceMul, Nat.reduceAdd, Nat.reduceBEq, isLd, e1, e2, e4, e5, e12, e13, e14, f24]
      refine hst _ fun G5 hs5 hX5 => ?_
      simp (maxSteps := 300000) (disch := omega) only [gs, gs2, gs3, gs4, ↓reduceIte, Nat.reduceEqDiff, Int.reduceToNat, Nat.reduceMul, Nat.reduceAdd, Nat.reduceBEq, isLd, e1, e2, e4, e5, e12, e13, e14]
      exact ⟨m - 1, by omega, G5, Sub.refl _, k + 1, Z', z', hs5, rfl, by omega, by omega, by rw [htk]; exact hX5⟩
  · obtain rfl : k = t.rows.length := by omega
    rw [List.take_length] at hX hlen
    have f51 : rd G' (some ⟨b5, 1, none⟩) = some (.slice Z (t.rows.map (prj t.cols wanted)).length z) := rd_sub hX.sub (rd_box _ _ _ 1 _ rfl)
    simp (maxSteps := 300000) (disch := omega) only [gs, gs2, gs3, gs4, ↓reduceIte, Nat.reduceEqDiff, Int.reduceToNat, Nat.reduceMul, Nat.reduceAdd, Nat.reduceBEq, isLd, e1, e2, e4, e5, e12, e13, e14, hkk, f51]
    refine impl_sortedRows_ok hX.own (by omega) (fun i hi => ?_) fun G6 hs6 s6 hO6 hj6 => ?_
    · rw [hlen] at hi
      simp [List.getD, hi, prj]; omega
    simp (maxSteps := 300000) (disch := omega) only [gs, gs2, gs3, gs4, ↓reduceIte, Nat.reduceEqDiff, Int.reduceToNat, Nat.reduceMul, Nat.reduceAdd, Nat.reduceBEq, isLd, e1, e2, e4, e5, e12, e13, e14]
    refine hX.sorted s6 hO6 hj6 fun G7 hX7 => ?_
    have f50 : rd G7 (some ⟨b5, 0, none⟩) = some (.slice A1 wanted.length c1) := rd_sub hX7.sub (rd_box _ _ _ 0 _ rfl)
    have f51 : rd G7 (some ⟨b5, 1, none⟩) = some (.slice Z (srt (t.rows.map (prj t.cols wanted))).length z) := rd_sub hX7.sub (rd_box _ _ _ 1 _ rfl)
    simp (maxSteps := 300000) (disch := omega) only [gs, gs2, gs3, gs4, ↓reduceIte, Nat.reduceEqDiff, Int.reduceToNat, Nat.reduceMul, Nat.reduceAdd, Nat.reduceBEq, isLd, e1, e2, e4, e5, e12, e13, e14, f50, f51]
    refine st_many (vs := [.slice A1 wanted.length c1, .slice Z (srt (t.rows.map (prj t.cols wanted))).length z]) rfl (hX7.low _ _ g4') rfl (by simp) (by intro v hv; simp at hv; rcases hv with rfl | rfl <;> rfl) ?_
    simp only [over, List.set_cons_zero, List.set_cons_succ]
    have k0 : rd (put G7 b4 ⟨[.slice A1 wanted.length c1, .slice Z (srt (t.rows.map (prj t.cols wanted))).length z], true⟩) (some ⟨b4, 0, none⟩) = some (.slice A1 wanted.length c1) := rd_box _ _ _ 0 _ rfl
    have k1 : rd (put G7 b4 ⟨[.slice A1 wanted.length c1, .slice Z (srt (t.rows.map (prj t.cols wanted))).length z], true⟩) (some ⟨b4, 1, none⟩) = some (.slice Z (srt (t.rows.map (prj t.cols wanted))).length z) := rd_box _ _ _ 1 _ rfl
    simp (maxSteps := 300000) (disch := omega) only [gs, gs2, gs3, gs4, ↓reduceIte, Nat.reduceEqDiff, Int.reduceToNat, Nat.reduceMul, Nat.reduceAdd, Nat.reduceBEq, isLd, e4, k0, k1]
    exact ⟨_, Sub.refl _, hk _ _ _ _ _ _ (hX7.newT (N := projT t wanted) sH hA1 oA1 ((sH.trans hX7.low).skip n4) (Oth.put _ _ _) n41 (fun x hx => by subst hx; rw [g4']; simp))⟩
theorem Sub.wz_mono {G G' : GH} {Z : Option Addr} (s : Sub G G') : Sub (Gh.wz G Z) (Gh.wz G' Z) := fun y e h => by
  unfold Gh.wz at h ⊢
  split at h
  · cases h
  · next c => rw [if_neg c]; exact s y e h
def old (hs : Nat → Option Addr × Nat) (xss : List (List Int)) (i : Nat) : Value × List Int := (.slice (hs i).1 (xss.getD i []).length (hs i).2, xss.getD i [])
/-- rows taken from a list, with a new one among them. -/
structure PutI (G G' : GH) (Z : Option Addr) (z : Nat) (hs : Nat → Option Addr × Nat) (xss : List (List Int)) (x : List Int) (E : List (Value × List Int)) : Prop where
  sub : Sub G G'
  off : Off G Z
  own : Own G' Z z (E.map (·.1)) 1 E.length
  ent : ∀ e ∈ E, (∃ i, i < xss.length ∧ e = old hs xss i) ∨ ∃ D d, e = (.slice D x.length d, x) ∧ Off G D ∧ Own (wz G' Z) D d (x.map I64) 1 x.length
theorem PutI.up {G G' G'' : GH} {Z : Option Addr} {z : Nat} {hs : Nat → Option Addr × Nat} {xss : List (List Int)} {x : List Int} {E : List (Value × List Int)} (h : PutI G G' Z z hs xss x E) (s : Sub G' G'') : PutI G G'' Z z hs xss x E :=
  ⟨h.sub.trans s, h.off, h.own.sub s, fun e he => (h.ent e he).imp id fun ⟨D, d, a, b, c⟩ => ⟨D, d, a, b, c.sub (Sub.wz_mono s)⟩⟩
theorem PutI.push {G G' : GH} {Z : Option Addr} {z bs : Nat} {hs : Nat → Option Addr × Nat} {xss : List (List Int)} {x : List Int} {E : List (Value × List Int)} {e : Value × List Int} (h : PutI G G' Z z hs xss x E)
    (hv : (∃ i, i < xss.length ∧ e = old hs xss i) ∨ ∃ D d, e = (.slice D x.length d, x) ∧ Off G D ∧ Own G' D d (x.map I64) 1 x.length ∧ ∀ a b, D = some a → Z = some b → a.block ≠ b.block)
    (hb : G' bs = some ⟨[e.1], true⟩) (hl : E.length < 2 ^ 30) {K : Value → GH → Prop} (hK : ∀ G4 Z' z', PutI G G4 Z' z' hs xss x (E ++ [e]) → K (.slice Z' (E.length + 1) z') G4) :
    gAp 1 24 [.slice none 0 0] (.slice Z E.length z) (.slice (some ⟨bs, 0, none⟩) 1 1) G' K := by
  have h1 : oneB e.1 = true := by
    rcases hv with ⟨i, _, rfl⟩ | ⟨D, d, rfl, _⟩ <;> rfl
  refine ap_own h.own (Own.blk (n := 1) (sz := 1) hb rfl).cells (by rfl) (by intro v hv; simp at hv; subst hv; exact h1) rfl (by omega) (by omega) (by omega) fun G4 Z' z' hO keep => ?_
  obtain ⟨s4, o4⟩ := keep _ (Sub.wz G' Z) (Off.wz G' Z)
  obtain ⟨s0, o0⟩ := keep G h.sub h.off
  have key : ∀ {D : Option Addr} {d sz n : Nat} {cs : List Value}, Own (wz G' Z) D d cs sz n → Own (wz G4 Z') D d cs sz n := fun hw => (hw.sub s4).wz fun a b ha hb q => by
    have h1 := own_ne hw a ha
    have h2 := o4 b hb
    rw [← q] at h2; exact h1 h2
  refine hK G4 Z' z' ⟨s0, o0, hO.cast (by simp) (by simp), fun e' he' => ?_⟩
  rcases List.mem_append.1 he' with he' | he'
  · exact (h.ent e' he').imp id fun ⟨D, d, a, b, c⟩ => ⟨D, d, a, b, key c⟩
  · rw [List.mem_singleton] at he'
    subst he'
    exact hv.imp id fun ⟨D, d, a, b, c, n⟩ => ⟨D, d, a, b, key (c.wz n)⟩
def VB : Value → Option Addr × Nat
  | .slice A _ d => (A, d)
  | _ => (none, 0)

end Go.Proofs.YtanpmilodaejpaaGreat.Gh
