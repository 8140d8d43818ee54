/- What the functions that the law FnTrees reaches return, and the law; it stands under no condition. -/
import Derived.Test.YtmlkgpoakkgjbaaYFnTreesa
namespace Go.Proofs.Ytmlkgpoakkgjbaa.Gh
open Go Go.RowKit Go.Proofs
set_option linter.unusedVariables false
set_option linter.unusedSimpArgs false
set_option maxHeartbeats 4000000

theorem st_one {G : GH} {b o : Nat} {cs : List Value} {v : Value} {K : Value → GH → Prop} (hb : G b = some ⟨cs, true⟩) (ho : o < cs.length) (h1 : oneB v = true) (hk : K undef (put G b ⟨cs.set o v, true⟩)) : gSt 1 (.pointer (some ⟨b, o, none⟩)) v G K := by
  have hc : v.cells = #[v] := by cases v <;> first | rfl | simp [oneB] at h1
  refine ⟨b, o, cs, rfl, hb, by rw [hc]; rfl, by omega, ?_, ?_⟩
  · rw [hc]; intro u hu; simp at hu; subst hu; exact h1
  · rw [hc]; exact hk
theorem zc_one (z : Value) (n : Nat) : zc [z] n = List.replicate n z := by
  apply List.ext_getElem
  · simp [zc]
  · intro i h1 h2; simp [zc, Nat.mod_one, List.getD]
/-- the place of the first element that meets p, or -1. -/
def idxI (p : Int → Bool) (xs : List Int) : Int := match xs.findIdx? p with | some i => i | none => -1
theorem idxI_none {p : Int → Bool} {xs : List Int} (h : ∀ i, i < xs.length → p (xs.getD i 0) = false) : idxI p xs = -1 := by
  have : xs.findIdx? p = none := by
    rw [List.findIdx?_eq_none_iff]
    intro x hx
    obtain ⟨i, hi, rfl⟩ := List.getElem_of_mem hx
    simpa [List.getD, hi] using h i hi
  simp [idxI, this]
theorem idxI_some {p : Int → Bool} {xs : List Int} {k : Nat} (hk : k < xs.length) (hp : p (xs.getD k 0) = true) (h : ∀ i, i < k → p (xs.getD i 0) = false) : idxI p xs = k := by
  have : xs.findIdx? p = some k := by
    rw [List.findIdx?_eq_some_iff_getElem]
    refine ⟨hk, by simpa [List.getD, hk] using hp, fun j hj => ?_⟩
    have := h j hj
    simpa [List.getD, show j < xs.length by omega] using this
  simp [idxI, this]
theorem slices_IndexFunc_ok {G : GH} {A : Option Addr} {c : Nat} {xs : List Int} {f : Value} (p : Int → Bool) (h : IntS G A c xs) (hl : xs.length < 2 ^ 40)
    (hf : ∀ i, i < xs.length → ∀ K : Value → GH → Prop, K (.bool (p (xs.getD i 0))) G → gCl Try.prog f [.int .i64 (xs.getD i 0)] G K) {K : Value → GH → Prop}
    (hk : K (.int .i64 (idxI p xs)) G) : GC Try.prog 222 [.slice A xs.length c, f] G K := by
  refine c_slices_IndexFunc_int64_int64_i (by simp) ?_
  have hsn := h.sn
  have hrd := h.rd
  simp (maxSteps := 300000) (disch := omega) only [gs, gs2, gs3, gs4, ↓reduceIte, Nat.reduceEqDiff, Int.reduceToNat, Nat.reduceMul, Nat.reduceAdd, Nat.reduceBEq, isLd]
  refine gLoop_intro (fun m T G' => ∃ k : Nat, T 0 = .slice A xs.length c ∧ T 1 = f ∧ T 7 = .int .i64 xs.length ∧ T 8 = .int .i64 k ∧ m + k = xs.length ∧ k ≤ xs.length ∧ G' = G ∧ ∀ i, i < k → p (xs.getD i 0) = false) xs.length
    ⟨0, by simp (maxSteps := 300000) (disch := omega) only [gs, gs2, gs3, gs4, ↓reduceIte, Nat.reduceEqDiff, Int.reduceToNat, Nat.reduceMul, Nat.reduceAdd, Nat.reduceBEq, isLd], by simp (maxSteps := 300000) (disch := omega) only [gs, gs2, gs3, gs4, ↓reduceIte, Nat.reduceEqDiff, Int.reduceToNat, Nat.reduceMul, Nat.reduceAdd, Nat.reduceBEq, isLd], by simp (maxSteps := 300000) (disch := omega) only [gs, gs2, gs3, gs4, ↓reduceIte, Nat.reduceEqDiff, Int.reduceToNat, Nat.reduceMul, Nat.reduceAdd, Nat.reduceBEq, isLd], by simp (maxSteps := 300000) (disch := omega) only [gs, gs2, gs3, gs4, ↓reduceIte, Nat.reduceEqDiff, Int.reduceToNat, Nat.reduceMul, Nat.reduceAdd, Nat.reduceBEq, isLd] <;> rfl, by omega, by omega, rfl, fun i hi => by omega⟩ ?_
  rintro m T G' ⟨k, h0, h1, h7, h8, hm, hkl, rfl, hinv⟩
  simp (maxSteps := 300000) (disch := omega) only [gs, gs2, gs3, gs4, ↓reduceIte, Nat.reduceEqDiff, Int.reduceToNat, Nat.reduceMul, Nat.reduceAdd, Nat.reduceBEq, isLd, h0, h1, h7, h8]
  by_cases hlt : (k : Int) < xs.length
  · simp (maxSteps := 300000) (disch := omega) only [gs, gs2, gs3, gs4, ↓reduceIte, Nat.reduceEqDiff, Int.reduceToNat, Nat.reduceMul, Nat.reduceAdd, Nat.reduceBEq, isLd, h0, h1, h7, h8, hlt, hrd]
    refine hf k (by omega) _ ?_
    simp (maxSteps := 300000) (disch := omega) only [gs, gs2, gs3, gs4, ↓reduceIte, Nat.reduceEqDiff, Int.reduceToNat, Nat.reduceMul, Nat.reduceAdd, Nat.reduceBEq, isLd, h0, h1, h7, h8]
    cases hp : p (xs.getD k 0)
    · simp (maxSteps := 300000) (disch := omega) only [gs, gs2, gs3, gs4, ↓reduceIte, Nat.reduceEqDiff, Int.reduceToNat, Nat.reduceMul, Nat.reduceAdd, Nat.reduceBEq, isLd, h0, h1, h7, h8]
      refine ⟨m - 1, by omega, _, Sub.refl _, k + 1, rfl, by omega, by omega, rfl, fun i hi => ?_⟩
      by_cases hik : i = k
      · subst hik; exact hp
      · exact hinv i (by omega)
    · simp (maxSteps := 300000) (disch := omega) only [gs, gs2, gs3, gs4, ↓reduceIte, Nat.reduceEqDiff, Int.reduceToNat, Nat.reduceMul, Nat.reduceAdd, Nat.reduceBEq, isLd, h0, h1, h7, h8]
      rw [idxI_some (by omega) hp hinv] at hk; exact hk
  · simp (maxSteps := 300000) (disch := omega) only [gs, gs2, gs3, gs4, ↓reduceIte, Nat.reduceEqDiff, Int.reduceToNat, Nat.reduceMul, Nat.reduceAdd, Nat.reduceBEq, isLd, h0, h1, h7, h8, hlt]
    rw [idxI_none (fun i hi => hinv i (by omega))] at hk; exact hk
theorem slices_ContainsFunc_ok {G : GH} {A : Option Addr} {c : Nat} {xs : List Int} {f : Value} (p : Int → Bool) (h : IntS G A c xs) (hl : xs.length < 2 ^ 40)
    (hf : ∀ i, i < xs.length → ∀ K : Value → GH → Prop, K (.bool (p (xs.getD i 0))) G → gCl Try.prog f [.int .i64 (xs.getD i 0)] G K) {K : Value → GH → Prop}
    (hk : K (.bool (xs.any p)) G) : GC Try.prog 152 [.slice A xs.length c, f] G K := by
  refine c_slices_ContainsFunc_int64_int64_i (by simp) ?_
  simp (maxSteps := 300000) (disch := omega) only [gs, gs2, gs3, gs4, ↓reduceIte, Nat.reduceEqDiff, Int.reduceToNat, Nat.reduceMul, Nat.reduceAdd, Nat.reduceBEq, isLd]
  refine slices_IndexFunc_ok p h hl hf ?_
  simp (maxSteps := 300000) (disch := omega) only [gs, gs2, gs3, gs4, ↓reduceIte, Nat.reduceEqDiff, Int.reduceToNat, Nat.reduceMul, Nat.reduceAdd, Nat.reduceBEq, isLd]
  have : decide (0 ≤ idxI p xs) = xs.any p := by
    unfold idxI
    cases hi : xs.findIdx? p with
    | none =>
      rw [List.findIdx?_eq_none_iff] at hi
      have : xs.any p = false := by rw [List.any_eq_false]; intro x hx; simp [hi x hx]
      simp [this]
    | some i =>
      rw [List.findIdx?_eq_some_iff_getElem] at hi
      obtain ⟨h1, h2, _⟩ := hi
      have : xs.any p = true := List.any_eq_true.2 ⟨xs[i], List.getElem_mem h1, h2⟩
      simp [this]
  rw [this]; exact hk
theorem impl_within_ok (a b c : Int) {G : GH} {K : Value → GH → Prop} (hk : K (.bool (decide (b ≤ a ∧ a ≤ c))) G) : GC Try.prog 122 [.int .i64 a, .int .i64 b, .int .i64 c] G K := by
  refine c_impl_within_i (by simp) ?_
  simp (maxSteps := 300000) (disch := omega) only [gs, gs2, gs3, gs4, ↓reduceIte, Nat.reduceEqDiff, Int.reduceToNat, Nat.reduceMul, Nat.reduceAdd, Nat.reduceBEq, isLd]
  by_cases h1 : b ≤ a
  · simp (maxSteps := 300000) (disch := omega) only [gs, gs2, gs3, gs4, ↓reduceIte, Nat.reduceEqDiff, Int.reduceToNat, Nat.reduceMul, Nat.reduceAdd, Nat.reduceBEq, isLd, h1]
    simpa [h1] using hk
  · simp (maxSteps := 300000) (disch := omega) only [gs, gs2, gs3, gs4, ↓reduceIte, Nat.reduceEqDiff, Int.reduceToNat, Nat.reduceMul, Nat.reduceAdd, Nat.reduceBEq, isLd, h1]
    simpa [h1] using hk
theorem spec_l00Max_ok (a b : Int) {G : GH} {K : Value → GH → Prop} (hk : K (.int .i64 (max a b)) G) : GC Try.prog 113 [.int .i64 a, .int .i64 b] G K := by
  refine c_spec_l00Max_i (by simp) ?_
  simp (maxSteps := 300000) (disch := omega) only [gs, gs2, gs3, gs4, ↓reduceIte, Nat.reduceEqDiff, Int.reduceToNat, Nat.reduceMul, Nat.reduceAdd, Nat.reduceBEq, isLd]
  by_cases h1 : b < a
  · simp (maxSteps := 300000) (disch := omega) only [gs, gs2, gs3, gs4, ↓reduceIte, Nat.reduceEqDiff, Int.reduceToNat, Nat.reduceMul, Nat.reduceAdd, Nat.reduceBEq, isLd, h1]
    rwa [show max a b = a by omega] at hk
  · simp (maxSteps := 300000) (disch := omega) only [gs, gs2, gs3, gs4, ↓reduceIte, Nat.reduceEqDiff, Int.reduceToNat, Nat.reduceMul, Nat.reduceAdd, Nat.reduceBEq, isLd, h1]
    rwa [show max a b = b by omega] at hk
def pairV (p : Int × Int) : Value := .tuple [.int .i64 p.1, .int .i64 p.2].toArray
def cmp3 (a b : Int) : Int := if a < b then -1 else if b < a then 1 else 0
theorem cmp_isNaN_ok (a : Int) {G : GH} {K : Value → GH → Prop} (hk : K (.bool false) G) : GC Try.prog 248 [.int .i64 a] G K := by
  refine c_cmp_isNaN_int64_i (by simp) ?_
  simp (maxSteps := 300000) (disch := omega) only [gs, gs2, gs3, gs4, ↓reduceIte, Nat.reduceEqDiff, Int.reduceToNat, Nat.reduceMul, Nat.reduceAdd, Nat.reduceBEq, isLd]
  exact hk
theorem cmp_Compare_ok (a b : Int) {G : GH} {K : Value → GH → Prop} (hk : K (.int .i64 (cmp3 a b)) G) : GC Try.prog 218 [.int .i64 a, .int .i64 b] G K := by
  refine c_cmp_Compare_int64_i (by simp) ?_
  simp (maxSteps := 300000) (disch := omega) only [gs, gs2, gs3, gs4, ↓reduceIte, Nat.reduceEqDiff, Int.reduceToNat, Nat.reduceMul, Nat.reduceAdd, Nat.reduceBEq, isLd]
  refine cmp_isNaN_ok _ ?_
  simp (maxSteps := 300000) (disch := omega) only [gs, gs2, gs3, gs4, ↓reduceIte, Nat.reduceEqDiff, Int.reduceToNat, Nat.reduceMul, Nat.reduceAdd, Nat.reduceBEq, isLd]
  refine cmp_isNaN_ok _ ?_
  simp (maxSteps := 300000) (disch := omega) only [gs, gs2, gs3, gs4, ↓reduceIte, Nat.reduceEqDiff, Int.reduceToNat, Nat.reduceMul, Nat.reduceAdd, Nat.reduceBEq, isLd]
  unfold cmp3 at hk
  by_cases h1 : a < b
  · simp (maxSteps := 300000) (disch := omega) only [gs, gs2, gs3, gs4, ↓reduceIte, Nat.reduceEqDiff, Int.reduceToNat, Nat.reduceMul, Nat.reduceAdd, Nat.reduceBEq, isLd, h1]; rwa [if_pos h1] at hk
  · rw [if_neg h1] at hk
    simp (maxSteps := 300000) (disch := omega) only [gs, gs2, gs3, gs4, ↓reduceIte, Nat.reduceEqDiff, Int.reduceToNat, Nat.reduceMul, Nat.reduceAdd, Nat.reduceBEq, isLd, h1]
    by_cases h2 : b < a
    · simp (maxSteps := 300000) (disch := omega) only [gs, gs2, gs3, gs4, ↓reduceIte, Nat.reduceEqDiff, Int.reduceToNat, Nat.reduceMul, Nat.reduceAdd, Nat.reduceBEq, isLd, h2]; rwa [if_pos h2] at hk
    · simp (maxSteps := 300000) (disch := omega) only [gs, gs2, gs3, gs4, ↓reduceIte, Nat.reduceEqDiff, Int.reduceToNat, Nat.reduceMul, Nat.reduceAdd, Nat.reduceBEq, isLd, h2]; rwa [if_neg h2] at hk
/-- cmp.Or of two numbers. -/
theorem cmp_Or_ok (a b : Int) {G : GH} {A : Option Addr} {c : Nat} (h0 : rd G A = some (.int .i64 a)) (h1 : rd G (pa A 1) = some (.int .i64 b)) {K : Value → GH → Prop} (hk : K (.int .i64 (if a = 0 then b else a)) G) : GC Try.prog 241 [.slice A 2 c] G K := by
  refine c_cmp_Or_int_i (by simp) ?_
  have hsn := rd_some h0
  simp (maxSteps := 300000) (disch := omega) only [gs, gs2, gs3, gs4, ↓reduceIte, Nat.reduceEqDiff, Int.reduceToNat, Nat.reduceMul, Nat.reduceAdd, Nat.reduceBEq, isLd]
  refine gLoop_intro (fun m T G' => ∃ k : Nat, T 3 = .int .i64 0 ∧ T 6 = .slice A 2 c ∧ T 7 = .int .i64 2 ∧ T 8 = .int .i64 k ∧ m + k = 2 ∧ G' = G ∧ (k = 1 → a = 0) ∧ (k = 2 → a = 0 ∧ b = 0)) 2 ⟨0, by simp (maxSteps := 300000) (disch := omega) only [gs, gs2, gs3, gs4, ↓reduceIte, Nat.reduceEqDiff, Int.reduceToNat, Nat.reduceMul, Nat.reduceAdd, Nat.reduceBEq, isLd], by simp (maxSteps := 300000) (disch := omega) only [gs, gs2, gs3, gs4, ↓reduceIte, Nat.reduceEqDiff, Int.reduceToNat, Nat.reduceMul, Nat.reduceAdd, Nat.reduceBEq, isLd], by simp (maxSteps := 300000) (disch := omega) only [gs, gs2, gs3, gs4, ↓reduceIte, Nat.reduceEqDiff, Int.reduceToNat, Nat.reduceMul, Nat.reduceAdd, Nat.reduceBEq, isLd] <;> rfl, by simp (maxSteps := 300000) (disch := omega) only [gs, gs2, gs3, gs4, ↓reduceIte, Nat.reduceEqDiff, Int.reduceToNat, Nat.reduceMul, Nat.reduceAdd, Nat.reduceBEq, isLd] <;> rfl, by omega, rfl, by omega, by omega⟩ ?_
  rintro m T G' ⟨k, e3, e6, e7, e8, hm, rfl, ha, hb⟩
  simp (maxSteps := 300000) (disch := omega) only [gs, gs2, gs3, gs4, ↓reduceIte, Nat.reduceEqDiff, Int.reduceToNat, Nat.reduceMul, Nat.reduceAdd, Nat.reduceBEq, isLd, e3, e6, e7, e8]
  have hk2 : k = 0 ∨ k = 1 ∨ k = 2 := by omega
  rcases hk2 with rfl | rfl | rfl
  · simp (maxSteps := 300000) (disch := omega) only [gs, gs2, gs3, gs4, ↓reduceIte, Nat.reduceEqDiff, Int.reduceToNat, Nat.reduceMul, Nat.reduceAdd, Nat.reduceBEq, isLd, e3, e6, e7, e8, Int.natCast_zero, Int.reduceLT, Int.le_refl, h0]
    cases hz : decide (¬ a = 0)
    · simp (maxSteps := 300000) (disch := omega) only [gs, gs2, gs3, gs4, ↓reduceIte, Nat.reduceEqDiff, Int.reduceToNat, Nat.reduceMul, Nat.reduceAdd, Nat.reduceBEq, isLd, e3, e6, e7, e8]
      have hz : a = 0 := by simpa using hz
      exact ⟨m - 1, by omega, _, Sub.refl _, 1, rfl, by omega, rfl, fun _ => hz, by omega⟩
    · simp (maxSteps := 300000) (disch := omega) only [gs, gs2, gs3, gs4, ↓reduceIte, Nat.reduceEqDiff, Int.reduceToNat, Nat.reduceMul, Nat.reduceAdd, Nat.reduceBEq, isLd]
      have hz : ¬ a = 0 := by simpa using hz
      rwa [if_neg hz] at hk
  · rw [if_pos (ha rfl)] at hk
    simp (maxSteps := 300000) (disch := omega) only [gs, gs2, gs3, gs4, ↓reduceIte, Nat.reduceEqDiff, Int.reduceToNat, Nat.reduceMul, Nat.reduceAdd, Nat.reduceBEq, isLd, e3, e6, e7, e8, Int.natCast_one, Int.reduceLT, Int.le_refl, h1]
    cases hz : decide (¬ b = 0)
    · simp (maxSteps := 300000) (disch := omega) only [gs, gs2, gs3, gs4, ↓reduceIte, Nat.reduceEqDiff, Int.reduceToNat, Nat.reduceMul, Nat.reduceAdd, Nat.reduceBEq, isLd, e3, e6, e7, e8]
      have hz : b = 0 := by simpa using hz
      exact ⟨m - 1, by omega, _, Sub.refl _, 2, rfl, by omega, rfl, by omega, fun _ => ⟨ha rfl, hz⟩⟩
    · simp (maxSteps := 300000) (disch := omega) only [gs, gs2, gs3, gs4, ↓reduceIte, Nat.reduceEqDiff, Int.reduceToNat, Nat.reduceMul, Nat.reduceAdd, Nat.reduceBEq, isLd]
      exact hk
  · rw [if_pos (hb rfl).1, (hb rfl).2] at hk
    simp (maxSteps := 300000) (disch := omega) only [gs, gs2, gs3, gs4, ↓reduceIte, Nat.reduceEqDiff, Int.reduceToNat, Nat.reduceMul, Nat.reduceAdd, Nat.reduceBEq, isLd, e3, e6, e7, e8, Int.reduceLT, show (((2 : Nat) : Int) < 2) = False by decide]
    exact hk
theorem impl_isElement_ok (a p : Int) {G : GH} {K : Value → GH → Prop} (hk : K (.bool (decide (0 ≤ a ∧ a ≤ IntKind.i64.wrap (p - 1)))) G) : GC Try.prog 180 [.int .i64 a, .int .i64 p] G K := by
  refine c_impl_isElement_i (by simp) ?_
  simp (maxSteps := 300000) (disch := omega) only [gs, gs2, gs3, gs4, ↓reduceIte, Nat.reduceEqDiff, Int.reduceToNat, Nat.reduceMul, Nat.reduceAdd, Nat.reduceBEq, isLd]
  refine impl_within_ok _ _ _ ?_
  simp (maxSteps := 300000) (disch := omega) only [gs, gs2, gs3, gs4, ↓reduceIte, Nat.reduceEqDiff, Int.reduceToNat, Nat.reduceMul, Nat.reduceAdd, Nat.reduceBEq, isLd]
  exact hk
def ltArc (a b : T3) : Prop := a.1 < b.1 ∨ a.1 = b.1 ∧ a.2.1 < b.2.1
theorem cmp_lt (a b : T3) : (0 ≤ (if cmp3 a.1 b.1 = 0 then cmp3 a.2.1 b.2.1 else cmp3 a.1 b.1)) ↔ ¬ ltArc a b := by
  unfold ltArc cmp3
  by_cases h1 : a.1 < b.1
  · simp [h1]
  · by_cases h2 : b.1 < a.1
    · simp [h1, h2]; omega
    · by_cases h3 : a.2.1 < b.2.1
      · simp [h1, h2, h3]; omega
      · by_cases h4 : b.2.1 < a.2.1 <;> simp [h1, h2, h3, h4] <;> omega
theorem slices_Index_ok {G : GH} {A : Option Addr} {c : Nat} {xs : List Int} {v : Int} (h : IntS G A c xs) (hl : xs.length < 2 ^ 40) {K : Value → GH → Prop}
    (hk : K (.int .i64 (idxI (fun x => decide (x = v)) xs)) G) : GC Try.prog 166 [.slice A xs.length c, .int .i64 v] G K := by
  refine c_slices_Index_int64_int64_i (by simp) ?_
  have hsn := h.sn
  have r := h.rd
  simp (maxSteps := 300000) (disch := omega) only [gs, gs2, gs3, gs4, ↓reduceIte, Nat.reduceEqDiff, Int.reduceToNat, Nat.reduceMul, Nat.reduceAdd, Nat.reduceBEq, isLd]
  refine gLoop_intro (fun m T G' => ∃ k : Nat, T 0 = .slice A xs.length c ∧ T 1 = .int .i64 v ∧ T 7 = .int .i64 xs.length ∧ T 8 = .int .i64 k ∧ m + k = xs.length ∧ k ≤ xs.length ∧ G' = G ∧ ∀ i, i < k → xs.getD i 0 ≠ v) xs.length
    ⟨0, by simp (maxSteps := 300000) (disch := omega) only [gs, gs2, gs3, gs4, ↓reduceIte, Nat.reduceEqDiff, Int.reduceToNat, Nat.reduceMul, Nat.reduceAdd, Nat.reduceBEq, isLd], by simp (maxSteps := 300000) (disch := omega) only [gs, gs2, gs3, gs4, ↓reduceIte, Nat.reduceEqDiff, Int.reduceToNat, Nat.reduceMul, Nat.reduceAdd, Nat.reduceBEq, isLd], by simp (maxSteps := 300000) (disch := omega) only [gs, gs2, gs3, gs4, ↓reduceIte, Nat.reduceEqDiff, Int.reduceToNat, Nat.reduceMul, Nat.reduceAdd, Nat.reduceBEq, isLd], by simp (maxSteps := 300000) (disch := omega) only [gs, gs2, gs3, gs4, ↓reduceIte, Nat.reduceEqDiff, Int.reduceToNat, Nat.reduceMul, Nat.reduceAdd, Nat.reduceBEq, isLd] <;> rfl, by omega, by omega, rfl, fun i hi => by omega⟩ ?_
  rintro m T G' ⟨k, e0, e1, e7, e8, hm, hkl, rfl, hin⟩
  simp (maxSteps := 300000) (disch := omega) only [gs, gs2, gs3, gs4, ↓reduceIte, Nat.reduceEqDiff, Int.reduceToNat, Nat.reduceMul, Nat.reduceAdd, Nat.reduceBEq, isLd, e0, e1, e7, e8]
  by_cases hkk : (k : Int) < xs.length
  · simp (maxSteps := 300000) (disch := omega) only [gs, gs2, gs3, gs4, ↓reduceIte, Nat.reduceEqDiff, Int.reduceToNat, Nat.reduceMul, Nat.reduceAdd, Nat.reduceBEq, isLd, e0, e1, e7, e8, hkk, r]
    by_cases g1 : v = xs.getD k 0
    · simp (maxSteps := 300000) (disch := omega) only [gs, gs2, gs3, gs4, ↓reduceIte, Nat.reduceEqDiff, Int.reduceToNat, Nat.reduceMul, Nat.reduceAdd, Nat.reduceBEq, isLd, eq_true g1, e0, e1, e7, e8]
      rw [idxI_some (k := k) (by omega) (decide_eq_true g1.symm) (fun i hi => decide_eq_false (hin i hi))] at hk; exact hk
    · rw [decide_eq_false g1]
      simp (maxSteps := 300000) (disch := omega) only [gs, gs2, gs3, gs4, ↓reduceIte, Nat.reduceEqDiff, Int.reduceToNat, Nat.reduceMul, Nat.reduceAdd, Nat.reduceBEq, isLd, e0, e1, e7, e8]
      refine ⟨m - 1, by omega, _, Sub.refl _, k + 1, rfl, by omega, by omega, rfl, fun i hi => ?_⟩
      by_cases hik : i = k
      · subst hik; exact fun h => g1 h.symm
      · exact hin i (by omega)
  · simp (maxSteps := 300000) (disch := omega) only [gs, gs2, gs3, gs4, ↓reduceIte, Nat.reduceEqDiff, Int.reduceToNat, Nat.reduceMul, Nat.reduceAdd, Nat.reduceBEq, isLd, e0, e1, e7, e8, hkk]
    rw [idxI_none (fun i hi => decide_eq_false (hin i (by omega)))] at hk; exact hk
theorem idxI_mem {xs : List Int} {v : Int} : 0 ≤ idxI (fun x => decide (x = v)) xs ↔ v ∈ xs := by
  unfold idxI
  cases hi : xs.findIdx? fun x => decide (x = v) with
  | none =>
    rw [List.findIdx?_eq_none_iff] at hi
    simp
    intro hx
    simpa using hi v hx
  | some i =>
    rw [List.findIdx?_eq_some_iff_getElem] at hi
    obtain ⟨h1, h2, _⟩ := hi
    simp at h2
    simp
    rw [← h2]; exact List.getElem_mem h1
theorem slices_Contains_ok {G : GH} {A : Option Addr} {c : Nat} {xs : List Int} {v : Int} (h : IntS G A c xs) (hl : xs.length < 2 ^ 40) {K : Value → GH → Prop}
    (hk : ∀ b : Bool, (b = true ↔ v ∈ xs) → K (.bool b) G) : GC Try.prog 137 [.slice A xs.length c, .int .i64 v] G K := by
  refine c_slices_Contains_int64_int64_i (by simp) ?_
  simp (maxSteps := 300000) (disch := omega) only [gs, gs2, gs3, gs4, ↓reduceIte, Nat.reduceEqDiff, Int.reduceToNat, Nat.reduceMul, Nat.reduceAdd, Nat.reduceBEq, isLd]
  refine slices_Index_ok h hl ?_
  simp (maxSteps := 300000) (disch := omega) only [gs, gs2, gs3, gs4, ↓reduceIte, Nat.reduceEqDiff, Int.reduceToNat, Nat.reduceMul, Nat.reduceAdd, Nat.reduceBEq, isLd]
  exact hk _ (by rw [decide_eq_true_eq]; exact idxI_mem)
def okEdge (n : Int) (e : T3) : Prop := 0 ≤ e.1 ∧ e.1 < e.2.1 ∧ e.2.1 < n ∧ (1 ≤ e.2.2 ∧ e.2.2 ≤ 9)
/-- a valid graph. -/
def GraOk (g : Gra) : Prop := (1 ≤ g.n ∧ g.n ≤ 12) ∧ (∀ i, i < g.edges.length → okEdge g.n (g.edges.getD i z3)) ∧ (∀ i, i + 1 < g.edges.length → ltArc (g.edges.getD i z3) (g.edges.getD (i + 1) z3)) ∧ g.edges.length ≤ 24
theorem impl_compareEdges_ok {G : GH} (e f : T3) {K : Value → GH → Prop} (hk : ∀ c : Int, (0 ≤ c ↔ ¬ ltArc e f) → K (.int .i64 c) G) : GC Try.prog 217 [V3 e, V3 f] G K := by
  refine GC_drop (c_impl_compareEdges_i (by simp) ?_)
  unfold V3 c3
  simp (maxSteps := 300000) (disch := omega) only [gs, gs2, gs3, gs4, ↓reduceIte, Nat.reduceEqDiff, Int.reduceToNat, Nat.reduceMul, Nat.reduceAdd, Nat.reduceBEq, isLd]
  intro b1 hb1
  simp (maxSteps := 300000) (disch := omega) only [gs, gs2, gs3, gs4, ↓reduceIte, Nat.reduceEqDiff, Int.reduceToNat, Nat.reduceMul, Nat.reduceAdd, Nat.reduceBEq, isLd]
  intro b2 hb2
  simp only [put_none] at hb2
  obtain ⟨n12, f2⟩ := hb2
  have s2 := ((Sub.refl G).skip hb1 (e := ⟨c3 e, true⟩)).skip f2 (e := ⟨c3 f, true⟩)
  unfold c3 at s2
  simp (maxSteps := 300000) (disch := omega) only [gs, gs2, gs3, gs4, ↓reduceIte, Nat.reduceEqDiff, Int.reduceToNat, Nat.reduceMul, Nat.reduceAdd, Nat.reduceBEq, isLd]
  refine cmp_Compare_ok _ _ ?_
  simp (maxSteps := 300000) (disch := omega) only [gs, gs2, gs3, gs4, ↓reduceIte, Nat.reduceEqDiff, Int.reduceToNat, Nat.reduceMul, Nat.reduceAdd, Nat.reduceBEq, isLd]
  refine cmp_Compare_ok _ _ ?_
  simp (maxSteps := 300000) (disch := omega) only [gs, gs2, gs3, gs4, ↓reduceIte, Nat.reduceEqDiff, Int.reduceToNat, Nat.reduceMul, Nat.reduceAdd, Nat.reduceBEq, isLd, gBs]
  refine ⟨by intro v hv; simp at hv; rcases hv with rfl | rfl <;> rfl, fun b5 hb5 => ?_⟩
  have q5 := hb5
  simp only [put_none] at q5
  have s5 := Sub.put hb5 ⟨[.int .i64 (cmp3 e.1 f.1), .int .i64 (cmp3 e.2.1 f.2.1)], true⟩
  simp only [List.flatMap_cons, List.flatMap_nil, cells_int, List.append_nil, List.cons_append, List.nil_append]
  simp (maxSteps := 300000) (disch := omega) only [gs, gs2, gs3, gs4, ↓reduceIte, Nat.reduceEqDiff, Int.reduceToNat, Nat.reduceMul, Nat.reduceAdd, Nat.reduceBEq, isLd]
  refine cmp_Or_ok (cmp3 e.1 f.1) (cmp3 e.2.1 f.2.1) (by simp (maxSteps := 300000) (disch := omega) only [gs, gs2, gs3, gs4, ↓reduceIte, Nat.reduceEqDiff, Int.reduceToNat, Nat.reduceMul, Nat.reduceAdd, Nat.reduceBEq, isLd]) (by simp (maxSteps := 300000) (disch := omega) only [gs, gs2, gs3, gs4, ↓reduceIte, Nat.reduceEqDiff, Int.reduceToNat, Nat.reduceMul, Nat.reduceAdd, Nat.reduceBEq, isLd]) ?_
  simp (maxSteps := 300000) (disch := omega) only [gs, gs2, gs3, gs4, ↓reduceIte, Nat.reduceEqDiff, Int.reduceToNat, Nat.reduceMul, Nat.reduceAdd, Nat.reduceBEq, isLd]
  exact ⟨G, s2.trans s5, hk _ (cmp_lt e f)⟩
theorem impl_ValidGraph_ok {G : GH} {N : Gra} {A : Option Addr} {c : Nat} (h : T3S G A c N.edges) (hl : N.edges.length < 2 ^ 40) {K : Value → GH → Prop}
    (hk : ∀ b : Bool, (b = true ↔ GraOk N) → K (.bool b) G) : GC Try.prog 141 [graV N A c] G K := by
  refine GC_drop (c_impl_ValidGraph_i (by simp) ?_)
  unfold graV graC
  simp (maxSteps := 300000) (disch := omega) only [gs, gs2, gs3, gs4, ↓reduceIte, Nat.reduceEqDiff, Int.reduceToNat, Nat.reduceMul, Nat.reduceAdd, Nat.reduceBEq, isLd]
  intro b1 hb1
  simp (maxSteps := 300000) (disch := omega) only [gs, gs2, gs3, gs4, ↓reduceIte, Nat.reduceEqDiff, Int.reduceToNat, Nat.reduceMul, Nat.reduceAdd, Nat.reduceBEq, isLd]
  have s1 := Sub.put hb1 ⟨[.int .i64 N.n, .slice A N.edges.length c], true⟩
  have f0 : rd (put G b1 ⟨[.int .i64 N.n, .slice A N.edges.length c], true⟩) (some ⟨b1, 0, none⟩) = some (.int .i64 N.n) := rd_box _ _ _ 0 _ rfl
  have f1 : rd (put G b1 ⟨[.int .i64 N.n, .slice A N.edges.length c], true⟩) (some ⟨b1, 1, none⟩) = some (.slice A N.edges.length c) := rd_box _ _ _ 1 _ rfl
  revert s1 f0 f1
  generalize put G b1 ⟨[.int .i64 N.n, .slice A N.edges.length c], true⟩ = G1
  intro s1 f0 f1
  have hno : ¬ GraOk N → ∀ G2, Sub G1 G2 → ∃ G'', Sub G'' G2 ∧ K (.bool false) G'' := fun hx G2 s2 => ⟨G, s1.trans s2, hk false (by simp [hx])⟩
  refine gLoop_intro (fun m T G' => ∃ k : Nat, T 1 = .pointer (some ⟨b1, 0, none⟩) ∧ T 6 = .slice A N.edges.length c ∧ T 7 = .int .i64 N.edges.length ∧ T 8 = .int .i64 k ∧ m + k = N.edges.length ∧ k ≤ N.edges.length ∧ G' = G1 ∧
    (∀ i, i < k → okEdge N.n (N.edges.getD i z3)) ∧ ∀ i, i + 1 < k → ltArc (N.edges.getD i z3) (N.edges.getD (i + 1) z3)) N.edges.length
    ⟨0, by simp (maxSteps := 300000) (disch := omega) only [gs, gs2, gs3, gs4, ↓reduceIte, Nat.reduceEqDiff, Int.reduceToNat, Nat.reduceMul, Nat.reduceAdd, Nat.reduceBEq, isLd], by simp (maxSteps := 300000) (disch := omega) only [gs, gs2, gs3, gs4, ↓reduceIte, Nat.reduceEqDiff, Int.reduceToNat, Nat.reduceMul, Nat.reduceAdd, Nat.reduceBEq, isLd], by simp (maxSteps := 300000) (disch := omega) only [gs, gs2, gs3, gs4, ↓reduceIte, Nat.reduceEqDiff, Int.reduceToNat, Nat.reduceMul, Nat.reduceAdd, Nat.reduceBEq, isLd], by simp (maxSteps := 300000) (disch := omega) only [gs, gs2, gs3, gs4, ↓reduceIte, Nat.reduceEqDiff, Int.reduceToNat, Nat.reduceMul, Nat.reduceAdd, Nat.reduceBEq, isLd] <;> rfl, by omega, by omega, rfl, fun i hi => by omega, fun i hi => by omega⟩ ?_
  rintro m T G' ⟨k, e1, e6, e7, e8, hm, hkl, rfl, hok, hlt⟩
  have hh := h.sub s1
  have hsn := hh.sn
  have p0 := hh.r0
  have p1 := hh.r1
  have p2 := hh.r2
  simp (maxSteps := 300000) (disch := omega) only [gs, gs2, gs3, gs4, ↓reduceIte, Nat.reduceEqDiff, Int.reduceToNat, Nat.reduceMul, Nat.reduceAdd, Nat.reduceBEq, isLd, e1, e6, e7, e8]
  by_cases hkk : (k : Int) < N.edges.length
  · simp (maxSteps := 300000) (disch := omega) only [gs, gs2, gs3, gs4, ↓reduceIte, Nat.reduceEqDiff, Int.reduceToNat, Nat.reduceMul, Nat.reduceAdd, Nat.reduceBEq, isLd, e1, e6, e7, e8, hkk, p0, p1, p2]
    intro b4 hb4
    simp (maxSteps := 300000) (disch := omega) only [gs, gs2, gs3, gs4, ↓reduceIte, Nat.reduceEqDiff, Int.reduceToNat, Nat.reduceMul, Nat.reduceAdd, Nat.reduceBEq, isLd, e1, e6, e7, e8]
    refine st_many (vs := c3 (N.edges.getD k z3)) rfl (put_same _ _ _) rfl (by simp) (c3_one _) ?_
    have s4 := Sub.put hb4 ⟨c3 (N.edges.getD k z3), true⟩
    have hh4 := hh.sub s4
    have o0 := hh4.r0
    have o1 := hh4.r1
    have o2 := hh4.r2
    have u0 := rd_sub s4 f0
    have u1 := rd_sub s4 f1
    have hno' : ¬ okEdge N.n (N.edges.getD k z3) → ¬ GraOk N := fun h1 h2 => h1 (h2.2.1 k (by omega))
    unfold c3 at s4 o0 o1 o2 u0 u1 ⊢
    simp (maxSteps := 300000) (disch := omega) only [gs, gs2, gs3, gs4, ↓reduceIte, Nat.reduceEqDiff, Int.reduceToNat, Nat.reduceMul, Nat.reduceAdd, Nat.reduceBEq, isLd, over, e1, e6, e7, e8, o0, o1, o2, u0, u1]
    by_cases q1 : (N.edges.getD k z3).1 < 0
    · simp (maxSteps := 300000) (disch := omega) only [gs, gs2, gs3, gs4, ↓reduceIte, Nat.reduceEqDiff, Int.reduceToNat, Nat.reduceMul, Nat.reduceAdd, Nat.reduceBEq, isLd, q1, e1, e6, e7, e8, o0, o1, o2, u0, u1]
      exact hno (hno' fun hx => by have := hx.1; omega) _ s4
    simp (maxSteps := 300000) (disch := omega) only [gs, gs2, gs3, gs4, ↓reduceIte, Nat.reduceEqDiff, Int.reduceToNat, Nat.reduceMul, Nat.reduceAdd, Nat.reduceBEq, isLd, q1, e1, e6, e7, e8, o0, o1, o2, u0, u1]
    by_cases q2 : (N.edges.getD k z3).2.1 ≤ (N.edges.getD k z3).1
    · simp (maxSteps := 300000) (disch := omega) only [gs, gs2, gs3, gs4, ↓reduceIte, Nat.reduceEqDiff, Int.reduceToNat, Nat.reduceMul, Nat.reduceAdd, Nat.reduceBEq, isLd, q2, e1, e6, e7, e8, o0, o1, o2, u0, u1]
      exact hno (hno' fun hx => by have := hx.2.1; omega) _ s4
    simp (maxSteps := 300000) (disch := omega) only [gs, gs2, gs3, gs4, ↓reduceIte, Nat.reduceEqDiff, Int.reduceToNat, Nat.reduceMul, Nat.reduceAdd, Nat.reduceBEq, isLd, q2, e1, e6, e7, e8, o0, o1, o2, u0, u1]
    by_cases q3 : N.n ≤ (N.edges.getD k z3).2.1
    · simp (maxSteps := 300000) (disch := omega) only [gs, gs2, gs3, gs4, ↓reduceIte, Nat.reduceEqDiff, Int.reduceToNat, Nat.reduceMul, Nat.reduceAdd, Nat.reduceBEq, isLd, q3, e1, e6, e7, e8, o0, o1, o2, u0, u1]
      exact hno (hno' fun hx => by have := hx.2.2.1; omega) _ s4
    simp (maxSteps := 300000) (disch := omega) only [gs, gs2, gs3, gs4, ↓reduceIte, Nat.reduceEqDiff, Int.reduceToNat, Nat.reduceMul, Nat.reduceAdd, Nat.reduceBEq, isLd, q3, e1, e6, e7, e8, o0, o1, o2, u0, u1]
    refine impl_within_ok _ _ _ ?_
    simp (maxSteps := 300000) (disch := omega) only [gs, gs2, gs3, gs4, ↓reduceIte, Nat.reduceEqDiff, Int.reduceToNat, Nat.reduceMul, Nat.reduceAdd, Nat.reduceBEq, isLd, e1, e6, e7, e8, o0, o1, o2, u0, u1]
    cases q4 : decide (1 ≤ (N.edges.getD k z3).2.2 ∧ (N.edges.getD k z3).2.2 ≤ 9)
    · simp (maxSteps := 300000) (disch := omega) only [gs, gs2, gs3, gs4, ↓reduceIte, Nat.reduceEqDiff, Int.reduceToNat, Nat.reduceMul, Nat.reduceAdd, Nat.reduceBEq, isLd, e1, e6, e7, e8, o0, o1, o2, u0, u1]
      have q4 := of_decide_eq_false q4
      exact hno (hno' fun hx => q4 hx.2.2.2) _ s4
    have q4 := of_decide_eq_true q4
    have hok' : ∀ i, i < k + 1 → okEdge N.n (N.edges.getD i z3) := fun i hi => by
      by_cases hik : i = k
      · subst hik; exact ⟨by omega, by omega, by omega, q4⟩
      · exact hok i (by omega)
    simp (maxSteps := 300000) (disch := omega) only [gs, gs2, gs3, gs4, ↓reduceIte, Nat.reduceEqDiff, Int.reduceToNat, Nat.reduceMul, Nat.reduceAdd, Nat.reduceBEq, isLd, e1, e6, e7, e8, o0, o1, o2, u0, u1]
    by_cases hk0 : (0 : Int) < k
    · simp (maxSteps := 300000) (disch := omega) only [gs, gs2, gs3, gs4, ↓reduceIte, Nat.reduceEqDiff, Int.reduceToNat, Nat.reduceMul, Nat.reduceAdd, Nat.reduceBEq, isLd, hk0, e1, e6, e7, e8, o0, o1, o2, u0, u1]
      refine impl_compareEdges_ok (N.edges.getD ((k : Int) - 1).toNat z3) (N.edges.getD k z3) fun cc hcc => ?_
      simp (maxSteps := 300000) (disch := omega) only [gs, gs2, gs3, gs4, ↓reduceIte, Nat.reduceEqDiff, Int.reduceToNat, Nat.reduceMul, Nat.reduceAdd, Nat.reduceBEq, isLd, e1, e6, e7, e8, o0, o1, o2, u0, u1]
      by_cases hc : 0 ≤ cc
      · simp (maxSteps := 300000) (disch := omega) only [gs, gs2, gs3, gs4, ↓reduceIte, Nat.reduceEqDiff, Int.reduceToNat, Nat.reduceMul, Nat.reduceAdd, Nat.reduceBEq, isLd, hc, e1, e6, e7, e8, o0, o1, o2, u0, u1]
        exact hno (fun hx => (hcc.1 hc) (by have := hx.2.2.1 (k - 1) (by omega); rwa [show k - 1 + 1 = k by omega, show k - 1 = ((k : Int) - 1).toNat by omega] at this)) _ s4
      · simp (maxSteps := 300000) (disch := omega) only [gs, gs2, gs3, gs4, ↓reduceIte, Nat.reduceEqDiff, Int.reduceToNat, Nat.reduceMul, Nat.reduceAdd, Nat.reduceBEq, isLd, hc, e1, e6, e7, e8, o0, o1, o2, u0, u1]
        have hl' : ltArc (N.edges.getD ((k : Int) - 1).toNat z3) (N.edges.getD k z3) := Classical.byContradiction fun hn => hc (hcc.2 hn)
        refine ⟨m - 1, by omega, _, s4, k + 1, rfl, by omega, by omega, rfl, hok', fun i hi => ?_⟩
        by_cases hik : i + 1 = k
        · rw [hik, show i = ((k : Int) - 1).toNat by omega]; exact hl'
        · exact hlt i (by omega)
    · simp (maxSteps := 300000) (disch := omega) only [gs, gs2, gs3, gs4, ↓reduceIte, Nat.reduceEqDiff, Int.reduceToNat, Nat.reduceMul, Nat.reduceAdd, Nat.reduceBEq, isLd, hk0, e1, e6, e7, e8, o0, o1, o2, u0, u1]
      exact ⟨m - 1, by omega, _, s4, k + 1, rfl, by omega, by omega, rfl, hok', fun i hi => by omega⟩
  · simp (maxSteps := 300000) (disch := omega) only [gs, gs2, gs3, gs4, ↓reduceIte, Nat.reduceEqDiff, Int.reduceToNat, Nat.reduceMul, Nat.reduceAdd, Nat.reduceBEq, isLd, e1, e6, e7, e8, hkk, f0]
    refine impl_within_ok _ _ _ ?_
    simp (maxSteps := 300000) (disch := omega) only [gs, gs2, gs3, gs4, ↓reduceIte, Nat.reduceEqDiff, Int.reduceToNat, Nat.reduceMul, Nat.reduceAdd, Nat.reduceBEq, isLd, e1, e6, e7, e8, f0, f1]
    cases g1 : decide (1 ≤ N.n ∧ N.n ≤ 12)
    · simp (maxSteps := 300000) (disch := omega) only [gs, gs2, gs3, gs4, ↓reduceIte, Nat.reduceEqDiff, Int.reduceToNat, Nat.reduceMul, Nat.reduceAdd, Nat.reduceBEq, isLd, e1]
      have g1 := of_decide_eq_false g1
      exact hno (fun hx => g1 hx.1) _ (Sub.refl _)
    · have g1 := of_decide_eq_true g1
      simp (maxSteps := 300000) (disch := omega) only [gs, gs2, gs3, gs4, ↓reduceIte, Nat.reduceEqDiff, Int.reduceToNat, Nat.reduceMul, Nat.reduceAdd, Nat.reduceBEq, isLd, e1, f1]
      refine ⟨G, s1, hk _ ?_⟩
      rw [decide_eq_true_eq]
      exact ⟨fun hx => ⟨g1, fun i hi => hok i (by omega), fun i hi => hlt i (by omega), by omega⟩, fun hx => by have := hx.2.2.2; omega⟩
/-- what the first k arcs bring to a node, less what they take away. -/
def exc (es : List T3) (fl : List Int) (v : Int) : Nat → Int
  | 0 => 0
  | k + 1 => exc es fl v k + (if (es.getD k z3).2.1 = v then fl.getD k 0 else 0) - (if (es.getD k z3).1 = v then fl.getD k 0 else 0)
/-- the place of the arc from a to b, or -1. -/
def arcI (es : List T3) (a b : Int) : Int := match es.findIdx? (fun e => decide (e.1 = a ∧ e.2.1 = b)) with | some i => (i : Int) | none => -1
/-- arcs in order stand once. -/
theorem lt_trans' {es : List T3} (h : ∀ i, i + 1 < es.length → ltArc (es.getD i z3) (es.getD (i + 1) z3)) : ∀ (d i : Nat), i + d + 1 < es.length → ltArc (es.getD i z3) (es.getD (i + d + 1) z3)
  | 0, i, hi => h i hi
  | d + 1, i, hi => by
    have h1 := lt_trans' h d i (by omega)
    have h2 := h (i + d + 1) hi
    unfold ltArc at *
    rw [show i + (d + 1) + 1 = i + d + 1 + 1 by omega]
    omega
theorem arc_once {es : List T3} (h : ∀ i, i + 1 < es.length → ltArc (es.getD i z3) (es.getD (i + 1) z3)) {i j : Nat} (hi : i < es.length) (hj : j < es.length) (h1 : (es.getD i z3).1 = (es.getD j z3).1) (h2 : (es.getD i z3).2.1 = (es.getD j z3).2.1) : i = j := by
  have key : ∀ i j, i < j → j < es.length → (es.getD i z3).1 = (es.getD j z3).1 → (es.getD i z3).2.1 = (es.getD j z3).2.1 → False := fun i j hij hj h1 h2 => by
    have := lt_trans' h (j - i - 1) i (by omega)
    rw [show i + (j - i - 1) + 1 = j by omega] at this
    unfold ltArc at this
    omega
  rcases Nat.lt_trichotomy i j with hlt | rfl | hgt
  · exact (key i j hlt hj h1 h2).elim
  · rfl
  · exact (key j i hgt hi h1.symm h2.symm).elim
/-- what is sent from u to v: first back, then on. -/
def push (es : List T3) (fl : List Int) (u v a : Int) : List Int :=
  let m := if fl.getD (arcI es v u).toNat 0 < a then fl.getD (arcI es v u).toNat 0 else a
  let fl1 := if 0 ≤ arcI es v u then fl.set (arcI es v u).toNat (fl.getD (arcI es v u).toNat 0 - m) else fl
  let more := if 0 ≤ arcI es v u then a - m else a
  if 0 ≤ arcI es u v then fl1.set (arcI es u v).toNat (fl1.getD (arcI es u v).toNat 0 + more) else fl1
/-- the nodes on the way back from v, without the source. -/
def path (b : Int → Int) (s : Int) : Nat → Int → List Int
  | 0, _ => []
  | f + 1, v => if v = s then [] else v :: path b s f (b v)
/-- the numbers below n. -/
def iota (n : Nat) : List Int := (List.range n).map fun i : Nat => (i : Int)
theorem iota_len (n : Nat) : (iota n).length = n := by simp [iota]
theorem iota_succ (n : Nat) : iota (n + 1) = iota n ++ [(n : Int)] := by simp [iota, List.range_succ]
theorem New.cast {G G' : GH} {A : Option Addr} {c sz n : Nat} {cs cs' : List Value} (h : New G G' A c cs sz n) (e : cs = cs') {n' : Nat} (en : n = n') : New G G' A c cs' sz n' := e ▸ en ▸ h
theorem impl_firstChoice_ok {G : GH} {m : Int} (hm : 0 ≤ m ∧ m < 2 ^ 30) {K : Value → GH → Prop} (hk : ∀ G' A c, New G G' A c ((iota m.toNat).map I64) 1 m.toNat → K (.slice A m.toNat c) G') : GC Try.prog 128 [.int .i64 m] G K := by
  refine c_impl_firstChoice_i (by simp) ?_
  simp (maxSteps := 300000) (disch := omega) only [gs, gs2, gs3, gs4, ↓reduceIte, Nat.reduceEqDiff, Int.reduceToNat, Nat.reduceMul, Nat.reduceAdd, Nat.reduceBEq, isLd]
  refine gLoop_intro (fun r T G' => ∃ (k : Nat) (A : Option Addr) (c : Nat), T 3 = .slice A k c ∧ T 5 = .int .i64 m ∧ T 6 = .int .i64 k ∧ r + k = m.toNat ∧ k ≤ m.toNat ∧ New G G' A c ((iota k).map I64) 1 k)
    m.toNat ⟨0, none, 0, by simp (maxSteps := 300000) (disch := omega) only [gs, gs2, gs3, gs4, ↓reduceIte, Nat.reduceEqDiff, Int.reduceToNat, Nat.reduceMul, Nat.reduceAdd, Nat.reduceBEq, isLd], by simp (maxSteps := 300000) (disch := omega) only [gs, gs2, gs3, gs4, ↓reduceIte, Nat.reduceEqDiff, Int.reduceToNat, Nat.reduceMul, Nat.reduceAdd, Nat.reduceBEq, isLd], by simp (maxSteps := 300000) (disch := omega) only [gs, gs2, gs3, gs4, ↓reduceIte, Nat.reduceEqDiff, Int.reduceToNat, Nat.reduceMul, Nat.reduceAdd, Nat.reduceBEq, isLd] <;> rfl, by omega, by omega, New.nil _ _⟩ ?_
  rintro r T G' ⟨k, A, c, e3, e5, e6, hr, hkm, hN⟩
  simp (maxSteps := 300000) (disch := omega) only [gs, gs2, gs3, gs4, ↓reduceIte, Nat.reduceEqDiff, Int.reduceToNat, Nat.reduceMul, Nat.reduceAdd, Nat.reduceBEq, isLd, e3, e5, e6]
  by_cases hkk : (k : Int) < m
  · simp (maxSteps := 300000) (disch := omega) only [gs, gs2, gs3, gs4, ↓reduceIte, Nat.reduceEqDiff, Int.reduceToNat, Nat.reduceMul, Nat.reduceAdd, Nat.reduceBEq, isLd, e3, e5, e6, hkk, gBs]
    refine ⟨by intro v hv; simp at hv; subst hv; rfl, fun b hb => ?_⟩
    refine ap_new hN (Sub.put hb _) (cells_one [.int .i64 (k : Int)] true) (by rfl) (by intro v hv; simp at hv; subst hv; rfl) rfl (by omega) (by omega) (by omega) fun G'' A' c' hN' => ?_
    simp (maxSteps := 300000) (disch := omega) only [gs, gs2, gs3, gs4, ↓reduceIte, Nat.reduceEqDiff, Int.reduceToNat, Nat.reduceMul, Nat.reduceAdd, Nat.reduceBEq, isLd, e3, e5, e6]
    exact ⟨r - 1, by omega, _, Sub.refl _, k + 1, A', c', rfl, rfl, by omega, by omega, hN'.cast (by simp [iota_succ, I64]) rfl⟩
  · simp (maxSteps := 300000) (disch := omega) only [gs, gs2, gs3, gs4, ↓reduceIte, Nat.reduceEqDiff, Int.reduceToNat, Nat.reduceMul, Nat.reduceAdd, Nat.reduceBEq, isLd, e3, e5, e6, hkk]
    rw [show k = m.toNat by omega] at hN ⊢
    exact hk _ _ _ hN
theorem range_app_get {α : Type} {n : Nat} {f : Nat → α} {rest : List α} {i : Nat} (h : i < n) : ((List.range n).map f ++ rest)[i]? = some (f i) := by
  rw [List.getElem?_append_left (by simpa using h), range_get _ _ _ h]
theorem range_app_set {α : Type} {n : Nat} {f : Nat → α} {rest : List α} {i : Nat} {x : α} (h : i < n) : ((List.range n).map f ++ rest).set i x = (List.range n).map (fun v => if v = i then x else f v) ++ rest := by
  rw [List.set_append_left _ _ (by simpa using h), range_set]
theorem put_comm (G : GH) {b b' : Nat} (e e' : Ent) (h : b ≠ b') : put (put G b e) b' e' = put (put G b' e') b e := by
  funext x; unfold put
  by_cases h1 : x = b'
  · subst h1; rw [if_pos rfl, if_neg (fun e => h e.symm), if_pos rfl]
  · rw [if_neg h1]; by_cases h2 : x = b
    · rw [if_pos h2, if_pos h2]
    · rw [if_neg h2, if_neg h2, if_neg h1]
theorem New.ints' {G G' : GH} {A : Option Addr} {c n : Nat} {xs : List Int} (h : New G G' A c (xs.map I64) 1 n) (hn : n = xs.length) : IntS G' A c xs := by subst hn; exact h.ints
/-- the cells of a function on the numbers below n. -/
def fcells (n : Nat) (b : Int → Int) : List Value := (List.range n).map fun v : Nat => I64 (b v)
theorem fcells_len (n : Nat) (b : Int → Int) : (fcells n b).length = n := by simp [fcells]
theorem fcells_get {n : Nat} {b : Int → Int} {rest : List Value} {v : Int} (h0 : 0 ≤ v) (h : v < n) : (fcells n b ++ rest)[v.toNat]? = some (.int .i64 (b v)) := by
  unfold fcells; rw [range_app_get (by omega)]; simp only [I64]; rw [Int.toNat_of_nonneg h0]
theorem fcells_set {n : Nat} {b : Int → Int} {rest : List Value} {v x : Int} (h0 : 0 ≤ v) (h : v < n) : (fcells n b ++ rest).set v.toNat (.int .i64 x) = fcells n (fun w => if w = v then x else b w) ++ rest := by
  unfold fcells
  rw [range_app_set (by omega)]
  congr 1
  exact range_cong fun w hw => by
    by_cases hwv : (w : Int) = v
    · rw [if_pos (by omega)]; simp only [if_pos hwv]; rfl
    · rw [if_neg (by omega)]; simp only [if_neg hwv]
def cMin (b : Int → Int) (e : T3) : Int → Int := fun w => if w = e.2.1 then min (b e.1) (b e.2.1) else if w = e.1 then min (b e.1) (b e.2.1) else b w
def cK (es : List T3) (b : Int → Int) : Nat → Int → Int
  | 0 => b
  | k + 1 => cMin (cK es b k) (es.getD k z3)
def cR (es : List T3) : Nat → Int → Int
  | 0 => fun v => v
  | r + 1 => cK es (cR es r) es.length
def parts (n : Nat) (es : List T3) : List Int := (List.range n).map fun v : Nat => cR es n v
def sumN (f : Int → Int) : Nat → Int
  | 0 => 0
  | k + 1 => sumN f k + f k
theorem sumN_add (f g : Int → Int) : ∀ n : Nat, sumN (fun i => f i + g i) n = sumN f n + sumN g n
  | 0 => rfl
  | n + 1 => by rw [sumN, sumN, sumN, sumN_add f g n]; omega
theorem sumN_zero : ∀ n : Nat, sumN (fun _ => 0) n = 0
  | 0 => rfl
  | n + 1 => by rw [sumN, sumN_zero n]; rfl
theorem sumN_one (v x : Int) (h0 : 0 ≤ v) : ∀ n : Nat, sumN (fun i => if i = v then x else 0) n = if v < n then x else 0
  | 0 => by rw [sumN, if_neg (by omega)]
  | n + 1 => by
    rw [sumN, sumN_one v x h0 n]
    (repeat' split) <;> omega
def updAt (f : Int → Int) (v x : Int) : Int → Int := fun w => if w = v then x else f w
def upd2 (f : Int → Int → Int) (i j x : Int) : Int → Int → Int := fun a b => if a = i ∧ b = j then x else f a b
/-- the matrix after k edges, as the program writes it. -/
def lapK (es : List T3) : Nat → Int → Int → Int
  | 0 => fun _ _ => 0
  | k + 1 => let e := es.getD k z3; let L := lapK es k
    let L1 := upd2 L e.1 e.1 (L e.1 e.1 + e.2.2)
    let L2 := upd2 L1 e.2.1 e.2.1 (L1 e.2.1 e.2.1 + e.2.2)
    upd2 (upd2 L2 e.1 e.2.1 (-e.2.2)) e.2.1 e.1 (-e.2.2)
def okE (es : List T3) : Prop := (∀ i, i < es.length → (es.getD i z3).1 < (es.getD i z3).2.1) ∧ ∀ i, i + 1 < es.length → ltArc (es.getD i z3) (es.getD (i + 1) z3)
theorem GraOk.okE {N : Gra} (h : GraOk N) : okE N.edges := ⟨fun i hi => (h.2.1 i hi).2.1, h.2.2.1⟩
/-- no edge between i and j among the first k. -/
theorem lapK_none {es : List T3} {i j : Int} (hij : i ≠ j) : ∀ k : Nat, (∀ m, m < k → ¬ (((es.getD m z3).1 = i ∧ (es.getD m z3).2.1 = j) ∨ ((es.getD m z3).1 = j ∧ (es.getD m z3).2.1 = i))) → lapK es k i j = 0
  | 0, _ => rfl
  | k + 1, h => by
    have ih := lapK_none hij k fun m hm => h m (by omega)
    have hk := h k (by omega)
    unfold lapK upd2
    dsimp only
    rw [if_neg (by omega), if_neg (by omega), if_neg (by omega), if_neg (by omega)]
    exact ih
theorem lap_new {es : List T3} (h : okE es) {k : Nat} (hk : k < es.length) : lapK es k (es.getD k z3).1 (es.getD k z3).2.1 = 0 ∧ lapK es k (es.getD k z3).2.1 (es.getD k z3).1 = 0 := by
  have hlt := h.1 k hk
  have key : ∀ m, m < k → ¬ ((es.getD m z3).1 = (es.getD k z3).1 ∧ (es.getD m z3).2.1 = (es.getD k z3).2.1) ∧ ¬ ((es.getD m z3).1 = (es.getD k z3).2.1 ∧ (es.getD m z3).2.1 = (es.getD k z3).1) := fun m hm => by
    refine ⟨fun e => ?_, fun e => ?_⟩
    · have := arc_once h.2 (by omega) hk e.1 e.2; omega
    · have := h.1 m (by omega); omega
  exact ⟨lapK_none (by omega) k fun m hm => by have := key m hm; omega, lapK_none (by omega) k fun m hm => by have := key m hm; omega⟩
/-- one step of the matrix, as a sum. -/
theorem lapK_step {es : List T3} (h : okE es) {k : Nat} (hk : k < es.length) (i j : Int) : lapK es (k + 1) i j = lapK es k i j + (if i = (es.getD k z3).1 then (if j = (es.getD k z3).1 then (es.getD k z3).2.2 else 0) + (if j = (es.getD k z3).2.1 then -(es.getD k z3).2.2 else 0) else 0) + (if i = (es.getD k z3).2.1 then (if j = (es.getD k z3).2.1 then (es.getD k z3).2.2 else 0) + (if j = (es.getD k z3).1 then -(es.getD k z3).2.2 else 0) else 0) := by
  have hlt := h.1 k hk
  obtain ⟨n1, n2⟩ := lap_new h hk
  rw [lapK]
  simp only [upd2]
  generalize (es.getD k z3).2.2 = w at *
  generalize (es.getD k z3).1 = u at *
  generalize (es.getD k z3).2.1 = v at *
  by_cases a1 : i = u
  · subst a1
    by_cases b1 : j = i
    · subst b1
      rw [if_neg (by omega), if_neg (by omega), if_neg (by omega), if_pos ⟨rfl, rfl⟩, if_pos rfl, if_pos rfl, if_neg (by omega), if_neg (by omega)]; omega
    · by_cases b2 : j = v
      · subst b2
        rw [if_neg (by omega), if_pos ⟨rfl, rfl⟩, if_pos rfl, if_neg b1, if_pos rfl, if_neg (by omega), n1]; omega
      · rw [if_neg (by omega), if_neg (by omega), if_neg (by omega), if_neg (by omega), if_pos rfl, if_neg b1, if_neg b2, if_neg (by omega)]; omega
  · by_cases a2 : i = v
    · subst a2
      by_cases b1 : j = i
      · subst b1
        rw [if_neg (by omega), if_neg (by omega), if_pos ⟨rfl, rfl⟩, if_neg (by omega), if_neg a1, if_pos rfl, if_pos rfl, if_neg a1]; omega
      · by_cases b2 : j = u
        · subst b2
          rw [if_pos ⟨rfl, rfl⟩, if_neg a1, if_pos rfl, if_neg b1, if_pos rfl, n2]; omega
        · rw [if_neg (by omega), if_neg (by omega), if_neg (by omega), if_neg (by omega), if_neg a1, if_pos rfl, if_neg b1, if_neg b2]; omega
    · rw [if_neg (by omega), if_neg (by omega), if_neg (by omega), if_neg (by omega), if_neg a1, if_neg a2]; omega
theorem Own.t3 {G : GH} {A : Option Addr} {c : Nat} {es : List T3} (h : Own G A c (flat3 es) 3 es.length) : T3S G A c es := h.cells.t3 h.cap
theorem Own.mk {G : GH} {A : Option Addr} {c n : Nat} {k : Int} (h : Own G A c ((marks k n).map I64) 1 n) : IntS G A c (marks k n) := ⟨by rw [marks_len]; exact h.cap, cells_int' h.cells⟩
theorem Own.len {G : GH} {A : Option Addr} {c sz n : Nat} {cs : List Value} (h : Own G A c cs sz n) : cs.length = n * sz := by
  rcases h with ⟨_, _, rfl, rfl⟩ | ⟨b, r, _, _, h, _⟩
  · simp
  · exact h
theorem ap_own {G : GH} {A B : Option Addr} {c n m d sz bytes : Nat} {z cs news : List Value} {K : Value → GH → Prop} (h : Own G A c cs sz n) (hnews : Cells G B news) (hm : news.length = m * sz) (h1 : ∀ v ∈ news, oneB v = true)
    (hz : z.length = sz) (hsz : 0 < sz) (hb : bytes ≤ 4096) (hlen : n + m < 2 ^ 33) (hk : ∀ G' A' c', Own G' A' c' (cs ++ news) sz (n + m) → (∀ H, Sub H G → Off H A → Sub H G' ∧ Off H A') → K (.slice A' (n + m) c') G') :
    gAp sz bytes z (.slice A n c) (.slice B m d) G K := by
  refine ⟨A, n, c, B, m, d, cs, news, rfl, rfl, h.len, fun j v hj => h.cells j v hj, hm, hnews, h1, ?_, by omega, fun hle => ?_, fun hlt b c' hb hc => ?_⟩
  · have : 2 * (n + m) * bytes ≤ 2 * 2 ^ 33 * 4096 := Nat.mul_le_mul (by omega) hb
    omega
  · rcases h with ⟨rfl, rfl, rfl, rfl⟩ | ⟨b, rest, rfl, hb, hcs, hrest, hnc⟩
    · obtain rfl : m = 0 := by omega
      have hn : news = [] := by simpa using hm
      subst hn
      exact .inl ⟨rfl, G, Sub.refl _, hk G none 0 (.inl ⟨rfl, rfl, rfl, rfl⟩) fun H s o => ⟨s, o⟩⟩
    · have hfit : (n + m) * sz ≤ c * sz := Nat.mul_le_mul_right _ hle
      rw [List.length_append] at hrest
      have hfit' := hfit
      rw [Nat.add_mul] at hfit'
      have ho : over (cs ++ rest) (0 + n * sz) news = cs ++ news ++ rest.drop news.length := by
        have := over_app news cs rest
        rw [if_pos (by omega)] at this
        rw [Nat.zero_add, ← hcs]; exact this
      refine .inr ⟨b, 0, cs ++ rest, rfl, hb, by rw [List.length_append]; omega, _, Sub.refl _, hk _ _ _ (.inr ⟨b, rest.drop news.length, rfl, by rw [put_same, ho], by simp [hcs, hm, Nat.add_mul], ?_, hle⟩) fun H s o => ⟨s.skip (o _ rfl), o⟩⟩
      simp only [List.length_append, List.length_drop]
      omega
  · have hcs := h.len
    refine ⟨_, Sub.refl _, hk _ _ _ (.inr ⟨b, zc z (c' - (n + m)), rfl, put_same _ _ _, by simp [hcs, hm, Nat.add_mul], ?_, hc⟩) fun H s o => ⟨s.skip (s.none hb), fun a ha => by cases ha; exact s.none hb⟩⟩
    have e1 : (zc z (c' - (n + m))).length = (c' - (n + m)) * sz := by simp [zc, hz]
    rw [List.length_append, e1, List.length_append, hcs, hm, ← Nat.add_mul, ← Nat.add_mul]
    congr 1; omega
theorem New.low {G H G' : GH} {A : Option Addr} {c sz n : Nat} {cs : List Value} (h : New G G' A c cs sz n) (s : Sub H G) : ∃ G'', Sub G'' G' ∧ New H G'' A c cs sz n := by
  rcases h with ⟨h1, h2, h3, h4, rfl⟩ | ⟨b, r, h1, h2, rfl, h3⟩
  · exact ⟨H, s, .inl ⟨h1, h2, h3, h4, rfl⟩⟩
  · exact ⟨put H b ⟨cs ++ r, true⟩, Sub.both s, .inr ⟨b, r, h1, s.none h2, rfl, h3⟩⟩
theorem Own.new {G H : GH} {A : Option Addr} {c sz n : Nat} {cs : List Value} (h : Own G A c cs sz n) (s : Sub H G) (o : Off H A) : ∃ G'', Sub G'' G ∧ New H G'' A c cs sz n := by
  rcases h with ⟨h1, h2, h3, h4⟩ | ⟨b, r, h1, h2, h3⟩
  · exact ⟨H, s, .inl ⟨h1, h2, h3, h4, rfl⟩⟩
  · exact ⟨put H b ⟨cs ++ r, true⟩, Sub.of_put s h2, .inr ⟨b, r, h1, o _ h1, rfl, h3⟩⟩
theorem Own.blk {G : GH} {b : Nat} {cs : List Value} {sz n : Nat} (h : G b = some ⟨cs, true⟩) (hl : cs.length = n * sz) : Own G (some ⟨b, 0, none⟩) n cs sz n :=
  .inr ⟨b, [], rfl, by simpa using h, hl, by simpa using hl, Nat.le_refl _⟩
theorem blk_ne {G : GH} {a b : Nat} {e : Ent} (h : G a = some e) (k : G b = none) : a ≠ b := fun x => by rw [x, k] at h; cases h
theorem Own.ints' {G : GH} {A : Option Addr} {c n : Nat} {xs : List Int} (h : Own G A c (xs.map I64) 1 n) (hn : n = xs.length) : IntS G A c xs := by subst hn; exact h.ints
theorem Off.nil (H : GH) : Off H none := fun a ha => by cases ha
theorem Own.cast {G : GH} {A : Option Addr} {c sz n : Nat} {cs cs' : List Value} (h : Own G A c cs sz n) (e : cs = cs') {n' : Nat} (en : n = n') : Own G A c cs' sz n' := e ▸ en ▸ h
theorem Own.nil (G : GH) (sz : Nat) : Own G none 0 [] sz 0 := .inl ⟨rfl, rfl, rfl, rfl⟩
theorem New.sn {G G' : GH} {A : Option Addr} {c sz n : Nat} {cs : List Value} (h : New G G' A c cs sz n) (hn : 0 < n) : 0 < Gh.sn A := by
  rcases h with ⟨_, _, h0, _, _⟩ | ⟨b, r, rfl, _⟩
  · omega
  · simp [Gh.sn]
/-- a cell of a new list is written. -/
theorem New.store {G G' : GH} {A : Option Addr} {c n : Nat} {cs : List Value} (h : New G G' A c cs 1 n) {k : Nat} {v : Value} {K : Value → GH → Prop} (hk : k < n) (hv : oneB v = true) (hK : ∀ G'', New G G'' A c (cs.set k v) 1 n → K undef G'') : gSt 1 (.pointer (pa A k)) v G' K := by
  rcases h with ⟨_, _, h0, _, _⟩ | ⟨b, r, rfl, h2, rfl, h3, h4, h5⟩
  · omega
  · rw [pa_mk, Nat.zero_add]
    refine st_one (put_same _ _ _) (by rw [h4]; omega) hv ?_
    rw [put_put', List.set_append_left _ _ (by omega)]
    exact hK _ (.inr ⟨b, r, rfl, h2, rfl, by simpa using h3, by simpa using h4, h5⟩)
theorem IntS.cells {G : GH} {A : Option Addr} {c : Nat} {xs : List Int} (h : IntS G A c xs) : Cells G A (xs.map I64) := fun i v hv => by
  rw [List.getElem?_map] at hv
  obtain ⟨x, hx, rfl⟩ := Option.map_eq_some_iff.1 hv
  have hi := (List.getElem?_eq_some_iff.1 hx).1
  rw [h.rd i hi]
  simp [List.getD, hx, I64]
open Classical in
noncomputable def cnt (P : Int → Prop) : Nat → Nat
  | 0 => 0
  | n + 1 => cnt P n + if P n then 1 else 0
theorem cnt_le (P : Int → Prop) : ∀ n : Nat, cnt P n ≤ n
  | 0 => Nat.le_refl _
  | n + 1 => by have := cnt_le P n; unfold cnt; split <;> omega
theorem cnt_mono {P Q : Int → Prop} : ∀ n : Nat, (∀ v : Nat, v < n → P v → Q v) → cnt P n ≤ cnt Q n
  | 0, _ => Nat.le_refl _
  | n + 1, h => by
    have h1 := cnt_mono n fun v hv => h v (by omega)
    have h2 := h n (by omega)
    unfold cnt
    by_cases hp : P n
    · rw [if_pos hp, if_pos (h2 hp)]; omega
    · rw [if_neg hp]; omega
theorem cnt_lt {P Q : Int → Prop} : ∀ n : Nat, (∀ v : Nat, v < n → P v → Q v) → (∃ v : Nat, v < n ∧ Q v ∧ ¬ P v) → cnt P n < cnt Q n
  | 0, _, ⟨v, hv, _⟩ => by omega
  | n + 1, h, ⟨v, hv, hq, hp⟩ => by
    have h1 := cnt_mono n fun v hv => h v (by omega)
    unfold cnt
    by_cases hvn : v = n
    · subst hvn; rw [if_neg hp, if_pos hq]; omega
    · have h3 := cnt_lt n (fun v hv => h v (by omega)) ⟨v, by omega, hq, hp⟩
      have h2 := h n (by omega)
      by_cases hpn : P n
      · rw [if_pos hpn, if_pos (h2 hpn)]; omega
      · rw [if_neg hpn]; omega
theorem cnt_all {P : Int → Prop} : ∀ n : Nat, n ≤ cnt P n → ∀ v : Nat, v < n → P v
  | 0, _, v, hv => by omega
  | n + 1, h, v, hv => by
    have h1 := cnt_le P n
    unfold cnt at h
    by_cases hp : P n
    · rw [if_pos hp] at h
      by_cases hvn : v = n
      · subst hvn; exact hp
      · exact cnt_all n (by omega) v (by omega)
    · rw [if_neg hp] at h; omega
theorem cMin_le (b : Int → Int) (e : T3) (w : Int) : cMin b e w ≤ b w := by
  unfold cMin; (repeat' split) <;> simp_all <;> omega
theorem cK_le (es : List T3) (b : Int → Int) : ∀ (k : Nat) (w : Int), cK es b k w ≤ b w
  | 0, w => Int.le_refl _
  | k + 1, w => by
    have h1 := cMin_le (cK es b k) (es.getD k z3) w
    have h2 := cK_le es b k w
    show cMin (cK es b k) (es.getD k z3) w ≤ b w
    omega
theorem cK_edge (es : List T3) (b : Int → Int) (i : Nat) : ∀ k : Nat, i < k → cK es b k (es.getD i z3).1 ≤ b (es.getD i z3).2.1 ∧ cK es b k (es.getD i z3).2.1 ≤ b (es.getD i z3).1
  | 0, h => by omega
  | k + 1, h => by
    by_cases hik : i = k
    · subst hik
      have h1 := cK_le es b i (es.getD i z3).1
      have h2 := cK_le es b i (es.getD i z3).2.1
      show cMin (cK es b i) (es.getD i z3) _ ≤ _ ∧ cMin (cK es b i) (es.getD i z3) _ ≤ _
      unfold cMin
      constructor <;> ((repeat' split) <;> omega)
    · have ih := cK_edge es b i k (by omega)
      have h1 := cMin_le (cK es b k) (es.getD k z3) (es.getD i z3).1
      have h2 := cMin_le (cK es b k) (es.getD k z3) (es.getD i z3).2.1
      show cMin (cK es b k) (es.getD k z3) _ ≤ _ ∧ cMin (cK es b k) (es.getD k z3) _ ≤ _
      omega
/-- a bound is closed: an edge does not leave what lies below it. -/
def Clo (es : List T3) (b : Int → Int) (a : Int) : Prop := ∀ i, i < es.length → (b (es.getD i z3).1 ≤ a ↔ b (es.getD i z3).2.1 ≤ a)
theorem clo_keep {es : List T3} {b : Int → Int} {a : Int} (h : Clo es b a) : ∀ (k : Nat), k ≤ es.length → ∀ w, cK es b k w ≤ a ↔ b w ≤ a
  | 0, _, w => Iff.rfl
  | k + 1, hk, w => by
    have ih := clo_keep h k (by omega)
    have hi := h k (by omega)
    have h1 := ih (es.getD k z3).1
    have h2 := ih (es.getD k z3).2.1
    show cMin (cK es b k) (es.getD k z3) w ≤ a ↔ _
    unfold cMin
    by_cases w1 : w = (es.getD k z3).2.1
    · rw [if_pos w1, w1]
      rw [← h2]; rw [← h1, ← h2] at hi; omega
    · rw [if_neg w1]
      by_cases w2 : w = (es.getD k z3).1
      · rw [if_pos w2, w2]
        rw [← h1]; rw [← h1, ← h2] at hi; omega
      · rw [if_neg w2]; exact ih w
theorem clo_round {es : List T3} {n : Nat} (hr : ∀ i, i < es.length → 0 ≤ (es.getD i z3).1 ∧ (es.getD i z3).1 < n ∧ 0 ≤ (es.getD i z3).2.1 ∧ (es.getD i z3).2.1 < n) {b : Int → Int} {a : Int} (h : ∀ v : Nat, v < n → cK es b es.length v ≤ a → b v ≤ a) : Clo es b a := fun i hi => by
  have e := cK_edge es b i es.length hi
  have hb := hr i hi
  have h1 := h (es.getD i z3).1.toNat (by omega)
  have h2 := h (es.getD i z3).2.1.toNat (by omega)
  rw [Int.toNat_of_nonneg (by omega)] at h1 h2
  constructor
  · intro x; exact h2 (by omega)
  · intro x; exact h1 (by omega)
theorem clo_next {es : List T3} {b : Int → Int} {a : Int} (h : Clo es b a) : Clo es (cK es b es.length) a := fun i hi => by
  rw [clo_keep h _ (Nat.le_refl _), clo_keep h _ (Nat.le_refl _)]; exact h i hi
theorem cR_clo {es : List T3} {n : Nat} (hr : ∀ i, i < es.length → 0 ≤ (es.getD i z3).1 ∧ (es.getD i z3).1 < n ∧ 0 ≤ (es.getD i z3).2.1 ∧ (es.getD i z3).2.1 < n) (a : Int) : ∀ r : Nat, Clo es (cR es r) a ∨ r ≤ cnt (fun v => cR es r v ≤ a) n
  | 0 => .inr (Nat.zero_le _)
  | r + 1 => by
    rcases cR_clo hr a r with h | h
    · exact .inl (clo_next h)
    · by_cases hs : ∀ v : Nat, v < n → cR es (r + 1) v ≤ a → cR es r v ≤ a
      · exact .inl (clo_next (clo_round hr hs))
      · refine .inr ?_
        have : ∃ v : Nat, v < n ∧ cR es (r + 1) v ≤ a ∧ ¬ cR es r v ≤ a := Classical.byContradiction fun hx => hs fun v hv h1 => Classical.byContradiction fun h2 => hx ⟨v, hv, h1, h2⟩
        have := cnt_lt (P := fun v => cR es r v ≤ a) (Q := fun v => cR es (r + 1) v ≤ a) n (fun v _ h1 => Int.le_trans (cK_le es (cR es r) es.length v) h1) this
        omega
/-- both ends of each edge have the same. -/
theorem parts_edge {es : List T3} {n : Nat} (hr : ∀ i, i < es.length → 0 ≤ (es.getD i z3).1 ∧ (es.getD i z3).1 < n ∧ 0 ≤ (es.getD i z3).2.1 ∧ (es.getD i z3).2.1 < n) {i : Nat} (hi : i < es.length) : cR es n (es.getD i z3).1 = cR es n (es.getD i z3).2.1 := by
  have key : ∀ a, Clo es (cR es n) a := fun a => by
    rcases cR_clo hr a n with h | h
    · exact h
    · have hall := cnt_all n h
      intro j hj
      have hb := hr j hj
      have h1 := hall (es.getD j z3).1.toNat (by omega)
      have h2 := hall (es.getD j z3).2.1.toNat (by omega)
      rw [Int.toNat_of_nonneg (by omega)] at h1 h2
      exact ⟨fun _ => h2, fun _ => h1⟩
  have h1 := (key (cR es n (es.getD i z3).1) i hi).1 (Int.le_refl _)
  have h2 := (key (cR es n (es.getD i z3).2.1) i hi).2 (Int.le_refl _)
  omega
theorem cR_bd (es : List T3) {n : Nat} (hr : ∀ i, i < es.length → 0 ≤ (es.getD i z3).1 ∧ (es.getD i z3).1 < n ∧ 0 ≤ (es.getD i z3).2.1 ∧ (es.getD i z3).2.1 < n) : ∀ (r : Nat) (k : Nat), k ≤ es.length → ∀ v : Int, 0 ≤ v → v < n → 0 ≤ cK es (cR es r) k v ∧ cK es (cR es r) k v < n
  | 0, 0, _, v, h0, h1 => ⟨h0, h1⟩
  | r + 1, 0, _, v, h0, h1 => cR_bd es hr r es.length (Nat.le_refl _) v h0 h1
  | r, k + 1, hk, v, h0, h1 => by
    have hb := hr k (by omega)
    have i0 := cR_bd es hr r k (by omega) v h0 h1
    have i1 := cR_bd es hr r k (by omega) (es.getD k z3).1 hb.1 hb.2.1
    have i2 := cR_bd es hr r k (by omega) (es.getD k z3).2.1 hb.2.2.1 hb.2.2.2
    show 0 ≤ cMin (cK es (cR es r) k) (es.getD k z3) v ∧ cMin (cK es (cR es r) k) (es.getD k z3) v < n
    unfold cMin
    (repeat' split) <;> omega
theorem New.boxed {G G' : GH} {A : Option Addr} {c sz n b : Nat} {cs : List Value} (h : New G G' A c cs sz n) (hb : G' b = none) (e : Ent) : New (put G b e) (put G' b e) A c cs sz n := by
  rcases h with ⟨h1, h2, h3, h4, rfl⟩ | ⟨b', r, h1, h2, rfl, h3⟩
  · exact .inl ⟨h1, h2, h3, h4, rfl⟩
  · have q := put_none.1 hb
    exact .inr ⟨b', r, h1, by rw [put_ne _ _ q.1.symm]; exact h2, by rw [put_comm _ _ _ q.1.symm], h3⟩
theorem New.rdF {G G' : GH} {A : Option Addr} {c n : Nat} {f : Int → Int} (h : New G G' A c (fcells n f) 1 n) {v : Int} (h0 : 0 ≤ v) (h1 : v < n) : rd G' (pa A v.toNat) = some (.int .i64 (f v)) := by
  refine h.cells v.toNat _ ?_
  have := fcells_get (b := f) (rest := []) h0 h1
  rw [List.append_nil] at this; exact this
theorem New.stF {G G' : GH} {A : Option Addr} {c n o : Nat} {f : Int → Int} (h : New G G' A c (fcells n f) 1 n) {v x : Int} (ho : o = v.toNat) (h0 : 0 ≤ v) (h1 : v < n) {K : Value → GH → Prop} (hK : ∀ G'', New G G'' A c (fcells n (updAt f v x)) 1 n → K undef G'') : gSt 1 (.pointer (pa A o)) (.int .i64 x) G' K := by
  subst ho
  refine New.store h (k := v.toNat) (v := .int .i64 x) (by omega) rfl fun G'' hN => hK _ (hN.cast ?_ rfl)
  have := fcells_set (b := f) (rest := []) (x := x) h0 h1
  rw [List.append_nil, List.append_nil] at this
  exact this
theorem cMin_upd (b : Int → Int) (e : T3) (low : Int) (h : low = min (b e.1) (b e.2.1)) : updAt (updAt b e.1 low) e.2.1 low = cMin b e := by
  funext w; subst h; rfl
def inN (n : Int) (es : List T3) : Prop := ∀ i, i < es.length → (0 ≤ (es.getD i z3).1 ∧ (es.getD i z3).1 < n) ∧ 0 ≤ (es.getD i z3).2.1 ∧ (es.getD i z3).2.1 < n
theorem parts_cells (n : Nat) (es : List T3) : (parts n es).map I64 = fcells n (cR es n) := by simp [parts, fcells]
theorem iota_fcells (n : Nat) : (iota n).map I64 = fcells n (fun v => v) := by simp [iota, fcells]
theorem impl_components_ok {G : GH} {N : Gra} {A : Option Addr} {c : Nat} (h : T3S G A c N.edges) (hn : 1 ≤ N.n ∧ N.n ≤ 12) (hl : N.edges.length ≤ 24) (hr : inN N.n N.edges) {K : Value → GH → Prop}
    (hk : ∀ G' A' c', New G G' A' c' ((parts N.n.toNat N.edges).map I64) 1 N.n.toNat → K (.slice A' N.n.toNat c') G') : GC Try.prog 116 [graV N A c] G K := by
  refine GC_drop (c_impl_components_i (by simp) ?_)
  unfold graV graC
  simp (maxSteps := 300000) (disch := omega) only [gs, gs2, gs3, gs4, ↓reduceIte, Nat.reduceEqDiff, Int.reduceToNat, Nat.reduceMul, Nat.reduceAdd, Nat.reduceBEq, isLd]
  intro b1 hb1
  have s1 := Sub.put hb1 ⟨[.int .i64 N.n, .slice A N.edges.length c], true⟩
  have f0 : rd (put G b1 ⟨[.int .i64 N.n, .slice A N.edges.length c], true⟩) (some ⟨b1, 0, none⟩) = some (.int .i64 N.n) := rd_box _ _ _ 0 _ rfl
  have f1 : rd (put G b1 ⟨[.int .i64 N.n, .slice A N.edges.length c], true⟩) (some ⟨b1, 1, none⟩) = some (.slice A N.edges.length c) := rd_box _ _ _ 1 _ rfl
  simp (maxSteps := 300000) (disch := omega) only [gs, gs2, gs3, gs4, ↓reduceIte, Nat.reduceEqDiff, Int.reduceToNat, Nat.reduceMul, Nat.reduceAdd, Nat.reduceBEq, isLd]
  revert s1 f0 f1
  generalize put G b1 ⟨[.int .i64 N.n, .slice A N.edges.length c], true⟩ = G1
  intro s1 f0 f1
  refine impl_firstChoice_ok (by omega) fun G2 Al cl hN => ?_
  rw [iota_fcells] at hN
  have f0' := rd_sub hN.sub f0
  simp (maxSteps := 300000) (disch := omega) only [gs, gs2, gs3, gs4, ↓reduceIte, Nat.reduceEqDiff, Int.reduceToNat, Nat.reduceMul, Nat.reduceAdd, Nat.reduceBEq, isLd, f0']
  refine gLoop_intro (fun m T G' => ∃ r : Nat, T 1 = .pointer (some ⟨b1, 0, none⟩) ∧ T 3 = .slice Al N.n.toNat cl ∧ T 11 = .int .i64 N.n ∧ T 12 = .int .i64 r ∧ m + r = N.n.toNat ∧ r ≤ N.n.toNat ∧ New G1 G' Al cl (fcells N.n.toNat (cR N.edges r)) 1 N.n.toNat)
    N.n.toNat ⟨0, by simp (maxSteps := 300000) (disch := omega) only [gs, gs2, gs3, gs4, ↓reduceIte, Nat.reduceEqDiff, Int.reduceToNat, Nat.reduceMul, Nat.reduceAdd, Nat.reduceBEq, isLd], by simp (maxSteps := 300000) (disch := omega) only [gs, gs2, gs3, gs4, ↓reduceIte, Nat.reduceEqDiff, Int.reduceToNat, Nat.reduceMul, Nat.reduceAdd, Nat.reduceBEq, isLd], by simp (maxSteps := 300000) (disch := omega) only [gs, gs2, gs3, gs4, ↓reduceIte, Nat.reduceEqDiff, Int.reduceToNat, Nat.reduceMul, Nat.reduceAdd, Nat.reduceBEq, isLd], by simp (maxSteps := 300000) (disch := omega) only [gs, gs2, gs3, gs4, ↓reduceIte, Nat.reduceEqDiff, Int.reduceToNat, Nat.reduceMul, Nat.reduceAdd, Nat.reduceBEq, isLd] <;> rfl, by omega, by omega, hN⟩ ?_
  rintro m T G' ⟨r, e1, e3, e11, e12, hm, hrm, hN⟩
  have f1' := rd_sub hN.sub f1
  simp (maxSteps := 300000) (disch := omega) only [gs, gs2, gs3, gs4, ↓reduceIte, Nat.reduceEqDiff, Int.reduceToNat, Nat.reduceMul, Nat.reduceAdd, Nat.reduceBEq, isLd, e1, e3, e11, e12]
  by_cases hrr : (r : Int) < N.n
  · simp (maxSteps := 300000) (disch := omega) only [gs, gs2, gs3, gs4, ↓reduceIte, Nat.reduceEqDiff, Int.reduceToNat, Nat.reduceMul, Nat.reduceAdd, Nat.reduceBEq, isLd, hrr, e1, e3, e11, e12, f1']
    refine gLoop_intro (fun m' T G'' => ∃ k : Nat, T 1 = .pointer (some ⟨b1, 0, none⟩) ∧ T 3 = .slice Al N.n.toNat cl ∧ T 11 = .int .i64 N.n ∧ T 12 = .int .i64 r ∧ T 15 = .slice A N.edges.length c ∧ T 16 = .int .i64 N.edges.length ∧ T 17 = .int .i64 k ∧ m' + k = N.edges.length ∧ k ≤ N.edges.length ∧ New G1 G'' Al cl (fcells N.n.toNat (cK N.edges (cR N.edges r) k)) 1 N.n.toNat)
      N.edges.length ⟨0, by simp (maxSteps := 300000) (disch := omega) only [gs, gs2, gs3, gs4, ↓reduceIte, Nat.reduceEqDiff, Int.reduceToNat, Nat.reduceMul, Nat.reduceAdd, Nat.reduceBEq, isLd, e1], by simp (maxSteps := 300000) (disch := omega) only [gs, gs2, gs3, gs4, ↓reduceIte, Nat.reduceEqDiff, Int.reduceToNat, Nat.reduceMul, Nat.reduceAdd, Nat.reduceBEq, isLd, e3], by simp (maxSteps := 300000) (disch := omega) only [gs, gs2, gs3, gs4, ↓reduceIte, Nat.reduceEqDiff, Int.reduceToNat, Nat.reduceMul, Nat.reduceAdd, Nat.reduceBEq, isLd, e11], by simp (maxSteps := 300000) (disch := omega) only [gs, gs2, gs3, gs4, ↓reduceIte, Nat.reduceEqDiff, Int.reduceToNat, Nat.reduceMul, Nat.reduceAdd, Nat.reduceBEq, isLd, e12], by simp (maxSteps := 300000) (disch := omega) only [gs, gs2, gs3, gs4, ↓reduceIte, Nat.reduceEqDiff, Int.reduceToNat, Nat.reduceMul, Nat.reduceAdd, Nat.reduceBEq, isLd], by simp (maxSteps := 300000) (disch := omega) only [gs, gs2, gs3, gs4, ↓reduceIte, Nat.reduceEqDiff, Int.reduceToNat, Nat.reduceMul, Nat.reduceAdd, Nat.reduceBEq, isLd], by simp (maxSteps := 300000) (disch := omega) only [gs, gs2, gs3, gs4, ↓reduceIte, Nat.reduceEqDiff, Int.reduceToNat, Nat.reduceMul, Nat.reduceAdd, Nat.reduceBEq, isLd] <;> rfl, by omega, by omega, hN⟩ ?_
    rintro m' T G'' ⟨k, e1, e3, e11, e12, e15, e16, e17, hm', hkm, hN⟩
    have hh := (h.sub s1).sub hN.sub
    have hsn := hh.sn
    have p0 := hh.r0
    have p1 := hh.r1
    have p2 := hh.r2
    have hsl := hN.sn (by omega)
    simp (maxSteps := 300000) (disch := omega) only [gs, gs2, gs3, gs4, ↓reduceIte, Nat.reduceEqDiff, Int.reduceToNat, Nat.reduceMul, Nat.reduceAdd, Nat.reduceBEq, isLd, e1, e3, e11, e12, e15, e16, e17]
    by_cases hk : (k : Int) < N.edges.length
    · simp (maxSteps := 300000) (disch := omega) only [gs, gs2, gs3, gs4, ↓reduceIte, Nat.reduceEqDiff, Int.reduceToNat, Nat.reduceMul, Nat.reduceAdd, Nat.reduceBEq, isLd, hk, e1, e3, e11, e12, e15, e16, e17, p0, p1, p2]
      intro b5 hb5
      simp (maxSteps := 300000) (disch := omega) only [gs, gs2, gs3, gs4, ↓reduceIte, Nat.reduceEqDiff, Int.reduceToNat, Nat.reduceMul, Nat.reduceAdd, Nat.reduceBEq, isLd, e1, e3, e11, e12, e15, e16, e17]
      refine st_fresh (vs := c3 (N.edges.getD k z3)) rfl rfl rfl (c3_one _) ?_
      have hB := hN.boxed hb5 ⟨c3 (N.edges.getD k z3), true⟩
      have hb1' := hN.sub.none hb5
      have q0 : rd (put G1 b5 ⟨c3 (N.edges.getD k z3), true⟩) (some ⟨b5, 0, none⟩) = some (.int .i64 (N.edges.getD k z3).1) := rd_box _ _ _ 0 _ rfl
      have q1 : rd (put G1 b5 ⟨c3 (N.edges.getD k z3), true⟩) (some ⟨b5, 1, none⟩) = some (.int .i64 (N.edges.getD k z3).2.1) := rd_box _ _ _ 1 _ rfl
      have sH := Sub.put hb1' ⟨c3 (N.edges.getD k z3), true⟩
      clear p0 p1 p2 f1'
      revert hB q0 q1 sH
      generalize put G1 b5 ⟨c3 (N.edges.getD k z3), true⟩ = H
      generalize put G'' b5 ⟨c3 (N.edges.getD k z3), true⟩ = G3
      intro hB q0 q1 sH
      obtain ⟨o1, o2⟩ := hr k (by omega)
      have u := hB.rdF (v := (N.edges.getD k z3).1) (by omega) (by omega)
      have v := hB.rdF (v := (N.edges.getD k z3).2.1) (by omega) (by omega)
      have r0 := rd_sub hB.sub q0
      have r1 := rd_sub hB.sub q1
      have hst : cK N.edges (cR N.edges r) (k + 1) = cMin (cK N.edges (cR N.edges r) k) (N.edges.getD k z3) := rfl
      have hup := cMin_upd (cK N.edges (cR N.edges r) k) (N.edges.getD k z3)
      generalize cK N.edges (cR N.edges r) k = F at *
      simp (maxSteps := 300000) (disch := omega) only [gs, gs2, gs3, gs4, ↓reduceIte, Nat.reduceEqDiff, Int.reduceToNat, Nat.reduceMul, Nat.reduceAdd, Nat.reduceBEq, isLd, e1, e3, e11, e12, e15, e16, e17, u, v, r0, r1]
      have hlow : (if F (N.edges.getD k z3).2.1 < F (N.edges.getD k z3).1 then F (N.edges.getD k z3).2.1 else F (N.edges.getD k z3).1) = min (F (N.edges.getD k z3).1) (F (N.edges.getD k z3).2.1) := by split <;> omega
      rw [hlow]
      generalize hlo : min (F (N.edges.getD k z3).1) (F (N.edges.getD k z3).2.1) = low at *
      refine hB.stF (v := (N.edges.getD k z3).1) rfl (by omega) (by omega) fun G4 hC => ?_
      have r0 := rd_sub hC.sub q0
      have r1 := rd_sub hC.sub q1
      simp (maxSteps := 300000) (disch := omega) only [gs, gs2, gs3, gs4, ↓reduceIte, Nat.reduceEqDiff, Int.reduceToNat, Nat.reduceMul, Nat.reduceAdd, Nat.reduceBEq, isLd, e1, e3, e11, e12, e15, e16, e17, r0, r1]
      refine hC.stF (v := (N.edges.getD k z3).2.1) rfl (by omega) (by omega) fun G5 hD => ?_
      simp (maxSteps := 300000) (disch := omega) only [gs, gs2, gs3, gs4, ↓reduceIte, Nat.reduceEqDiff, Int.reduceToNat, Nat.reduceMul, Nat.reduceAdd, Nat.reduceBEq, isLd, e1, e3, e11, e12, e15, e16, e17]
      rw [hup low rfl, ← hst] at hD
      obtain ⟨G6, s6, hE⟩ := hD.low sH
      exact ⟨m' - 1, by omega, G6, s6, k + 1, rfl, by omega, by omega, hE⟩
    · simp (maxSteps := 300000) (disch := omega) only [gs, gs2, gs3, gs4, ↓reduceIte, Nat.reduceEqDiff, Int.reduceToNat, Nat.reduceMul, Nat.reduceAdd, Nat.reduceBEq, isLd, hk, e1, e3, e11, e12, e15, e16, e17]
      obtain rfl : k = N.edges.length := by omega
      exact ⟨m - 1, by omega, G'', Sub.refl _, r + 1, rfl, by omega, by omega, hN⟩
  · simp (maxSteps := 300000) (disch := omega) only [gs, gs2, gs3, gs4, ↓reduceIte, Nat.reduceEqDiff, Int.reduceToNat, Nat.reduceMul, Nat.reduceAdd, Nat.reduceBEq, isLd, hrr, e1, e3, e11, e12]
    obtain rfl : r = N.n.toNat := by omega
    obtain ⟨G6, s6, hE⟩ := hN.low s1
    exact ⟨G6, s6, hk _ _ _ (by rw [parts_cells]; exact hE)⟩
/-- what can still be sent. -/
def left (es : List T3) (t : Int) (fl : List Int) : Nat := (24000000 - exc es fl t es.length).toNat
theorem mulB {a b : Int} {A B : Nat} (ha : -(A : Int) ≤ a ∧ a ≤ A) (hb : -(B : Int) ≤ b ∧ b ≤ B) : -((A * B : Nat) : Int) ≤ a * b ∧ a * b ≤ ((A * B : Nat) : Int) := by
  have h1 : a.natAbs ≤ A := by omega
  have h2 : b.natAbs ≤ B := by omega
  have h3 : (a * b).natAbs ≤ A * B := by rw [Int.natAbs_mul]; exact Nat.mul_le_mul h1 h2
  omega
/-- one cell of one's own block is written: all else stays. -/
def Keep (b : Nat) (G G' : GH) : Prop := ∀ x, x ≠ b → G' x = G x
theorem rd_fcells {G : GH} {b n : Nat} {f : Int → Int} (h : G b = some ⟨fcells n f, true⟩) {v : Int} (h0 : 0 ≤ v) (h1 : v < n) : rd G (some ⟨b, v.toNat, none⟩) = some (.int .i64 (f v)) := by
  simp only [rd, h, Option.bind_some]
  have := fcells_get (b := f) (rest := []) h0 h1
  rw [List.append_nil] at this; exact this
theorem st_fcells {G : GH} {b n : Nat} {f : Int → Int} (h : G b = some ⟨fcells n f, true⟩) {v x : Int} (h0 : 0 ≤ v) (h1 : v < n) {K : Value → GH → Prop} (hk : ∀ G', G' b = some ⟨fcells n (updAt f v x), true⟩ → Keep b G G' → K undef G') : gSt 1 (.pointer (some ⟨b, v.toNat, none⟩)) (.int .i64 x) G K := by
  refine st_one h (by rw [fcells_len]; omega) rfl (hk _ ?_ fun y hy => put_ne _ _ hy)
  rw [put_same]
  have := fcells_set (b := f) (rest := []) (x := x) h0 h1
  rw [List.append_nil, List.append_nil] at this
  rw [this]; rfl
theorem sub_keep {b : Nat} {G G' H : GH} (h : Keep b G G') (hb : H b = none) (s : Sub H G) : Sub H G' := fun x e hx => by
  have : x ≠ b := fun e' => by rw [e', hb] at hx; cases hx
  rw [h x this]; exact s x e hx
theorem lapK_bd {es : List T3} (h : okE es) (hw : ∀ i, i < es.length → 0 ≤ (es.getD i z3).2.2 ∧ (es.getD i z3).2.2 ≤ 9) (i j : Int) : ∀ k : Nat, k ≤ es.length → -(9 * (k : Int)) ≤ lapK es k i j ∧ lapK es k i j ≤ 9 * k
  | 0, _ => by simp [lapK]
  | k + 1, hk => by
    have ih := lapK_bd h hw i j k (by omega)
    have h1 := h.1 k (by omega)
    have h2 := hw k (by omega)
    rw [lapK_step h (by omega)]
    (repeat' split) <;> omega
def mxO (B : Nat → Nat) (n m : Nat) : List Value := (List.range n).map fun i => if i < m then .slice (some ⟨B i, 0, none⟩) n n else .slice none 0 0
structure Mx (G0 G : GH) (bO : Nat) (B : Nat → Nat) (n m : Nat) (f : Int → Int → Int) : Prop where
  sub : Sub G0 G
  nO : G0 bO = none
  o : G bO = some ⟨mxO B n m, true⟩
  nB : ∀ i, i < m → G0 (B i) = none
  b : ∀ i : Nat, i < m → G (B i) = some ⟨fcells n (f i), true⟩
  inj : ∀ i j, i < m → j < m → B i = B j → i = j
  ne : ∀ i, i < m → B i ≠ bO
theorem mxO_get {B : Nat → Nat} {n m i : Nat} (h : i < n) : (mxO B n m)[i]? = some (if i < m then .slice (some ⟨B i, 0, none⟩) n n else .slice none 0 0) := range_get _ _ _ h
theorem mxO_len (B : Nat → Nat) (n m : Nat) : (mxO B n m).length = n := by simp [mxO]
theorem Mx.row {G0 G : GH} {bO n m : Nat} {B : Nat → Nat} {f : Int → Int → Int} (h : Mx G0 G bO B n m f) {i : Nat} (hi : i < m) (hn : i < n) : rd G (some ⟨bO, i, none⟩) = some (.slice (some ⟨B i, 0, none⟩) n n) := by
  simp only [rd, h.o, Option.bind_some]; rw [mxO_get hn, if_pos hi]
theorem Mx.get {G0 G : GH} {bO n m : Nat} {B : Nat → Nat} {f : Int → Int → Int} (h : Mx G0 G bO B n m f) {u v : Int} (hu : 0 ≤ u) (hi : u < m) (h0 : 0 ≤ v) (h1 : v < n) : rd G (some ⟨B u.toNat, v.toNat, none⟩) = some (.int .i64 (f u v)) := by
  have := rd_fcells (h.b u.toNat (by omega)) h0 h1
  rw [Int.toNat_of_nonneg hu] at this; exact this
theorem Mx.low {H G0 G : GH} {bO n m : Nat} {B : Nat → Nat} {f : Int → Int → Int} (h : Mx G0 G bO B n m f) (s : Sub H G0) : Mx H G bO B n m f := ⟨s.trans h.sub, s.none h.nO, h.o, fun i hi => s.none (h.nB i hi), h.b, h.inj, h.ne⟩
theorem Mx.box {G0 G : GH} {bO n m x : Nat} {B : Nat → Nat} {f : Int → Int → Int} (h : Mx G0 G bO B n m f) (hx : G x = none) (e : Ent) : Mx (put G0 x e) (put G x e) bO B n m f := by
  have hO : bO ≠ x := blk_ne h.o hx
  have hB : ∀ i, i < m → B i ≠ x := fun i hi => blk_ne (h.b i hi) hx
  exact ⟨h.sub.both, by rw [put_ne _ _ hO]; exact h.nO, by rw [put_ne _ _ hO]; exact h.o, fun i hi => by rw [put_ne _ _ (hB i hi)]; exact h.nB i hi, fun i hi => by rw [put_ne _ _ (hB i hi)]; exact h.b i hi, h.inj, h.ne⟩
theorem Mx.store {G0 G : GH} {bO n m : Nat} {B : Nat → Nat} {f : Int → Int → Int} (h : Mx G0 G bO B n m f) {u v x : Int} (hu : 0 ≤ u) (hi : u < m) (h0 : 0 ≤ v) (h1 : v < n) {K : Value → GH → Prop} (hk : ∀ G', Mx G0 G' bO B n m (upd2 f u v x) → K undef G') : gSt 1 (.pointer (some ⟨B u.toNat, v.toNat, none⟩)) (.int .i64 x) G K := by
  have hu' : ((u.toNat : Nat) : Int) = u := Int.toNat_of_nonneg hu
  refine st_fcells (h.b u.toNat (by omega)) h0 h1 fun G' hF hK => hk G' ?_
  refine ⟨sub_keep hK (h.nB _ (by omega)) h.sub, h.nO, by rw [hK _ (h.ne _ (by omega)).symm]; exact h.o, h.nB, fun i hi' => ?_, h.inj, h.ne⟩
  by_cases e : i = u.toNat
  · subst e
    rw [hF, hu']
    congr 3
    funext b
    simp [updAt, upd2]
  · rw [hK _ (fun x => e (h.inj _ _ hi' (by omega) x)), h.b i hi']
    congr 3
    funext b
    unfold upd2; rw [if_neg (by omega)]
theorem Mx.add {G0 G : GH} {bO n m b : Nat} {B : Nat → Nat} (h : Mx G0 G bO B n m (fun _ _ => 0)) (hm : m < n) (hb : G b = none) :
    Mx G0 (put (put G b ⟨fcells n (fun _ => 0), true⟩) bO ⟨(mxO B n m).set m (.slice (some ⟨b, 0, none⟩) n n), true⟩) bO (fun i => if i = m then b else B i) n (m + 1) (fun _ _ => 0) := by
  have hO : bO ≠ b := blk_ne h.o hb
  have hB : ∀ i, i < m → B i ≠ b := fun i hi => blk_ne (h.b i hi) hb
  refine ⟨?_, h.nO, ?_, fun i hi => ?_, fun i hi => ?_, fun i j hi hj e => ?_, fun i hi => ?_⟩
  · exact (h.sub.skip (h.sub.none hb)).skip h.nO
  · rw [put_same]
    congr 2
    unfold mxO
    rw [range_set]
    refine range_cong fun i hi => ?_
    by_cases e : i = m
    · subst e; simp
    · by_cases e2 : i < m
      · rw [if_neg e, if_pos e2, if_pos (by omega)]; simp only [if_neg e]
      · rw [if_neg e, if_neg e2, if_neg (by omega)]
  · by_cases e : i = m
    · subst e; simp only [if_pos]; exact h.sub.none hb
    · simp only [if_neg e]; exact h.nB i (by omega)
  · by_cases e : i = m
    · subst e; simp only [if_pos]; rw [put_ne _ _ hO.symm, put_same]
    · simp only [if_neg e]; rw [put_ne _ _ (h.ne i (by omega)), put_ne _ _ (hB i (by omega))]; exact h.b i (by omega)
  · try dsimp only at e
    by_cases e1 : i = m
    · by_cases e2 : j = m
      · omega
      · rw [if_pos e1, if_neg e2] at e; exact absurd e.symm (hB j (by omega))
    · by_cases e2 : j = m
      · rw [if_neg e1, if_pos e2] at e; exact absurd e (hB i (by omega))
      · rw [if_neg e1, if_neg e2] at e; exact h.inj i j (by omega) (by omega) e
  · by_cases e : i = m
    · subst e; simp only [if_pos]; exact hO.symm
    · simp only [if_neg e]; exact h.ne i (by omega)
theorem Mx.new {G : GH} {bO n : Nat} (hb : G bO = none) (f : Int → Int → Int) : Mx G (put G bO ⟨List.replicate n (.slice none 0 0), true⟩) bO (fun _ => 0) n 0 f :=
  ⟨Sub.put hb _, hb, by rw [put_same, rep_range]; rfl, fun i hi => by omega, fun i hi => by omega, fun i j hi hj => by omega, fun i hi => by omega⟩
theorem impl_laplacian_ok {G : GH} {N : Gra} {A : Option Addr} {c : Nat} (h : T3S G A c N.edges) (hn : GraOk N) {K : Value → GH → Prop}
    (hk : ∀ G' bO B, Mx G G' bO B N.n.toNat N.n.toNat (lapK N.edges N.edges.length) → K (.slice (some ⟨bO, 0, none⟩) N.n.toNat N.n.toNat) G') : GC Try.prog 148 [graV N A c] G K := by
  refine GC_drop (c_impl_laplacian_i (by simp) ?_)
  have hn1 := hn.1
  have hn4 := hn.2.2.2
  unfold graV graC
  simp (maxSteps := 300000) (disch := omega) only [gs, gs2, gs3, gs4, ↓reduceIte, Nat.reduceEqDiff, Int.reduceToNat, Nat.reduceMul, Nat.reduceAdd, Nat.reduceBEq, isLd]
  intro b1 hb1
  have s1 := Sub.put hb1 ⟨[.int .i64 N.n, .slice A N.edges.length c], true⟩
  have f0 : rd (put G b1 ⟨[.int .i64 N.n, .slice A N.edges.length c], true⟩) (some ⟨b1, 0, none⟩) = some (.int .i64 N.n) := rd_box _ _ _ 0 _ rfl
  have f1 : rd (put G b1 ⟨[.int .i64 N.n, .slice A N.edges.length c], true⟩) (some ⟨b1, 1, none⟩) = some (.slice A N.edges.length c) := rd_box _ _ _ 1 _ rfl
  revert s1 f0 f1
  generalize put G b1 ⟨[.int .i64 N.n, .slice A N.edges.length c], true⟩ = G1
  intro s1 f0 f1
  simp (maxSteps := 300000) (disch := omega) only [gs, gs2, gs3, gs4, ↓reduceIte, Nat.reduceEqDiff, Int.reduceToNat, Nat.reduceMul, Nat.reduceAdd, Nat.reduceBEq, isLd, f0, f1]
  refine ⟨N.n.toNat, N.n.toNat, by rw [Int.toNat_of_nonneg (by omega)], by rw [Int.toNat_of_nonneg (by omega)], Nat.le_refl _, by omega, by omega, fun bO hbO => ?_⟩
  rw [zc_one]
  have hM0 := Mx.new (n := N.n.toNat) hbO (fun _ _ => 0)
  revert hM0
  generalize put G1 bO ⟨List.replicate N.n.toNat (.slice none 0 0), true⟩ = G2
  intro hM0
  simp (maxSteps := 300000) (disch := omega) only [gs, gs2, gs3, gs4, ↓reduceIte, Nat.reduceEqDiff, Int.reduceToNat, Nat.reduceMul, Nat.reduceAdd, Nat.reduceBEq, isLd]
  refine gLoop_intro (fun m T G' => ∃ (k : Nat) (B : Nat → Nat), T 1 = .pointer (some ⟨b1, 0, none⟩) ∧ T 3 = .slice (some ⟨bO, 0, none⟩) N.n.toNat N.n.toNat ∧ T 11 = .int .i64 N.n ∧ T 12 = .int .i64 k ∧ m + k = N.n.toNat ∧ k ≤ N.n.toNat ∧ Mx G1 G' bO B N.n.toNat k (fun _ _ => 0))
    N.n.toNat ⟨0, _, by simp (maxSteps := 300000) (disch := omega) only [gs, gs2, gs3, gs4, ↓reduceIte, Nat.reduceEqDiff, Int.reduceToNat, Nat.reduceMul, Nat.reduceAdd, Nat.reduceBEq, isLd], by simp (maxSteps := 300000) (disch := omega) only [gs, gs2, gs3, gs4, ↓reduceIte, Nat.reduceEqDiff, Int.reduceToNat, Nat.reduceMul, Nat.reduceAdd, Nat.reduceBEq, isLd], by simp (maxSteps := 300000) (disch := omega) only [gs, gs2, gs3, gs4, ↓reduceIte, Nat.reduceEqDiff, Int.reduceToNat, Nat.reduceMul, Nat.reduceAdd, Nat.reduceBEq, isLd] <;> rw [Int.toNat_of_nonneg (by omega)], by simp (maxSteps := 300000) (disch := omega) only [gs, gs2, gs3, gs4, ↓reduceIte, Nat.reduceEqDiff, Int.reduceToNat, Nat.reduceMul, Nat.reduceAdd, Nat.reduceBEq, isLd] <;> rfl, by omega, by omega, hM0⟩ ?_
  clear hM0
  rintro m T G' ⟨k, B, e1, e3, e11, e12, hm, hkm, hM⟩
  have g0 := rd_sub hM.sub f0
  have g1 := rd_sub hM.sub f1
  simp (maxSteps := 300000) (disch := omega) only [gs, gs2, gs3, gs4, ↓reduceIte, Nat.reduceEqDiff, Int.reduceToNat, Nat.reduceMul, Nat.reduceAdd, Nat.reduceBEq, isLd, e1, e3, e11, e12]
  by_cases hkk : (k : Int) < N.n
  · simp (maxSteps := 300000) (disch := omega) only [gs, gs2, gs3, gs4, ↓reduceIte, Nat.reduceEqDiff, Int.reduceToNat, Nat.reduceMul, Nat.reduceAdd, Nat.reduceBEq, isLd, e1, e3, e11, e12, hkk, g0]
    refine ⟨N.n.toNat, N.n.toNat, by rw [Int.toNat_of_nonneg (by omega)], by rw [Int.toNat_of_nonneg (by omega)], Nat.le_refl _, by omega, by omega, fun b hb => ?_⟩
    have hz : zc [.int .i64 0] N.n.toNat = fcells N.n.toNat (fun _ => 0) := by rw [zc_one, rep_range]; rfl
    rw [hz]
    simp (maxSteps := 300000) (disch := omega) only [gs, gs2, gs3, gs4, ↓reduceIte, Nat.reduceEqDiff, Int.reduceToNat, Nat.reduceMul, Nat.reduceAdd, Nat.reduceBEq, isLd, e1, e3, e11, e12]
    have hO : bO ≠ b := blk_ne hM.o hb
    refine st_one (cs := mxO B N.n.toNat k) (by rw [put_ne _ _ hO]; exact hM.o) (by rw [mxO_len]; omega) rfl ?_
    have hM2 := hM.add (by omega) hb
    simp (maxSteps := 300000) (disch := omega) only [gs, gs2, gs3, gs4, ↓reduceIte, Nat.reduceEqDiff, Int.reduceToNat, Nat.reduceMul, Nat.reduceAdd, Nat.reduceBEq, isLd, e1, e3, e11, e12]
    exact ⟨m - 1, by omega, _, Sub.refl _, k + 1, _, rfl, by omega, by omega, hM2⟩
  · simp (maxSteps := 300000) (disch := omega) only [gs, gs2, gs3, gs4, ↓reduceIte, Nat.reduceEqDiff, Int.reduceToNat, Nat.reduceMul, Nat.reduceAdd, Nat.reduceBEq, isLd, e1, e3, e11, e12, hkk, g1]
    obtain rfl : k = N.n.toNat := by omega
    refine gLoop_intro (fun m T G' => ∃ (k : Nat), T 3 = .slice (some ⟨bO, 0, none⟩) N.n.toNat N.n.toNat ∧ T 23 = .slice A N.edges.length c ∧ T 24 = .int .i64 N.edges.length ∧ T 25 = .int .i64 k ∧ m + k = N.edges.length ∧ k ≤ N.edges.length ∧ Mx G1 G' bO B N.n.toNat N.n.toNat (lapK N.edges k))
      N.edges.length ⟨0, by simp (maxSteps := 300000) (disch := omega) only [gs, gs2, gs3, gs4, ↓reduceIte, Nat.reduceEqDiff, Int.reduceToNat, Nat.reduceMul, Nat.reduceAdd, Nat.reduceBEq, isLd, e3], by simp (maxSteps := 300000) (disch := omega) only [gs, gs2, gs3, gs4, ↓reduceIte, Nat.reduceEqDiff, Int.reduceToNat, Nat.reduceMul, Nat.reduceAdd, Nat.reduceBEq, isLd], by simp (maxSteps := 300000) (disch := omega) only [gs, gs2, gs3, gs4, ↓reduceIte, Nat.reduceEqDiff, Int.reduceToNat, Nat.reduceMul, Nat.reduceAdd, Nat.reduceBEq, isLd], by simp (maxSteps := 300000) (disch := omega) only [gs, gs2, gs3, gs4, ↓reduceIte, Nat.reduceEqDiff, Int.reduceToNat, Nat.reduceMul, Nat.reduceAdd, Nat.reduceBEq, isLd] <;> rfl, by omega, by omega, hM⟩ ?_
    clear e1 e3 e11 e12 hkk hm hM g0 g1
    rintro m T G' ⟨k, e3, e23, e24, e25, hm, hkm, hM⟩
    have hh := (h.sub s1).sub hM.sub
    have hsn := hh.sn
    have p0 := hh.r0
    have p1 := hh.r1
    have p2 := hh.r2
    simp (maxSteps := 300000) (disch := omega) only [gs, gs2, gs3, gs4, ↓reduceIte, Nat.reduceEqDiff, Int.reduceToNat, Nat.reduceMul, Nat.reduceAdd, Nat.reduceBEq, isLd, e3, e23, e24, e25]
    by_cases hkk : (k : Int) < N.edges.length
    · simp (maxSteps := 300000) (disch := omega) only [gs, gs2, gs3, gs4, ↓reduceIte, Nat.reduceEqDiff, Int.reduceToNat, Nat.reduceMul, Nat.reduceAdd, Nat.reduceBEq, isLd, e3, e23, e24, e25, hkk, p0, p1, p2]
      intro b6 hb6
      simp (maxSteps := 300000) (disch := omega) only [gs, gs2, gs3, gs4, ↓reduceIte, Nat.reduceEqDiff, Int.reduceToNat, Nat.reduceMul, Nat.reduceAdd, Nat.reduceBEq, isLd, e3, e23, e24, e25]
      refine st_fresh (vs := c3 (N.edges.getD k z3)) rfl rfl rfl (c3_one _) ?_
      have hM1 := hM.box hb6 ⟨c3 (N.edges.getD k z3), true⟩
      have hsub : Sub G1 (put G1 b6 ⟨c3 (N.edges.getD k z3), true⟩) := Sub.put (hM.sub.none hb6) _
      have q0 : rd (put G1 b6 ⟨c3 (N.edges.getD k z3), true⟩) (some ⟨b6, 0, none⟩) = some (.int .i64 (N.edges.getD k z3).1) := rd_box _ _ _ 0 _ rfl
      have q1 : rd (put G1 b6 ⟨c3 (N.edges.getD k z3), true⟩) (some ⟨b6, 1, none⟩) = some (.int .i64 (N.edges.getD k z3).2.1) := rd_box _ _ _ 1 _ rfl
      have q2 : rd (put G1 b6 ⟨c3 (N.edges.getD k z3), true⟩) (some ⟨b6, 2, none⟩) = some (.int .i64 (N.edges.getD k z3).2.2) := rd_box _ _ _ 2 _ rfl
      obtain ⟨o1, o2, o3, o4⟩ := hn.2.1 k (by omega)
      have hl : ∀ i j, -216 ≤ lapK N.edges k i j ∧ lapK N.edges k i j ≤ 216 := fun i j => by
        have := lapK_bd hn.okE (fun i hi => by have := hn.2.1 i hi; unfold okEdge at this; omega) i j k hkm
        omega
      have hlap : lapK N.edges (k + 1) = upd2 (upd2 (upd2 (upd2 (lapK N.edges k) (N.edges.getD k z3).1 (N.edges.getD k z3).1 (lapK N.edges k (N.edges.getD k z3).1 (N.edges.getD k z3).1 + (N.edges.getD k z3).2.2)) (N.edges.getD k z3).2.1 (N.edges.getD k z3).2.1 (upd2 (lapK N.edges k) (N.edges.getD k z3).1 (N.edges.getD k z3).1 (lapK N.edges k (N.edges.getD k z3).1 (N.edges.getD k z3).1 + (N.edges.getD k z3).2.2) (N.edges.getD k z3).2.1 (N.edges.getD k z3).2.1 + (N.edges.getD k z3).2.2)) (N.edges.getD k z3).1 (N.edges.getD k z3).2.1 (-(N.edges.getD k z3).2.2)) (N.edges.getD k z3).2.1 (N.edges.getD k z3).1 (-(N.edges.getD k z3).2.2) := rfl
      clear hM p0 p1 p2 hh hsn
      revert hM1 hsub q0 q1 q2
      generalize put G' b6 ⟨c3 (N.edges.getD k z3), true⟩ = H
      generalize put G1 b6 ⟨c3 (N.edges.getD k z3), true⟩ = H0
      intro hM1 hsub q0 q1 q2
      generalize (N.edges.getD k z3).1 = u at *
      generalize (N.edges.getD k z3).2.1 = w at *
      generalize (N.edges.getD k z3).2.2 = z at *
      generalize lapK N.edges k = L at *
      have r0 := rd_sub hM1.sub q0
      have r1 := rd_sub hM1.sub q1
      have r2 := rd_sub hM1.sub q2
      have ru := hM1.row (i := u.toNat) (by omega) (by omega)
      have hg := hM1.get (u := u) (v := u) (by omega) (by omega) (by omega) (by omega)
      have hl1 := hl u u
      have hl2 := hl w w
      simp (maxSteps := 300000) (disch := omega) only [gs, gs2, gs3, gs4, ↓reduceIte, Nat.reduceEqDiff, Int.reduceToNat, Nat.reduceMul, Nat.reduceAdd, Nat.reduceBEq, isLd, e3, e23, e24, e25, r0, r1, r2, ru, hg]
      refine hM1.store (u := u) (v := u) (by omega) (by omega) (by omega) (by omega) fun H2 hM2 => ?_
      have r0 := rd_sub hM2.sub q0
      have r1 := rd_sub hM2.sub q1
      have r2 := rd_sub hM2.sub q2
      have rw2 := hM2.row (i := w.toNat) (by omega) (by omega)
      have hg := hM2.get (u := w) (v := w) (by omega) (by omega) (by omega) (by omega)
      have e5 : upd2 L u u (L u u + z) w w = L w w := if_neg (by omega)
      rw [e5] at hg hlap
      simp (maxSteps := 300000) (disch := omega) only [gs, gs2, gs3, gs4, ↓reduceIte, Nat.reduceEqDiff, Int.reduceToNat, Nat.reduceMul, Nat.reduceAdd, Nat.reduceBEq, isLd, e3, e23, e24, e25, r0, r1, r2, rw2, hg]
      refine hM2.store (u := w) (v := w) (by omega) (by omega) (by omega) (by omega) fun H3 hM3 => ?_
      have r0 := rd_sub hM3.sub q0
      have r1 := rd_sub hM3.sub q1
      have r2 := rd_sub hM3.sub q2
      have ru := hM3.row (i := u.toNat) (by omega) (by omega)
      simp (maxSteps := 300000) (disch := omega) only [gs, gs2, gs3, gs4, ↓reduceIte, Nat.reduceEqDiff, Int.reduceToNat, Nat.reduceMul, Nat.reduceAdd, Nat.reduceBEq, isLd, e3, e23, e24, e25, r0, r1, r2, ru]
      refine hM3.store (u := u) (v := w) (by omega) (by omega) (by omega) (by omega) fun H4 hM4 => ?_
      have r0 := rd_sub hM4.sub q0
      have r1 := rd_sub hM4.sub q1
      have r2 := rd_sub hM4.sub q2
      have rw4 := hM4.row (i := w.toNat) (by omega) (by omega)
      simp (maxSteps := 300000) (disch := omega) only [gs, gs2, gs3, gs4, ↓reduceIte, Nat.reduceEqDiff, Int.reduceToNat, Nat.reduceMul, Nat.reduceAdd, Nat.reduceBEq, isLd, e3, e23, e24, e25, r0, r1, r2, rw4]
      refine hM4.store (u := w) (v := u) (by omega) (by omega) (by omega) (by omega) fun H5 hM5 => ?_
      simp (maxSteps := 300000) (disch := omega) only [gs, gs2, gs3, gs4, ↓reduceIte, Nat.reduceEqDiff, Int.reduceToNat, Nat.reduceMul, Nat.reduceAdd, Nat.reduceBEq, isLd, e3, e23, e24, e25]
      rw [Int.zero_sub, ← hlap] at hM5
      exact ⟨m - 1, by omega, _, Sub.refl _, k + 1, rfl, by omega, by omega, hM5.low hsub⟩
    · simp (maxSteps := 300000) (disch := omega) only [gs, gs2, gs3, gs4, ↓reduceIte, Nat.reduceEqDiff, Int.reduceToNat, Nat.reduceMul, Nat.reduceAdd, Nat.reduceBEq, isLd, e3, e23, e24, e25, hkk]
      obtain rfl : k = N.edges.length := by omega
      exact ⟨_, Sub.refl _, hk _ _ _ (hM.low s1)⟩
/-- the first row from t on that has something in a column. -/
def fstRow (f : Int → Int → Int) (c : Int) (t R : Nat) : Option Nat := (List.range' t (R - t)).find? fun i => f i c != 0
theorem fstRow_some {f : Int → Int → Int} {c : Int} {t R i : Nat} (h0 : t ≤ i) (h1 : i < R) (h2 : f i c ≠ 0) (h3 : ∀ j, t ≤ j → j < i → f j c = 0) : fstRow f c t R = some i := by
  unfold fstRow
  rw [show R - t = (i - t) + ((R - i - 1) + 1) by omega, ← List.range'_append_1, List.find?_append, List.find?_eq_none.2]
  · rw [Option.none_or, show t + (i - t) = i by omega, List.range'_succ, List.find?_cons_of_pos (by simpa using h2)]
  · intro j hj
    rw [List.mem_range'_1] at hj
    simp [h3 j hj.1 (by omega)]
theorem fstRow_none {f : Int → Int → Int} {c : Int} {t R : Nat} (h : ∀ j : Nat, t ≤ j → j < R → f j c = 0) : fstRow f c t R = none := by
  unfold fstRow
  rw [List.find?_eq_none]
  intro j hj
  rw [List.mem_range'_1] at hj
  simp [h j hj.1 (by omega)]
theorem fstRow_spec {f : Int → Int → Int} {c : Int} {t R i : Nat} (h : fstRow f c t R = some i) : t ≤ i ∧ i < R ∧ f i c ≠ 0 := by
  unfold fstRow at h
  have h1 := List.mem_of_find?_eq_some h
  have h2 := List.find?_some h
  rw [List.mem_range'_1] at h1
  exact ⟨h1.1, by omega, by simpa using h2⟩
def swp (f : Int → Int → Int) (a b : Int) : Int → Int → Int := fun i => if i = a then f b else if i = b then f a else f i
def scl (f : Int → Int → Int) (t k p : Int) : Int → Int → Int := fun i j => if i = t then (f t j * k) % p else f i j
def clr (f : Int → Int → Int) (t c p : Int) : Int → Int → Int := fun i j => if i = t then f i j else (f i j + (p - f i c) * f t j) % p
/-- a power modulo p. -/
def pw (a : Int) (p : Int) : Nat → Int
  | 0 => 1
  | n + 1 => pw a p n * a % p
def invF (a p : Int) : Int := pw a p (p - 2).toNat
structure ElS where
  f : Int → Int → Int
  piv : List Int
  det : Int
noncomputable def elS (p : Int) (R : Nat) (s : ElS) (c : Nat) : ElS :=
  match fstRow s.f c s.piv.length R with
  | none => ⟨s.f, s.piv, 0⟩
  | some i =>
    let g := swp s.f s.piv.length i
    let h := scl g s.piv.length (invF (g s.piv.length c) p) p
    ⟨clr h s.piv.length c p, s.piv ++ [(c : Int)], (if i = s.piv.length then s.det else (-s.det) % p) * g s.piv.length c % p⟩
noncomputable def elF (p : Int) (R : Nat) (f : Int → Int → Int) : Nat → ElS
  | 0 => ⟨f, [], 1⟩
  | c + 1 => elS p R (elF p R f c) c
/-- all cells are numbers modulo p. -/
def Rng (f : Int → Int → Int) (p : Int) : Prop := ∀ i j, 0 ≤ f i j ∧ f i j < p
theorem Rng.swp {f : Int → Int → Int} {p : Int} (h : Rng f p) (a b : Int) : Rng (Gh.swp f a b) p := fun i j => by
  unfold Gh.swp; split
  · exact h b j
  · split
    · exact h a j
    · exact h i j
theorem Rng.scl {f : Int → Int → Int} {p : Int} (h : Rng f p) (hp : 0 < p) (t k : Int) : Rng (Gh.scl f t k p) p := fun i j => by
  unfold Gh.scl; split
  · exact ⟨Int.emod_nonneg _ (by omega), Int.emod_lt_of_pos _ hp⟩
  · exact h i j
theorem Rng.clr {f : Int → Int → Int} {p : Int} (h : Rng f p) (hp : 0 < p) (t c : Int) : Rng (Gh.clr f t c p) p := fun i j => by
  unfold Gh.clr; split
  · exact h i j
  · exact ⟨Int.emod_nonneg _ (by omega), Int.emod_lt_of_pos _ hp⟩
theorem elS_rng {p : Int} {R : Nat} (hp : 0 < p) {s : ElS} (h : Rng s.f p) (c : Nat) : Rng (elS p R s c).f p := by
  unfold elS; split
  · exact h
  · exact ((h.swp _ _).scl hp _ _).clr hp _ _
theorem elF_rng {p : Int} {R : Nat} (hp : 0 < p) {f : Int → Int → Int} (h : Rng f p) : ∀ c, Rng (elF p R f c).f p
  | 0 => h
  | c + 1 => elS_rng hp (elF_rng hp h c) c
theorem elS_len {p : Int} {R : Nat} {s : ElS} (h : s.piv.length ≤ R) (c : Nat) : (elS p R s c).piv.length ≤ R ∧ s.piv.length ≤ (elS p R s c).piv.length ∧ (elS p R s c).piv.length ≤ s.piv.length + 1 := by
  unfold elS; split
  · exact ⟨h, Nat.le_refl _, Nat.le_succ _⟩
  · rename_i i hi
    have := fstRow_spec hi
    simp; omega
theorem elF_len (p : Int) (R : Nat) (f : Int → Int → Int) : ∀ c, (elF p R f c).piv.length ≤ R ∧ (elF p R f c).piv.length ≤ c
  | 0 => ⟨by simp [elF], by simp [elF]⟩
  | c + 1 => by
    have ih := elF_len p R f c
    have := elS_len (p := p) ih.1 c
    exact ⟨this.1, by have := this.2.2; show (elS p R (elF p R f c) c).piv.length ≤ _; omega⟩
theorem elF_det {p : Int} (hp : 1 < p) (R : Nat) (f : Int → Int → Int) : ∀ c, 0 ≤ (elF p R f c).det ∧ (elF p R f c).det < p
  | 0 => by simp [elF]; omega
  | c + 1 => by
    show 0 ≤ (elS p R (elF p R f c) c).det ∧ (elS p R (elF p R f c) c).det < p
    unfold elS; split
    · exact ⟨Int.le_refl _, show (0 : Int) < p by omega⟩
    · exact ⟨Int.emod_nonneg _ (by omega), Int.emod_lt_of_pos _ (by omega)⟩
theorem pw_rng {a p : Int} (hp : 1 < p) : ∀ n, 0 ≤ pw a p n ∧ pw a p n < p
  | 0 => by show (0 : Int) ≤ 1 ∧ (1 : Int) < p; omega
  | n + 1 => ⟨Int.emod_nonneg (pw a p n * a) (by omega), Int.emod_lt_of_pos (pw a p n * a) (by omega)⟩
theorem pw_sq {a p : Int} : ∀ n, pw (a * a % p) p n % p = pw a p (2 * n) % p
  | 0 => rfl
  | n + 1 => by
    show pw (a * a % p) p n * (a * a % p) % p % p = pw a p (2 * n + 1) * a % p % p
    have e : pw a p (2 * n + 1) = pw a p (2 * n) * a % p := rfl
    rw [e, Int.emod_emod_of_dvd _ (Int.dvd_refl p), Int.emod_emod_of_dvd _ (Int.dvd_refl p), Int.mul_emod (pw (a * a % p) p n), pw_sq n, Int.mul_emod (pw a p (2 * n) * a % p), Int.emod_emod_of_dvd _ (Int.dvd_refl p), Int.emod_emod_of_dvd _ (Int.dvd_refl p), ← Int.mul_emod, ← Int.mul_emod, Int.mul_assoc]
/-- every number but 0 has the inverse that is used. -/
def HasInv (p : Int) : Prop := ∀ a : Int, 0 < a → a < p → a * invF a p % p = 1
theorem mul_mod_r (a b p : Int) : a * (b % p) % p = a * b % p := by rw [Int.mul_emod, Int.emod_emod_of_dvd _ (Int.dvd_refl p), ← Int.mul_emod]
theorem mul_mod_l (a b p : Int) : a % p * b % p = a * b % p := by rw [Int.mul_emod, Int.emod_emod_of_dvd _ (Int.dvd_refl p), ← Int.mul_emod]
theorem pw_half (acc a p : Int) (n : Nat) : (if n % 2 = 1 then acc * a % p else acc) * pw (a * a % p) p (n / 2) % p = acc * pw a p n % p := by
  by_cases h : n % 2 = 1
  · rw [if_pos h]
    have e : n = 2 * (n / 2) + 1 := by omega
    generalize n / 2 = m at *
    subst e
    rw [mul_mod_l, ← mul_mod_r, pw_sq, mul_mod_r]
    show _ = acc * (pw a p (2 * m) * a % p) % p
    rw [mul_mod_r, Int.mul_assoc, Int.mul_comm a]
  · rw [if_neg h]
    have e : n = 2 * (n / 2) := by omega
    generalize n / 2 = m at *
    subst e
    rw [← mul_mod_r, pw_sq, mul_mod_r]
def sg (i : Nat) : Int := if i % 2 = 0 then 1 else -1
theorem sg_succ (i : Nat) : sg (i + 1) = -sg i := by
  unfold sg
  by_cases h : i % 2 = 0
  · rw [if_pos h, if_neg (by omega)]
  · rw [if_neg h, if_pos (by omega)]; rfl
def sm (g : Nat → Int) : Nat → Int
  | 0 => 0
  | n + 1 => sm g n + g n
/-- a row and the first column are left out. -/
def dlr (i : Int) (f : Int → Int → Int) : Int → Int → Int := fun a b => f (if a < i then a else a + 1) (b + 1)
def dt : Nat → (Int → Int → Int) → Int
  | 0, _ => 1
  | n + 1, f => sm (fun i => sg i * f i 0 * dt n (dlr i f)) (n + 1)
theorem sm_mod {g h : Nat → Int} {p : Int} : ∀ n, (∀ i, i < n → g i % p = h i % p) → sm g n % p = sm h n % p
  | 0, _ => rfl
  | n + 1, hh => by
    show (sm g n + g n) % p = (sm h n + h n) % p
    rw [Int.add_emod, sm_mod n fun i hi => hh i (by omega), hh n (by omega), ← Int.add_emod]
theorem sm_congr {g h : Nat → Int} (n : Nat) (hh : ∀ i, i < n → g i = h i) : sm g n = sm h n := by
  have := sm_mod (g := g) (h := h) (p := 0) n fun i hi => by rw [hh i hi]
  simpa using this
theorem dt_mod {p : Int} : ∀ n {f g : Int → Int → Int}, (∀ i j : Nat, i < n → j < n → f i j % p = g i j % p) → dt n f % p = dt n g % p
  | 0, _, _, _ => rfl
  | n + 1, f, g, h => by
    refine sm_mod (n + 1) fun i hi => ?_
    have ih := dt_mod (p := p) n (f := dlr i f) (g := dlr i g) fun a b ha hb => by
      unfold dlr
      by_cases c : (a : Int) < i
      · rw [if_pos c]; exact h a (b + 1) (by omega) (by omega)
      · rw [if_neg c]; exact h (a + 1) (b + 1) (by omega) (by omega)
    rw [Int.mul_emod, Int.mul_emod (sg i) (f i 0), show f i 0 % p = g i 0 % p from h i 0 hi (by omega), ih, ← Int.mul_emod (sg i), ← Int.mul_emod]
theorem dt_congr (n : Nat) {f g : Int → Int → Int} (h : ∀ i j : Nat, i < n → j < n → f i j = g i j) : dt n f = dt n g := by
  have := dt_mod (p := 0) n (f := f) (g := g) fun i j hi hj => by rw [h i j hi hj]
  simpa using this
theorem sm_swap {g h : Nat → Int} {r M : Nat} (h0 : ∀ i, i < M → i ≠ r → i ≠ r + 1 → h i = -g i) (h1 : h r = -g (r + 1)) (h2 : h (r + 1) = -g r) : ∀ n, n ≤ M → (n ≤ r → sm h n = -sm g n) ∧ (r + 2 ≤ n → sm h n = -sm g n)
  | 0, _ => ⟨fun _ => rfl, fun h => by omega⟩
  | n + 1, hM => by
    have ih := sm_swap h0 h1 h2 n (by omega)
    refine ⟨fun hn => ?_, fun hn => ?_⟩
    · show sm h n + h n = -(sm g n + g n)
      rw [ih.1 (by omega), h0 n (by omega) (by omega) (by omega)]; omega
    · by_cases e : n = r + 1
      · subst e
        have ih2 := (sm_swap h0 h1 h2 r (by omega)).1 (Nat.le_refl _)
        show sm h r + h r + h (r + 1) = -(sm g r + g r + g (r + 1))
        rw [ih2, h1, h2]; omega
      · show sm h n + h n = -(sm g n + g n)
        rw [ih.2 (by omega), h0 n (by omega) (by omega) (by omega)]; omega
def sx (a b i : Int) : Int := if i = a then b else if i = b then a else i
theorem swp_eq (f : Int → Int → Int) (a b i : Int) : swp f a b i = f (sx a b i) := by
  unfold swp sx; (repeat' split) <;> rfl
theorem dlr_eq (i : Int) (f : Int → Int → Int) (a b : Int) : dlr i f a b = f (if a < i then a else a + 1) (b + 1) := rfl
/-- two rows beside one another are exchanged. -/
theorem dt_adj : ∀ (n : Nat) (f : Int → Int → Int) (r : Nat), r + 1 < n → dt n (swp f r ((r + 1 : Nat) : Int)) = -dt n f
  | 0, _, _, h => by omega
  | n + 1, f, r, h => by
    refine (sm_swap (r := r) (M := n + 1) (fun i hin hi hi2 => ?_) ?_ ?_ (n + 1) (Nat.le_refl _)).2 (by omega)
    · have e : swp f r ((r + 1 : Nat) : Int) i = f i := by unfold swp; rw [if_neg (by omega), if_neg (by omega)]
      rw [e]
      by_cases c : i < r
      · have e2 : dlr i (swp f r ((r + 1 : Nat) : Int)) = swp (dlr i f) (r - 1 : Nat) (((r - 1) + 1 : Nat) : Int) := by
          funext a b
          simp only [dlr_eq, swp_eq]; congr 1; unfold sx; (repeat' split) <;> omega
        rw [e2, dt_adj n (dlr i f) (r - 1) (by omega), Int.mul_neg]
      · have e2 : dlr i (swp f r ((r + 1 : Nat) : Int)) = swp (dlr i f) r ((r + 1 : Nat) : Int) := by
          funext a b
          simp only [dlr_eq, swp_eq]; congr 1; unfold sx; (repeat' split) <;> omega
        rw [e2, dt_adj n (dlr i f) r (by omega), Int.mul_neg]
    · have e : swp f r ((r + 1 : Nat) : Int) r = f ((r + 1 : Nat) : Int) := by unfold swp; rw [if_pos rfl]
      have e2 : dlr r (swp f r ((r + 1 : Nat) : Int)) = dlr ((r + 1 : Nat) : Int) f := by
        funext a b
        simp only [dlr_eq, swp_eq]; congr 1; unfold sx; (repeat' split) <;> omega
      try dsimp only
      rw [e, e2, sg_succ, Int.neg_mul, Int.neg_mul, Int.neg_neg]
    · have e : swp f r ((r + 1 : Nat) : Int) ((r + 1 : Nat) : Int) = f r := by unfold swp; rw [if_neg (by omega), if_pos rfl]
      have e2 : dlr ((r + 1 : Nat) : Int) (swp f r ((r + 1 : Nat) : Int)) = dlr r f := by
        funext a b
        simp only [dlr_eq, swp_eq]; congr 1; unfold sx; (repeat' split) <;> omega
      try dsimp only
      rw [e, e2, sg_succ, Int.neg_mul, Int.neg_mul]
theorem dt_swap (n : Nat) : ∀ (d : Nat) (f : Int → Int → Int) (r : Nat), r + d + 1 < n → dt n (swp f r ((r + d + 1 : Nat) : Int)) = -dt n f
  | 0, f, r, h => dt_adj n f r h
  | d + 1, f, r, h => by
    have e : swp f r ((r + (d + 1) + 1 : Nat) : Int) = swp (swp (swp f ((r + d + 1 : Nat) : Int) ((r + d + 1 + 1 : Nat) : Int)) r ((r + d + 1 : Nat) : Int)) ((r + d + 1 : Nat) : Int) ((r + d + 1 + 1 : Nat) : Int) := by
      funext a
      simp only [swp_eq]; congr 1; unfold sx; (repeat' split) <;> omega
    rw [e, dt_adj n _ (r + d + 1) (by omega), dt_swap n d _ r (by omega), dt_adj n f (r + d + 1) (by omega)]; omega
theorem dt_swp {n : Nat} (f : Int → Int → Int) {r s : Nat} (h : r < s) (hs : s < n) : dt n (swp f r s) = -dt n f := by
  obtain ⟨d, rfl⟩ : ∃ d, s = r + d + 1 := ⟨s - r - 1, by omega⟩
  exact dt_swap n d f r hs
/-- two equal rows. -/
theorem dt_eqr {n : Nat} {f : Int → Int → Int} {r s : Nat} (h : r < s) (hs : s < n) (he : f r = f s) : dt n f = 0 := by
  have h1 := dt_swp f h hs
  have h2 : swp f r s = f := by
    funext a; unfold swp
    by_cases a1 : a = r
    · rw [if_pos a1, a1, he]
    · by_cases a2 : a = s
      · rw [if_neg a1, if_pos a2, a2, he]
      · rw [if_neg a1, if_neg a2]
  rw [h2] at h1; omega
def setr (f : Int → Int → Int) (r : Int) (v : Int → Int) : Int → Int → Int := fun i => if i = r then v else f i
theorem setr_self (f : Int → Int → Int) (r : Int) : setr f r (f r) = f := by
  funext i; unfold setr; by_cases e : i = r
  · rw [if_pos e, e]
  · rw [if_neg e]
theorem sm_lin {g h k : Nat → Int} {u : Int} : ∀ n, (∀ i, i < n → k i = u * g i + h i) → sm k n = u * sm g n + sm h n
  | 0, _ => by simp [sm]
  | n + 1, hh => by
    show sm k n + k n = u * (sm g n + g n) + (sm h n + h n)
    rw [sm_lin n fun i hi => hh i (by omega), hh n (by omega), Int.mul_add]; omega
/-- linear in each row. -/
theorem dt_lin : ∀ (n : Nat) (f : Int → Int → Int) (r : Nat) (u : Int) (x v : Int → Int), r < n → dt n (setr f r (fun j => u * x j + v j)) = u * dt n (setr f r x) + dt n (setr f r v)
  | 0, _, _, _, _, _, h => by omega
  | n + 1, f, r, u, x, v, h => by
    refine sm_lin (n + 1) fun i hi => ?_
    by_cases c : i = r
    · subst c
      have e : ∀ y : Int → Int, dlr i (setr f i y) = dlr i f := fun y => by
        funext a b
        unfold dlr setr
        try dsimp only
        by_cases a1 : a < i
        · rw [if_pos a1, if_neg (by omega)]
        · rw [if_neg a1, if_neg (by omega)]
      rw [e, e, e]
      unfold setr
      rw [if_pos rfl, if_pos rfl, if_pos rfl, Int.mul_add, Int.add_mul, Int.mul_left_comm, Int.mul_assoc]
    · have e0 : ∀ y : Int → Int, setr f r y i 0 = f i 0 := fun y => by unfold setr; rw [if_neg (by omega)]
      have e : ∃ r' : Nat, r' < n ∧ ∀ y : Int → Int, dlr i (setr f r y) = setr (dlr i f) r' (fun j => y (j + 1)) := by
        by_cases c2 : r < i
        · refine ⟨r, by omega, fun y => ?_⟩
          funext a b
          unfold dlr setr
          try dsimp only
          by_cases a1 : a < i
          · rw [if_pos a1]
            by_cases a2 : a = r
            · rw [if_pos a2, if_pos a2]
            · rw [if_neg a2, if_neg a2]; try rw [if_pos a1]
          · rw [if_neg a1, if_neg (by omega), if_neg (by omega)]; try rw [if_neg a1]
        · refine ⟨r - 1, by omega, fun y => ?_⟩
          funext a b
          unfold dlr setr
          try dsimp only
          by_cases a1 : a < i
          · rw [if_pos a1, if_neg (by omega), if_neg (by omega)]; try rw [if_pos a1]
          · rw [if_neg a1]
            by_cases a2 : a + 1 = r
            · rw [if_pos a2, if_pos (by omega)]
            · rw [if_neg a2, if_neg (by omega)]; try rw [if_neg a1]
      obtain ⟨r', hr', e⟩ := e
      rw [e, e, e, e0, e0, e0, dt_lin n (dlr i f) r' u (fun j => x (j + 1)) (fun j => v (j + 1)) hr', Int.mul_add, Int.mul_left_comm]
/-- a multiple of another row is added. -/
theorem dt_addr {n : Nat} (f : Int → Int → Int) {r s : Nat} (hr : r < n) (hs : s < n) (hne : r ≠ s) (k : Int) : dt n (setr f s (fun j => k * f r j + f s j)) = dt n f := by
  rw [dt_lin n f s k (f r) (f s) hs, setr_self]
  have : dt n (setr f s (f r)) = 0 := by
    have e1 : setr f s (f r) r = f r := by unfold setr; rw [if_neg (by omega)]
    have e2 : setr f s (f r) s = f r := by unfold setr; rw [if_pos rfl]
    rcases Nat.lt_or_gt_of_ne hne with h | h
    · exact dt_eqr h hs (e1.trans e2.symm)
    · exact dt_eqr h hr (e2.trans e1.symm)
  rw [this]; omega
theorem dt_scale {n : Nat} (f : Int → Int → Int) {r : Nat} (hr : r < n) (k : Int) : dt n (setr f r (fun j => k * f r j)) = k * dt n f := by
  have := dt_lin n f r k (f r) (fun _ => 0) hr
  have h0 := dt_lin n f r 0 (f r) (fun _ => 0) hr
  have e : dt n (setr f r (fun _ => 0)) = 0 := by
    have h1 := dt_lin n f r 1 (fun _ => 0) (fun _ => 0) hr
    simp only [Int.mul_zero, Int.add_zero] at h1
    omega
  rw [e, setr_self] at this
  simpa using this
/-- multiples of the first row are added to all others. -/
theorem dt_clear {n : Nat} (f : Int → Int → Int) (k : Int → Int) (hn : 0 < n) : ∀ m, m ≤ n → dt n (fun i j => if 1 ≤ i ∧ i < m then f i j + k i * f 0 j else f i j) = dt n f
  | 0, _ => dt_congr n fun i j _ _ => if_neg (by omega)
  | 1, _ => dt_congr n fun i j _ _ => if_neg (by omega)
  | m + 2, hm => by
    rw [← dt_clear f k hn (m + 1) (by omega)]
    rw [← dt_addr (fun i j => if 1 ≤ i ∧ i < ((m + 1 : Nat) : Int) then f i j + k i * f 0 j else f i j) (r := 0) (s := m + 1) hn (by omega) (by omega) (k (m + 1))]
    refine dt_congr n fun i j hi hj => ?_
    unfold setr
    try dsimp only
    by_cases c : (i : Int) = ((m + 1 : Nat) : Int)
    · rw [if_pos c, if_pos (by omega), if_neg (by omega), if_neg (by omega), c]
      have e : ((0 : Nat) : Int) = 0 := rfl
      have e2 : ((m + 1 : Nat) : Int) = (m : Int) + 1 := rfl
      rw [e, e2]; omega
    · rw [if_neg c]
      by_cases c2 : 1 ≤ (i : Int) ∧ (i : Int) < ((m + 1 : Nat) : Int)
      · rw [if_pos c2, if_pos (by omega)]
      · rw [if_neg c2, if_neg (by omega)]
/-- only the first row has something in the first column. -/
theorem dt_col {n : Nat} {f : Int → Int → Int} (h : ∀ i : Nat, 1 ≤ i → i < n + 1 → f i 0 = 0) : dt (n + 1) f = f 0 0 * dt n (dlr 0 f) := by
  have key : ∀ m, m ≤ n → sm (fun i => sg i * f i 0 * dt n (dlr i f)) (m + 1) = f 0 0 * dt n (dlr 0 f) := by
    intro m
    induction m with
    | zero => intro _; simp [sm, sg]
    | succ m ih =>
      intro hm
      show sm (fun i => sg i * f i 0 * dt n (dlr i f)) (m + 1) + sg (m + 1) * f ((m + 1 : Nat) : Int) 0 * dt n (dlr ((m + 1 : Nat) : Int) f) = _
      rw [ih (by omega), h (m + 1) (by omega) (by omega)]; simp
  exact key n (Nat.le_refl _)
theorem dt_zcol {n : Nat} {f : Int → Int → Int} (h : ∀ i : Nat, i < n + 1 → f i 0 = 0) : dt (n + 1) f = 0 := by
  rw [dt_col fun i _ hi => h i hi, show f 0 0 = 0 from h 0 (by omega), Int.zero_mul]
/-- neighbours change places. -/
def sw (ys : List Int) (j : Nat) : List Int := (ys.set j (ys.getD (j - 1) 0)).set (j - 1) (ys.getD j 0)
def del (G : GH) (b : Nat) : GH := fun x => if x = b then none else G x
theorem del_none (G : GH) (b : Nat) : del G b b = none := if_pos rfl
theorem Sub.del (G : GH) (b : Nat) : Sub (Gh.del G b) G := fun x e h => by
  unfold Gh.del at h; split at h
  · cases h
  · exact h
theorem Sub.in_del {K G : GH} {b : Nat} (s : Sub K G) (h : K b = Option.none) : Sub K (Gh.del G b) := fun x e hx => by
  have hxb : x ≠ b := fun e' => by rw [e', h] at hx; cases hx
  unfold Gh.del; rw [if_neg hxb]; exact s x e hx
theorem del_ne (G : GH) {b x : Nat} (h : x ≠ b) : del G b x = G x := if_neg h
/-- bytes in memory. -/
structure BytS (G : GH) (A : Option Addr) (L c : Nat) : Prop where
  cap : L ≤ c
  rd : ∀ i, i < L → ∃ z : Int, 0 ≤ z ∧ z ≤ 255 ∧ rd G (pa A i) = some (.int .u8 z)
theorem BytS.sub {G G' : GH} {A : Option Addr} {L c : Nat} (h : BytS G A L c) (s : Sub G G') : BytS G' A L c := ⟨h.cap, fun i hi => by
  obtain ⟨z, h0, h1, h2⟩ := h.rd i hi
  exact ⟨z, h0, h1, rd_sub s h2⟩⟩
/-- a source: a block of one's own, of which only this is known; H is what else is known. -/
structure Src (H G : GH) (b : Nat) (A : Option Addr) (L c p : Nat) : Prop where
  sub : Sub H G
  nb : H b = none
  byt : BytS H A L c
  ex : ∃ (p' : Nat) (st : Int), p' ≤ p ∧ G b = some ⟨[.slice A L c, .int .i64 p', .int .u64 st], true⟩
theorem Src.le {H G : GH} {b : Nat} {A : Option Addr} {L c p p' : Nat} (h : Src H G b A L c p) (hp : p ≤ p') : Src H G b A L c p' := by
  obtain ⟨q, st, h1, h2⟩ := h.ex
  exact ⟨h.sub, h.nb, h.byt, q, st, by omega, h2⟩
theorem Src.ne {H G : GH} {b x : Nat} {A : Option Addr} {L c p : Nat} (h : Src H G b A L c p) (hx : G x = none) : x ≠ b := by
  obtain ⟨q, st, h1, h2⟩ := h.ex
  exact fun e => by rw [e, h2] at hx; cases hx
/-- a new block beside it. -/
theorem Src.box {H G : GH} {b x : Nat} {A : Option Addr} {L c p : Nat} (h : Src H G b A L c p) (hx : G x = none) (e : Ent) : Src (put H x e) (put G x e) b A L c p := by
  have hne := h.ne hx
  obtain ⟨q, st, h1, h2⟩ := h.ex
  exact ⟨h.sub.both, by rw [put_ne _ _ hne.symm]; exact h.nb, h.byt.sub (Sub.put (h.sub.none hx) _), q, st, h1, by rw [put_ne _ _ hne.symm]; exact h2⟩
theorem Src.low {H H' G : GH} {b : Nat} {A : Option Addr} {L c p : Nat} (h : Src H G b A L c p) (s : Sub H' H) (hb : BytS H' A L c) : Src H' G b A L c p := ⟨s.trans h.sub, s.none h.nb, hb, h.ex⟩
theorem shr40 (st : Int) : binV .shr (.int .u64 st) (.int .u64 40) = some (.int .u64 (st.fdiv (2 ^ 40))) := by
  simp [binV, binOp, Op.shift, pureOf, pure, IntKind.bits]
theorem and255 (x : Int) : ∃ z : Int, (0 ≤ z ∧ z ≤ 255) ∧ binV .and (.int .u64 x) (.int .u64 255) = some (.int .u64 z) := by
  have h2 : binV .and (.int .u64 x) (.int .u64 255) = some (.int .u64 (IntKind.u64.wrap ((BitVec.ofInt 64 x &&& BitVec.ofInt 64 255).toNat : Nat))) := rfl
  refine ⟨_, ?_, h2⟩
  have h1 : (BitVec.ofInt 64 x &&& BitVec.ofInt 64 255).toNat ≤ 255 := by
    rw [BitVec.toNat_and]
    exact Nat.le_trans Nat.and_le_right (by decide)
  generalize (BitVec.ofInt 64 x &&& BitVec.ofInt 64 255).toNat = w at *
  have : IntKind.u64.wrap (w : Int) = w := by
    simp [IntKind.wrap, IntKind.signed, IntKind.bits]
    omega
  rw [this]; omega
theorem rd_some' {G : GH} {A : Option Addr} {k : Nat} {v : Value} (h : rd G (pa A k) = some v) : 0 < sn A := by
  cases A with
  | none => cases h
  | some a => simp [sn]
theorem st_src {G : GH} {b o : Nat} {cs : List Value} {v : Value} {K : Value → GH → Prop} (h : G b = some ⟨cs, true⟩) (h1 : oneB v = true) (ho : o < cs.length) (hk : ∀ G', Keep b G G' → G' b = some ⟨cs.set o v, true⟩ → K undef G') : gSt 1 (.pointer (some ⟨b, o, none⟩)) v G K :=
  st_one h ho h1 (hk _ (fun y hy => put_ne _ _ hy) (put_same _ _ _))
theorem spec_next_ok {H G : GH} {b : Nat} {A : Option Addr} {L c p : Nat} (h : Src H G b A L c p) (hp : p < 2 ^ 40) {K : Value → GH → Prop}
    (hk : ∀ (v : Int) G', 0 ≤ v → v ≤ 255 → Src H G' b A L c (p + 1) → K (.int .i64 v) G') : GC Try.prog 249 [.pointer (some ⟨b, 0, none⟩)] G K := by
  refine c_spec_l00Src_next_i (by simp) ?_
  obtain ⟨p', st, hpp, hb⟩ := h.ex
  have r0 : rd G (some ⟨b, 0, none⟩) = some (.slice A L c) := by simp only [rd, hb]; rfl
  have r1 : rd G (some ⟨b, 1, none⟩) = some (.int .i64 p') := by simp only [rd, hb]; rfl
  have r2 : rd G (some ⟨b, 2, none⟩) = some (.int .u64 st) := by simp only [rd, hb]; rfl
  have fin : ∀ (st' : Int) (v : Int) (G' : GH), 0 ≤ v → v ≤ 255 → Keep b G G' → G' b = some ⟨[.slice A L c, .int .i64 ((p' : Int) + 1), .int .u64 st'], true⟩ → K (.int .i64 v) G' := fun st' v G' h0 h1 hK hb' =>
    hk v G' h0 h1 ⟨sub_keep hK h.nb h.sub, h.nb, h.byt, p' + 1, st', by omega, by rw [hb']; rfl⟩
  clear hk
  have hz := and255
  simp (maxSteps := 300000) (disch := omega) only [gs, gs2, gs3, gs4, ↓reduceIte, Nat.reduceEqDiff, Int.reduceToNat, Nat.reduceMul, Nat.reduceAdd, Nat.reduceBEq, isLd, r0, r1, r2]
  by_cases hlt : (p' : Int) < L
  · obtain ⟨z, z0, z1, hz'⟩ := h.byt.rd p' (by omega)
    have hz' := rd_sub h.sub hz'
    have hsA : 0 < sn A := rd_some' hz'
    simp (maxSteps := 300000) (disch := omega) only [gs, gs2, gs3, gs4, ↓reduceIte, Nat.reduceEqDiff, Int.reduceToNat, Nat.reduceMul, Nat.reduceAdd, Nat.reduceBEq, isLd, r0, r1, r2, hlt, hz']
    refine st_src hb rfl (by simp) fun G2 hK1 hb1 => ?_
    simp only [List.set_cons_succ, List.set_cons_zero] at hb1
    have r0 : rd G2 (some ⟨b, 0, none⟩) = some (.slice A L c) := by simp only [rd, hb1]; rfl
    have r1 : rd G2 (some ⟨b, 1, none⟩) = some (.int .i64 ((p' : Int) + 1)) := by simp only [rd, hb1]; rfl
    have r2 : rd G2 (some ⟨b, 2, none⟩) = some (.int .u64 st) := by simp only [rd, hb1]; rfl
    simp (maxSteps := 300000) (disch := omega) only [gs, gs2, gs3, gs4, ↓reduceIte, Nat.reduceEqDiff, Int.reduceToNat, Nat.reduceMul, Nat.reduceAdd, Nat.reduceBEq, isLd, r0, r1, r2]
    refine st_src hb1 rfl (by simp) fun G3 hK2 hb2 => ?_
    simp only [List.set_cons_succ, List.set_cons_zero] at hb2
    have hK3 : Keep b G G3 := fun x hx => (hK2 x hx).trans (hK1 x hx)
    obtain ⟨st', hb3⟩ : ∃ st', G3 b = some ⟨[.slice A L c, .int .i64 ((p' : Int) + 1), .int .u64 st'], true⟩ := ⟨_, hb2⟩
    clear hb2
    have r0 : rd G3 (some ⟨b, 0, none⟩) = some (.slice A L c) := by simp only [rd, hb3]; rfl
    have r1 : rd G3 (some ⟨b, 1, none⟩) = some (.int .i64 ((p' : Int) + 1)) := by simp only [rd, hb3]; rfl
    have r2 : rd G3 (some ⟨b, 2, none⟩) = some (.int .u64 st') := by simp only [rd, hb3]; rfl
    simp (maxSteps := 300000) (disch := omega) only [gs, gs2, gs3, gs4, ↓reduceIte, Nat.reduceEqDiff, Int.reduceToNat, Nat.reduceMul, Nat.reduceAdd, Nat.reduceBEq, isLd, r0, r1, r2, show ((p' : Int) + 1 ≤ L) = True from eq_true (by omega)]
    exact fin st' z G3 z0 z1 hK3 hb3
  · simp (maxSteps := 300000) (disch := omega) only [gs, gs2, gs3, gs4, ↓reduceIte, Nat.reduceEqDiff, Int.reduceToNat, Nat.reduceMul, Nat.reduceAdd, Nat.reduceBEq, isLd, r0, r1, r2, hlt]
    refine st_src hb rfl (by simp) fun G2 hK1 hb1 => ?_
    simp only [List.set_cons_succ, List.set_cons_zero] at hb1
    have r0 : rd G2 (some ⟨b, 0, none⟩) = some (.slice A L c) := by simp only [rd, hb1]; rfl
    have r1 : rd G2 (some ⟨b, 1, none⟩) = some (.int .i64 ((p' : Int) + 1)) := by simp only [rd, hb1]; rfl
    have r2 : rd G2 (some ⟨b, 2, none⟩) = some (.int .u64 st) := by simp only [rd, hb1]; rfl
    simp (maxSteps := 300000) (disch := omega) only [gs, gs2, gs3, gs4, ↓reduceIte, Nat.reduceEqDiff, Int.reduceToNat, Nat.reduceMul, Nat.reduceAdd, Nat.reduceBEq, isLd, r0, r1, r2]
    refine st_src hb1 rfl (by simp) fun G3 hK2 hb2 => ?_
    simp only [List.set_cons_succ, List.set_cons_zero] at hb2
    have hK3 : Keep b G G3 := fun x hx => (hK2 x hx).trans (hK1 x hx)
    obtain ⟨st', hb3⟩ : ∃ st', G3 b = some ⟨[.slice A L c, .int .i64 ((p' : Int) + 1), .int .u64 st'], true⟩ := ⟨_, hb2⟩
    clear hb2
    have r0 : rd G3 (some ⟨b, 0, none⟩) = some (.slice A L c) := by simp only [rd, hb3]; rfl
    have r1 : rd G3 (some ⟨b, 1, none⟩) = some (.int .i64 ((p' : Int) + 1)) := by simp only [rd, hb3]; rfl
    have r2 : rd G3 (some ⟨b, 2, none⟩) = some (.int .u64 st') := by simp only [rd, hb3]; rfl
    obtain ⟨z, ⟨z0, z1⟩, hz'⟩ := hz (st'.fdiv (2 ^ 40))
    simp (maxSteps := 300000) (disch := omega) only [gs, gs2, gs3, gs4, ↓reduceIte, Nat.reduceEqDiff, Int.reduceToNat, Nat.reduceMul, Nat.reduceAdd, Nat.reduceBEq, isLd, r0, r1, r2, show ((p' : Int) + 1 ≤ L) = False from eq_false (by omega), shr40, hz']
    exact fin st' z G3 z0 z1 hK3 hb3
theorem spec_pick_ok {H G : GH} {b : Nat} {A : Option Addr} {L c p : Nat} (h : Src H G b A L c p) (hp : p + 2 < 2 ^ 40) {n : Int} (hn : n ≤ 10000) {K : Value → GH → Prop}
    (hk : ∀ (v : Int) G', 0 ≤ v → (1 ≤ n → v < n) → (n < 1 → v = 0) → Src H G' b A L c (p + 2) → K (.int .i64 v) G') : GC Try.prog 220 [.pointer (some ⟨b, 0, none⟩), .int .i64 n] G K := by
  refine c_spec_l00Src_pick_i (by simp) ?_
  simp (maxSteps := 300000) (disch := omega) only [gs, gs2, gs3, gs4, ↓reduceIte, Nat.reduceEqDiff, Int.reduceToNat, Nat.reduceMul, Nat.reduceAdd, Nat.reduceBEq, isLd]
  by_cases h1 : n ≤ 1
  · simp (maxSteps := 300000) (disch := omega) only [gs, gs2, gs3, gs4, ↓reduceIte, Nat.reduceEqDiff, Int.reduceToNat, Nat.reduceMul, Nat.reduceAdd, Nat.reduceBEq, isLd, h1]
    exact hk 0 G (by omega) (by omega) (fun _ => rfl) (h.le (by omega))
  · simp (maxSteps := 300000) (disch := omega) only [gs, gs2, gs3, gs4, ↓reduceIte, Nat.reduceEqDiff, Int.reduceToNat, Nat.reduceMul, Nat.reduceAdd, Nat.reduceBEq, isLd, h1]
    refine spec_next_ok h (by omega) fun v G2 v0 v1 h2 => ?_
    simp (maxSteps := 300000) (disch := omega) only [gs, gs2, gs3, gs4, ↓reduceIte, Nat.reduceEqDiff, Int.reduceToNat, Nat.reduceMul, Nat.reduceAdd, Nat.reduceBEq, isLd]
    have fin : ∀ (x : Int) G', 0 ≤ x → Src H G' b A L c (p + 2) → K (.int .i64 (x.tmod n)) G' := fun x G' x0 h' => by
      have e1 := Int.tmod_nonneg n x0
      have e2 := Int.tmod_lt_of_pos x (show 0 < n by omega)
      exact hk _ G' e1 (fun _ => e2) (fun y => by omega) h'
    have hrem := fun x : Int => bin_rem .i64 x n (by omega)
    by_cases h3 : 200 < n
    · simp (maxSteps := 300000) (disch := omega) only [gs, gs2, gs3, gs4, ↓reduceIte, Nat.reduceEqDiff, Int.reduceToNat, Nat.reduceMul, Nat.reduceAdd, Nat.reduceBEq, isLd, h3]
      refine spec_next_ok h2 (by omega) fun w G3 w0 w1 h4 => ?_
      simp (maxSteps := 300000) (disch := omega) only [gs, gs2, gs3, gs4, ↓reduceIte, Nat.reduceEqDiff, Int.reduceToNat, Nat.reduceMul, Nat.reduceAdd, Nat.reduceBEq, isLd, hrem]
      exact fin _ G3 (by omega) h4
    · simp (maxSteps := 300000) (disch := omega) only [gs, gs2, gs3, gs4, ↓reduceIte, Nat.reduceEqDiff, Int.reduceToNat, Nat.reduceMul, Nat.reduceAdd, Nat.reduceBEq, isLd, h3, hrem]
      exact fin _ G2 v0 (h2.le (by omega))
theorem spec_one_ok {H G : GH} {b : Nat} {A : Option Addr} {L c p : Nat} (h : Src H G b A L c p) (hp : p + 2 < 2 ^ 40) {n : Int} (hn : n ≤ 10000) {K : Value → GH → Prop}
    (hk : ∀ (v : Bool) G', Src H G' b A L c (p + 2) → K (.bool v) G') : GC Try.prog 221 [.pointer (some ⟨b, 0, none⟩), .int .i64 n] G K := by
  refine c_spec_l00Src_one_i (by simp) ?_
  simp (maxSteps := 300000) (disch := omega) only [gs, gs2, gs3, gs4, ↓reduceIte, Nat.reduceEqDiff, Int.reduceToNat, Nat.reduceMul, Nat.reduceAdd, Nat.reduceBEq, isLd]
  refine spec_pick_ok h hp hn fun v G2 _ _ _ h2 => ?_
  simp (maxSteps := 300000) (disch := omega) only [gs, gs2, gs3, gs4, ↓reduceIte, Nat.reduceEqDiff, Int.reduceToNat, Nat.reduceMul, Nat.reduceAdd, Nat.reduceBEq, isLd]
  exact hk _ G2 h2
theorem spec_among_ok {H G : GH} {b : Nat} {A B : Option Addr} {L c p d : Nat} {xs : List Int} (h : Src H G b A L c p) (hp : p + 2 < 2 ^ 40) (hx : IntS H B d xs) (hl : 1 ≤ xs.length) (hl2 : xs.length ≤ 10000) {K : Value → GH → Prop}
    (hk : ∀ (v : Int) G', v ∈ xs → Src H G' b A L c (p + 2) → K (.int .i64 v) G') : GC Try.prog 157 [.pointer (some ⟨b, 0, none⟩), .slice B xs.length d] G K := by
  refine c_spec_l00Src_among_i (by simp) ?_
  simp (maxSteps := 300000) (disch := omega) only [gs, gs2, gs3, gs4, ↓reduceIte, Nat.reduceEqDiff, Int.reduceToNat, Nat.reduceMul, Nat.reduceAdd, Nat.reduceBEq, isLd]
  refine spec_pick_ok h hp (by omega) fun v G2 v0 v1 _ h2 => ?_
  have hv := v1 (by omega)
  have q := (hx.sub h2.sub).rd v.toNat (by omega)
  have hsB := hx.sn (by omega)
  simp (maxSteps := 300000) (disch := omega) only [gs, gs2, gs3, gs4, ↓reduceIte, Nat.reduceEqDiff, Int.reduceToNat, Nat.reduceMul, Nat.reduceAdd, Nat.reduceBEq, isLd, q]
  exact hk _ G2 (by
    have : v.toNat < xs.length := by omega
    simp [List.getD, this]) h2
theorem flat3_set2 (x : Int) (r : List Value) : ∀ (es : List T3) (k : Nat), k < es.length → (flat3 es ++ r).set (k * 3 + 2) (.int .i64 x) = flat3 (es.set k ((es.getD k z3).1, (es.getD k z3).2.1, x)) ++ r
  | [], k, h => by simp at h
  | e :: es, 0, _ => by simp [flat3, c3, List.getD]
  | e :: es, k + 1, h => by
    have ih := flat3_set2 x r es k (by simpa using h)
    have e1 : flat3 (e :: es) = c3 e ++ flat3 es := by simp [flat3]
    have e2 : (e :: es).getD (k + 1) z3 = es.getD k z3 := rfl
    rw [e1, e2, List.set_cons_succ, show flat3 (e :: es.set k ((es.getD k z3).1, (es.getD k z3).2.1, x)) = c3 e ++ flat3 (es.set k ((es.getD k z3).1, (es.getD k z3).2.1, x)) by simp [flat3], List.append_assoc, List.append_assoc, ← ih, show (k + 1) * 3 + 2 = (c3 e).length + (k * 3 + 2) by simp [c3]; omega, List.set_append_right _ _ (by omega), Nat.add_sub_cancel_left]
theorem T3S.cells {G : GH} {A : Option Addr} {c : Nat} {es : List T3} (h : T3S G A c es) : Cells G A (flat3 es) := fun i v hv => by
  have hl : i < (flat3 es).length := by
    rcases Nat.lt_or_ge i (flat3 es).length with h | h
    · exact h
    · rw [List.getElem?_eq_none h] at hv; cases hv
  rw [flat3_len] at hl
  have hi : i / 3 < es.length := by omega
  obtain ⟨g0, g1, g2⟩ := flat3_get es (i / 3) hi
  have h3 : i % 3 = 0 ∨ i % 3 = 1 ∨ i % 3 = 2 := by omega
  rcases h3 with h3 | h3 | h3
  · rw [show i = i / 3 * 3 by omega] at hv ⊢
    rw [g0] at hv; cases hv
    exact h.r0 _ hi
  · have e : i = i / 3 * 3 + 1 := by omega
    rw [e] at hv ⊢
    rw [g1] at hv; cases hv
    exact h.r1 _ hi
  · have e : i = i / 3 * 3 + 2 := by omega
    rw [e] at hv ⊢
    rw [g2] at hv; cases hv
    exact h.r2 _ hi
theorem flat3_one (es : List T3) : ∀ v ∈ flat3 es, oneB v = true := fun v hv => by
  obtain ⟨e, _, h⟩ := List.mem_flatMap.1 hv
  exact c3_one e v h
theorem Src.all {H G : GH} {b : Nat} {A : Option Addr} {L c p : Nat} (h : Src H G b A L c p) : Src (del G b) G b A L c p := ⟨Sub.del _ _, del_none _ _, h.byt.sub (h.sub.in_del h.nb), h.ex⟩
theorem Own.del {G : GH} {A : Option Addr} {c sz n b : Nat} {cs : List Value} (h : Own G A c cs sz n) (hb : ∀ a, A = some a → a.block ≠ b) : Own (Gh.del G b) A c cs sz n := by
  rcases h with h | ⟨x, r, rfl, h2, h3⟩
  · exact .inl h
  · exact .inr ⟨x, r, rfl, by rw [del_ne _ (hb _ rfl)]; exact h2, h3⟩
/-- the heap without the block of a list. -/
def wo (G : GH) (A : Option Addr) : GH := fun x => if A.map (·.block) = some x then none else G x
theorem Sub.wo (G : GH) (A : Option Addr) : Sub (Gh.wo G A) G := fun x e h => by
  unfold Gh.wo at h; split at h
  · cases h
  · exact h
theorem Off.wo (G : GH) (A : Option Addr) : Off (Gh.wo G A) A := fun a ha => by unfold Gh.wo; rw [if_pos (by rw [ha]; rfl)]
theorem wo_ne {G : GH} {A : Option Addr} {x : Nat} (h : ∀ a, A = some a → a.block ≠ x) : wo G A x = G x := by
  unfold wo; rw [if_neg]
  cases A with
  | none => simp
  | some a => simp; exact h a rfl
def z2 : List Value := [.int .i64 0, .slice none 0 0]
structure GN (H0 G : GH) (b b2 b3 : Nat) (A : Option Addr) (L c p : Nat) (N : Gra) (Ap : Option Addr) (cp : Nat) : Prop where
  src : Src H0 G b A L c p
  r2 : G b2 = some ⟨z2, true⟩
  r3 : G b3 = some ⟨graC N Ap cp, true⟩
  own : Own G Ap cp (flat3 N.edges) 3 N.edges.length
  n2 : H0 b2 = none
  n3 : H0 b3 = none
  off : Off H0 Ap
  d2 : b2 ≠ b
  d3 : b3 ≠ b
  d23 : b2 ≠ b3
  da : ∀ a, Ap = some a → a.block ≠ b ∧ a.block ≠ b2 ∧ a.block ≠ b3
theorem GN.step {H0 G G' : GH} {b b2 b3 : Nat} {A : Option Addr} {L c p p' : Nat} {N : Gra} {Ap : Option Addr} {cp : Nat} (h : GN H0 G b b2 b3 A L c p N Ap cp) (s : Src (del G b) G' b A L c p') : GN H0 G' b b2 b3 A L c p' N Ap cp := by
  have hs := s.sub
  exact ⟨⟨(h.src.sub.in_del h.src.nb).trans hs, h.src.nb, h.src.byt, s.ex⟩, hs _ _ (by rw [del_ne _ h.d2]; exact h.r2), hs _ _ (by rw [del_ne _ h.d3]; exact h.r3), (h.own.del fun a ha => (h.da a ha).1).sub hs, h.n2, h.n3, h.off, h.d2, h.d3, h.d23, h.da⟩
theorem GN.box {H0 G : GH} {b b2 b3 x : Nat} {A : Option Addr} {L c p : Nat} {N : Gra} {Ap : Option Addr} {cp : Nat} (h : GN H0 G b b2 b3 A L c p N Ap cp) (hx : G x = none) (e : Ent) : GN H0 (put G x e) b b2 b3 A L c p N Ap cp := by
  have s := Sub.put hx e
  obtain ⟨q, st, h1, h2⟩ := h.src.ex
  exact ⟨⟨h.src.sub.trans s, h.src.nb, h.src.byt, q, st, h1, s _ _ h2⟩, s _ _ h.r2, s _ _ h.r3, h.own.sub s, h.n2, h.n3, h.off, h.d2, h.d3, h.d23, h.da⟩
theorem GN.le {H0 G : GH} {b b2 b3 : Nat} {A : Option Addr} {L c p p' : Nat} {N : Gra} {Ap : Option Addr} {cp : Nat} (h : GN H0 G b b2 b3 A L c p N Ap cp) (hp : p ≤ p') : GN H0 G b b2 b3 A L c p' N Ap cp := ⟨h.src.le hp, h.r2, h.r3, h.own, h.n2, h.n3, h.off, h.d2, h.d3, h.d23, h.da⟩
theorem GN.rd {H0 G : GH} {b b2 b3 : Nat} {A : Option Addr} {L c p : Nat} {N : Gra} {Ap : Option Addr} {cp : Nat} (h : GN H0 G b b2 b3 A L c p N Ap cp) : rd G (some ⟨b3, 0, none⟩) = some (.int .i64 N.n) ∧ rd G (some ⟨b3, 1, none⟩) = some (.slice Ap N.edges.length cp) := by
  simp only [Gh.rd, h.r3, Option.bind_some, graC]; exact ⟨rfl, rfl⟩
theorem GN.grow {H0 G G' : GH} {b b2 b3 : Nat} {A : Option Addr} {L c p : Nat} {n : Int} {es es' : List T3} {Ap A' : Option Addr} {cp c' : Nat} (h : GN H0 G b b2 b3 A L c p ⟨n, es⟩ Ap cp) (ho : Own G' A' c' (flat3 es') 3 es'.length) (hs : Sub (wo G Ap) G') (hf : Off (wo G Ap) A') :
    GN H0 (put G' b3 ⟨graC ⟨n, es'⟩ A' c', true⟩) b b2 b3 A L c p ⟨n, es'⟩ A' c' ∧ G' b3 = some ⟨graC ⟨n, es⟩ Ap cp, true⟩ := by
  obtain ⟨q, st, h1, h2⟩ := h.src.ex
  have k : ∀ x e, G x = some e → (∀ a, Ap = some a → a.block ≠ x) → G' x = some e ∧ ∀ a, A' = some a → a.block ≠ x := fun x e hx hne => by
    have hw : wo G Ap x = some e := by rw [wo_ne hne]; exact hx
    refine ⟨hs _ _ hw, fun a ha e' => ?_⟩
    have := hf a ha
    rw [e', hw] at this; cases this
  obtain ⟨kb, ab⟩ := k b _ h2 (fun a ha => (h.da a ha).1)
  obtain ⟨k2, a2⟩ := k b2 _ h.r2 (fun a ha => (h.da a ha).2.1)
  obtain ⟨k3, a3⟩ := k b3 _ h.r3 (fun a ha => (h.da a ha).2.2)
  have s0 : Sub H0 (wo G Ap) := fun x e hx => by
    rw [wo_ne fun a ha e' => by have := h.off a ha; rw [e', hx] at this; cases this]
    exact h.src.sub _ _ hx
  refine ⟨⟨⟨(s0.trans hs).skip h.n3, h.src.nb, h.src.byt, q, st, h1, by rw [put_ne _ _ h.d3.symm]; exact kb⟩, by rw [put_ne _ _ h.d23]; exact k2, put_same _ _ _, ?_, h.n2, h.n3, hf.mono s0, h.d2, h.d3, h.d23, fun a ha => ⟨ab a ha, a2 a ha, a3 a ha⟩⟩, k3⟩
  rcases ho with ho | ⟨x, r, rfl, hx, hr⟩
  · exact .inl ho
  · exact .inr ⟨x, r, rfl, by rw [put_ne _ _ (a3 _ rfl)]; exact hx, hr⟩
theorem GN.set {H0 G : GH} {b b2 b3 : Nat} {A : Option Addr} {L c p : Nat} {n : Int} {es : List T3} {Ap : Option Addr} {cp : Nat} (h : GN H0 G b b2 b3 A L c p ⟨n, es⟩ Ap cp) (n' : Int) : GN H0 (put G b3 ⟨graC ⟨n', es⟩ Ap cp, true⟩) b b2 b3 A L c p ⟨n', es⟩ Ap cp := by
  obtain ⟨q, st, h1, h2⟩ := h.src.ex
  refine ⟨⟨h.src.sub.skip h.n3, h.src.nb, h.src.byt, q, st, h1, by rw [put_ne _ _ h.d3.symm]; exact h2⟩, by rw [put_ne _ _ h.d23]; exact h.r2, put_same _ _ _, ?_, h.n2, h.n3, h.off, h.d2, h.d3, h.d23, h.da⟩
  rcases h.own with ho | ⟨x, r, rfl, hx, hr⟩
  · exact .inl ho
  · exact .inr ⟨x, r, rfl, by rw [put_ne _ _ (h.da _ rfl).2.2]; exact hx, hr⟩
/-- a graph that may be bent: small numbers. -/
structure GSm (N : Gra) : Prop where
  n : 0 ≤ N.n ∧ N.n ≤ 20
  len : N.edges.length ≤ 64
  el : ∀ e ∈ N.edges, (0 ≤ e.1 ∧ e.1 ≤ 100) ∧ (0 ≤ e.2.1 ∧ e.2.1 ≤ 100) ∧ (0 ≤ e.2.2 ∧ e.2.2 ≤ 100)
theorem GSm.snoc {n : Int} {es : List T3} (h : GSm ⟨n, es⟩) (hl : es.length < 64) {a b w : Int} (ha : 0 ≤ a ∧ a ≤ 100) (hb : 0 ≤ b ∧ b ≤ 100) (hw : 0 ≤ w ∧ w ≤ 100) : GSm ⟨n, es ++ [(a, b, w)]⟩ :=
  ⟨h.n, by simp; omega, fun e he => by
    rcases List.mem_append.1 he with h' | h'
    · exact h.el e h'
    · simp at h'; subst h'; exact ⟨ha, hb, hw⟩⟩
theorem st_boxg {G : GH} {b o : Nat} {cs : List Value} {v : Value} {K : Value → GH → Prop} (h : G b = some ⟨cs, true⟩) (h1 : oneB v = true) (ho : o < cs.length) (cs' : List Value) (hc : cs.set o v = cs') (hk : K undef (put G b ⟨cs', true⟩)) : gSt 1 (.pointer (some ⟨b, o, none⟩)) v G K :=
  st_one h ho h1 (by rw [hc]; exact hk)
theorem drawg_l1 {H0 G : GH} {b b2 b3 : Nat} {A : Option Addr} {L c p : Nat} {n : Int} {T : Nat → Value} {Q : Cont} {mn : Int} (hmn : 1 ≤ mn ∧ mn ≤ 9) (hp : p ≤ 2000) (hn : 1 ≤ n ∧ n ≤ 12) (hD : GN H0 G b b2 b3 A L c p ⟨n, []⟩ none 0)
    (x0 : T 0 = .pointer (some ⟨b, 0, none⟩)) (x2 : T 2 = .pointer (some ⟨b2, 0, none⟩)) (x3 : T 3 = .pointer (some ⟨b3, 0, none⟩)) (x4 : T 4 = .int .i64 mn) (x5 : T 5 = .int .i64 0)
    (hQ : ∀ T G' es Ap cp, T 2 = .pointer (some ⟨b2, 0, none⟩) → T 3 = .pointer (some ⟨b3, 0, none⟩) → GSm ⟨n, es⟩ → es.length ≤ 24 → GN H0 G' b b2 b3 A L c (p + 700) ⟨n, es⟩ Ap cp → Q (.ex 0) T G') : gLoop (gW Try.prog c_spec_l16DrawOk_l1) Q T G := by
  refine gLoop_intro (fun m T G' => ∃ (i : Nat) (es : List T3) (Ap : Option Addr) (cp : Nat), T 0 = .pointer (some ⟨b, 0, none⟩) ∧ T 2 = .pointer (some ⟨b2, 0, none⟩) ∧ T 3 = .pointer (some ⟨b3, 0, none⟩) ∧ T 4 = .int .i64 mn ∧ T 5 = .int .i64 i ∧ m + i = n.toNat ∧ i ≤ n.toNat ∧ GSm ⟨n, es⟩ ∧ es.length ≤ 24 ∧ GN H0 G' b b2 b3 A L c (p + 48 * i) ⟨n, es⟩ Ap cp)
    n.toNat ⟨0, [], none, 0, x0, x2, x3, x4, x5, by omega, by omega, ⟨by dsimp only; omega, by simp, fun e he => by simp at he⟩, by simp, hD⟩ ?_
  clear x0 x2 x3 x4 x5 hD
  rintro m T G' ⟨i, es, Ap, cp, x0, x2, x3, x4, x5, hm, him, hA, hl, hD⟩
  obtain ⟨f0, f1⟩ := hD.rd
  dsimp only at f0 f1
  simp (maxSteps := 300000) (disch := omega) only [gs, gs2, gs3, gs4, ↓reduceIte, Nat.reduceEqDiff, Int.reduceToNat, Nat.reduceMul, Nat.reduceAdd, Nat.reduceBEq, isLd, x0, x2, x3, x4, x5, f0]
  by_cases hi : (i : Int) < n
  · simp (maxSteps := 300000) (disch := omega) only [gs, gs2, gs3, gs4, ↓reduceIte, Nat.reduceEqDiff, Int.reduceToNat, Nat.reduceMul, Nat.reduceAdd, Nat.reduceBEq, isLd, x0, x2, x3, x4, x5, hi, f0]
    refine gLoop_intro (fun m' T G' => ∃ (j : Nat) (es : List T3) (Ap : Option Addr) (cp : Nat), T 0 = .pointer (some ⟨b, 0, none⟩) ∧ T 2 = .pointer (some ⟨b2, 0, none⟩) ∧ T 3 = .pointer (some ⟨b3, 0, none⟩) ∧ T 4 = .int .i64 mn ∧ T 5 = .int .i64 i ∧ T 6 = .int .i64 j ∧ m' + j = n.toNat ∧ i + 1 ≤ j ∧ j ≤ n.toNat ∧ GSm ⟨n, es⟩ ∧ es.length ≤ 24 ∧ GN H0 G' b b2 b3 A L c (p + 48 * i + 4 * j) ⟨n, es⟩ Ap cp)
      (n.toNat - (i + 1)) ⟨i + 1, es, Ap, cp, by simp (maxSteps := 300000) (disch := omega) only [gs, gs2, gs3, gs4, ↓reduceIte, Nat.reduceEqDiff, Int.reduceToNat, Nat.reduceMul, Nat.reduceAdd, Nat.reduceBEq, isLd, x0], by simp (maxSteps := 300000) (disch := omega) only [gs, gs2, gs3, gs4, ↓reduceIte, Nat.reduceEqDiff, Int.reduceToNat, Nat.reduceMul, Nat.reduceAdd, Nat.reduceBEq, isLd, x2], by simp (maxSteps := 300000) (disch := omega) only [gs, gs2, gs3, gs4, ↓reduceIte, Nat.reduceEqDiff, Int.reduceToNat, Nat.reduceMul, Nat.reduceAdd, Nat.reduceBEq, isLd, x3], by simp (maxSteps := 300000) (disch := omega) only [gs, gs2, gs3, gs4, ↓reduceIte, Nat.reduceEqDiff, Int.reduceToNat, Nat.reduceMul, Nat.reduceAdd, Nat.reduceBEq, isLd, x4], by simp (maxSteps := 300000) (disch := omega) only [gs, gs2, gs3, gs4, ↓reduceIte, Nat.reduceEqDiff, Int.reduceToNat, Nat.reduceMul, Nat.reduceAdd, Nat.reduceBEq, isLd, x5], by simp (maxSteps := 300000) (disch := omega) only [gs, gs2, gs3, gs4, ↓reduceIte, Nat.reduceEqDiff, Int.reduceToNat, Nat.reduceMul, Nat.reduceAdd, Nat.reduceBEq, isLd] <;> rfl, by omega, by omega, by omega, hA, hl, hD.le (by omega)⟩ ?_
    clear x0 x2 x3 x4 x5 hD hA f0 f1 hl
    rintro m' T G' ⟨j, es, Ap, cp, x0, x2, x3, x4, x5, x6, hm', hij, hjm, hA, hl, hD⟩
    obtain ⟨f0, f1⟩ := hD.rd
    dsimp only at f0 f1
    simp (maxSteps := 300000) (disch := omega) only [gs, gs2, gs3, gs4, ↓reduceIte, Nat.reduceEqDiff, Int.reduceToNat, Nat.reduceMul, Nat.reduceAdd, Nat.reduceBEq, isLd, x0, x2, x3, x4, x5, x6, f0]
    by_cases hj : (j : Int) < n
    · simp (maxSteps := 300000) (disch := omega) only [gs, gs2, gs3, gs4, ↓reduceIte, Nat.reduceEqDiff, Int.reduceToNat, Nat.reduceMul, Nat.reduceAdd, Nat.reduceBEq, isLd, x0, x2, x3, x4, x5, x6, hj, f0]
      refine spec_one_ok hD.src.all (by omega) (n := mn) (by omega) fun v G2 s2 => ?_
      have hD2 := hD.step s2
      obtain ⟨f0, f1⟩ := hD2.rd
      dsimp only at f0 f1
      have keep : GN H0 G2 b b2 b3 A L c (p + 48 * i + 4 * (j + 1)) ⟨n, es⟩ Ap cp := hD2.le (by omega)
      cases v
      · simp (maxSteps := 300000) (disch := omega) only [gs, gs2, gs3, gs4, ↓reduceIte, Nat.reduceEqDiff, Int.reduceToNat, Nat.reduceMul, Nat.reduceAdd, Nat.reduceBEq, isLd, x0, x2, x3, x4, x5, x6, f0, f1]
        by_cases hl2 : (es.length : Int) < 24
        · simp (maxSteps := 300000) (disch := omega) only [gs, gs2, gs3, gs4, ↓reduceIte, Nat.reduceEqDiff, Int.reduceToNat, Nat.reduceMul, Nat.reduceAdd, Nat.reduceBEq, isLd, hl2, x0, x2, x3, x4, x5, x6, f0, f1, gBs]
          refine ⟨by intro v hv; simp at hv; rcases hv with rfl | rfl | rfl | rfl | rfl <;> rfl, fun bx hbx => ?_⟩
          have hDx := hD2.box hbx ⟨[1, 1, 2, 3, 9].map I64, true⟩
          have hbb : bx ≠ b := hD2.src.ne hbx
          have hxl : IntS (del (put G2 bx ⟨[1, 1, 2, 3, 9].map I64, true⟩) b) (some ⟨bx, 0, none⟩) 5 [1, 1, 2, 3, 9] := blk_ints (xs := [1, 1, 2, 3, 9]) (by rw [del_ne _ hbb]; exact put_same _ _ _)
          refine ⟨hDx.rd.2, ?_⟩
          refine spec_among_ok (xs := [1, 1, 2, 3, 9]) hDx.src.all (by omega) hxl (by simp) (by simp) fun w G3 hw s3 => ?_
          have hw : 0 ≤ w ∧ w ≤ 100 := by simp at hw; omega
          have hD3 := hDx.step s3
          obtain ⟨f0, f1⟩ := hD3.rd
          dsimp only at f0 f1
          have hbl : bldV [.int .i64 0, .int .i64 0, .int .i64 0] [(0, 1, .int .i64 (i : Int)), (1, 1, .int .i64 (j : Int)), (2, 1, .int .i64 w)] = some [.int .i64 (i : Int), .int .i64 (j : Int), .int .i64 w] := rfl
          simp (maxSteps := 300000) (disch := omega) only [gs, gs2, gs3, gs4, ↓reduceIte, Nat.reduceEqDiff, Int.reduceToNat, Nat.reduceMul, Nat.reduceAdd, Nat.reduceBEq, isLd, x0, x2, x3, x4, x5, x6, f0, f1, hbl, gBs]
          refine ⟨by intro v hv; simp at hv; subst hv; rfl, fun by' hby => ?_⟩
          have hDy := hD3.box hby ⟨[.int .i64 (i : Int), .int .i64 (j : Int), .int .i64 w], true⟩
          refine ⟨hDy.rd.2, ?_⟩
          refine ap_own hDy.own (cells_one [.int .i64 (i : Int), .int .i64 (j : Int), .int .i64 w] true) (by rfl) (by intro v hv; simp at hv; rcases hv with rfl | rfl | rfl <;> rfl) rfl (by omega) (by omega) (by omega) fun G5 A5 c5 hO5 hG5 => ?_
          obtain ⟨t1, t2⟩ := hG5 _ (Sub.wo _ _) (Off.wo _ _)
          have hfl : flat3 es ++ [.int .i64 (i : Int), .int .i64 (j : Int), .int .i64 w] = flat3 (es ++ [((i : Int), (j : Int), w)]) := by simp [flat3, c3]
          obtain ⟨hD6, e5⟩ := hDy.grow (es' := es ++ [((i : Int), (j : Int), w)]) (hO5.cast hfl (by simp)) t1 t2
          simp (maxSteps := 300000) (disch := omega) only [gs, gs2, gs3, gs4, ↓reduceIte, Nat.reduceEqDiff, Int.reduceToNat, Nat.reduceMul, Nat.reduceAdd, Nat.reduceBEq, isLd, x0, x2, x3, x4, x5, x6]
          refine st_boxg e5 rfl (by simp [graC]) _ rfl ?_
          simp (maxSteps := 300000) (disch := omega) only [gs, gs2, gs3, gs4, ↓reduceIte, Nat.reduceEqDiff, Int.reduceToNat, Nat.reduceMul, Nat.reduceAdd, Nat.reduceBEq, isLd, x0, x2, x3, x4, x5, x6]
          exact ⟨m' - 1, by omega, _, Sub.refl _, j + 1, es ++ [((i : Int), (j : Int), w)], A5, c5, rfl, by omega, by omega, by omega, hA.snoc (by omega) ⟨by omega, by omega⟩ ⟨by omega, by omega⟩ hw, by simp; omega, by
            have := hD6.le (p' := p + 48 * i + 4 * (j + 1)) (by omega)
            simpa [graC] using this⟩
        · simp (maxSteps := 300000) (disch := omega) only [gs, gs2, gs3, gs4, ↓reduceIte, Nat.reduceEqDiff, Int.reduceToNat, Nat.reduceMul, Nat.reduceAdd, Nat.reduceBEq, isLd, hl2, x0, x2, x3, x4, x5, x6, f0, f1]
          exact ⟨m' - 1, by omega, _, Sub.refl _, j + 1, es, Ap, cp, rfl, by omega, by omega, by omega, hA, hl, keep⟩
      · simp (maxSteps := 300000) (disch := omega) only [gs, gs2, gs3, gs4, ↓reduceIte, Nat.reduceEqDiff, Int.reduceToNat, Nat.reduceMul, Nat.reduceAdd, Nat.reduceBEq, isLd, x0, x2, x3, x4, x5, x6, f0, f1]
        exact ⟨m' - 1, by omega, _, Sub.refl _, j + 1, es, Ap, cp, rfl, by omega, by omega, by omega, hA, hl, keep⟩
    · simp (maxSteps := 300000) (disch := omega) only [gs, gs2, gs3, gs4, ↓reduceIte, Nat.reduceEqDiff, Int.reduceToNat, Nat.reduceMul, Nat.reduceAdd, Nat.reduceBEq, isLd, x0, x2, x3, x4, x5, x6, hj, f0]
      obtain rfl : j = n.toNat := by omega
      exact ⟨m - 1, by omega, _, Sub.refl _, i + 1, es, Ap, cp, rfl, by omega, by omega, hA, hl, hD.le (by omega)⟩
  · simp (maxSteps := 300000) (disch := omega) only [gs, gs2, gs3, gs4, ↓reduceIte, Nat.reduceEqDiff, Int.reduceToNat, Nat.reduceMul, Nat.reduceAdd, Nat.reduceBEq, isLd, x0, x2, x3, x4, x5, hi, f0]
    obtain rfl : i = n.toNat := by omega
    exact hQ _ _ es Ap cp (by simp (maxSteps := 300000) (disch := omega) only [gs, gs2, gs3, gs4, ↓reduceIte, Nat.reduceEqDiff, Int.reduceToNat, Nat.reduceMul, Nat.reduceAdd, Nat.reduceBEq, isLd, x2]) (by simp (maxSteps := 300000) (disch := omega) only [gs, gs2, gs3, gs4, ↓reduceIte, Nat.reduceEqDiff, Int.reduceToNat, Nat.reduceMul, Nat.reduceAdd, Nat.reduceBEq, isLd, x3]) hA hl (hD.le (by omega))
theorem spec_l16DrawOk_ok {H0 G : GH} {b : Nat} {A : Option Addr} {L c p : Nat} (h : Src H0 G b A L c p) (hp : p ≤ 1000) {K : Value → GH → Prop}
    (hk : ∀ G' N Ap cp, GSm N → N.edges.length ≤ 24 → Own G' Ap cp (flat3 N.edges) 3 N.edges.length → Off H0 Ap → (∀ a, Ap = some a → a.block ≠ b) → Src H0 G' b A L c (p + 710) → K (graV N Ap cp) G') : GC Try.prog 219 [.pointer (some ⟨b, 0, none⟩)] G K := by
  refine c_spec_l16DrawOk_i (by simp) ?_
  simp (maxSteps := 300000) (disch := omega) only [gs, gs2, gs3, gs4, ↓reduceIte, Nat.reduceEqDiff, Int.reduceToNat, Nat.reduceMul, Nat.reduceAdd, Nat.reduceBEq, isLd]
  intro b2 hb2
  simp (maxSteps := 300000) (disch := omega) only [gs, gs2, gs3, gs4, ↓reduceIte, Nat.reduceEqDiff, Int.reduceToNat, Nat.reduceMul, Nat.reduceAdd, Nat.reduceBEq, isLd]
  have h2 := h.box hb2 ⟨z2, true⟩
  have d2 := h.ne hb2
  have nn2 := h.sub.none hb2
  have h2' := h2.low (Sub.put nn2 _) h.byt
  refine spec_pick_ok h2'.all (by omega) (n := 6) (by omega) fun v G1 v0 v1 _ s1 => ?_
  have v1 := v1 (by omega)
  have hs := s1.sub
  have e2 : G1 b2 = some ⟨z2, true⟩ := hs _ _ (by rw [del_ne _ d2]; exact put_same _ _ _)
  have sH : Sub H0 G1 := (h2'.sub.in_del h.nb).trans hs
  have s1' : Src H0 G1 b A L c (p + 2) := ⟨sH, h.nb, h.byt, s1.ex⟩
  simp (maxSteps := 300000) (disch := omega) only [gs, gs2, gs3, gs4, ↓reduceIte, Nat.reduceEqDiff, Int.reduceToNat, Nat.reduceMul, Nat.reduceAdd, Nat.reduceBEq, isLd]
  intro b3 hb3
  simp (maxSteps := 300000) (disch := omega) only [gs, gs2, gs3, gs4, ↓reduceIte, Nat.reduceEqDiff, Int.reduceToNat, Nat.reduceMul, Nat.reduceAdd, Nat.reduceBEq, isLd]
  refine st_fresh (vs := [.int .i64 (1 + v), .slice none 0 0]) rfl rfl rfl (by intro v hv; simp at hv; rcases hv with rfl | rfl <;> rfl) ?_
  have d3 := s1'.ne hb3
  have d23 : b2 ≠ b3 := blk_ne e2 hb3
  obtain ⟨n, hn⟩ : ∃ n, n = 1 + v := ⟨_, rfl⟩
  rw [← hn]
  have hD : GN H0 (put G1 b3 ⟨graC ⟨n, []⟩ none 0, true⟩) b b2 b3 A L c (p + 2) ⟨n, []⟩ none 0 := by
    obtain ⟨q, st, g1, g2⟩ := s1'.ex
    exact ⟨⟨sH.trans (Sub.put hb3 _), h.nb, h.byt, q, st, g1, by rw [put_ne _ _ d3.symm]; exact g2⟩, by rw [put_ne _ _ d23]; exact e2, put_same _ _ _, Own.nil _ _, nn2, sH.none hb3, Off.nil _, d2, d3, d23, fun a ha => by cases ha⟩
  have e4 : put G1 b3 ⟨[.int .i64 n, .slice none 0 0], true⟩ = put G1 b3 ⟨graC ⟨n, []⟩ none 0, true⟩ := rfl
  rw [e4]
  clear e4
  revert hD
  generalize put G1 b3 ⟨graC ⟨n, []⟩ none 0, true⟩ = G4
  intro hD
  have fin : ∀ (n : Int) (T : Nat → Value) (G5 : GH) (es : List T3) (Ap : Option Addr) (cp p' : Nat), p' ≤ p + 710 → GSm ⟨n, es⟩ → es.length ≤ 24 → GN H0 G5 b b2 b3 A L c p' ⟨n, es⟩ Ap cp → T 2 = .pointer (some ⟨b2, 0, none⟩) → T 3 = .pointer (some ⟨b3, 0, none⟩) →
      gW Try.prog (.seq (.reg c_spec_l16DrawOk_16) .ret) (RetK [RV.cn 2 2] K) T G5 := fun n T G5 es Ap cp p' hp' hA hl hD x2 x3 => by
    obtain ⟨f0, f1⟩ := hD.rd
    dsimp only at f0 f1
    simp (maxSteps := 300000) (disch := omega) only [gs, gs2, gs3, gs4, ↓reduceIte, Nat.reduceEqDiff, Int.reduceToNat, Nat.reduceMul, Nat.reduceAdd, Nat.reduceBEq, isLd, x2, x3, f0, f1]
    refine st_many (vs := graC ⟨n, es⟩ Ap cp) rfl hD.r2 rfl (by simp [z2, graC]) (by intro v hv; simp [graC] at hv; rcases hv with rfl | rfl <;> rfl) ?_
    rw [show over z2 0 (graC ⟨n, es⟩ Ap cp) = graC ⟨n, es⟩ Ap cp from rfl]
    have hlast : K (graV ⟨n, es⟩ Ap cp) (put G5 b2 ⟨graC ⟨n, es⟩ Ap cp, true⟩) := by
      obtain ⟨q, st, g1, g2⟩ := hD.src.ex
      refine hk _ _ _ _ hA hl ?_ hD.off (fun a ha => (hD.da a ha).1) ⟨hD.src.sub.skip hD.n2, hD.src.nb, hD.src.byt, q, st, by omega, by rw [put_ne _ _ hD.d2.symm]; exact g2⟩
      rcases hD.own with ho | ⟨x, r, rfl, hx, hr⟩
      · exact .inl ho
      · exact .inr ⟨x, r, rfl, by rw [put_ne _ _ (hD.da _ rfl).2.1]; exact hx, hr⟩
    have q0 : rd (put G5 b2 ⟨graC ⟨n, es⟩ Ap cp, true⟩) (some ⟨b2, 0, none⟩) = some (.int .i64 n) := rd_box _ _ _ 0 _ rfl
    have q1 : rd (put G5 b2 ⟨graC ⟨n, es⟩ Ap cp, true⟩) (some ⟨b2, 1, none⟩) = some (.slice Ap es.length cp) := rd_box _ _ _ 1 _ rfl
    simp (maxSteps := 300000) (disch := omega) only [gs, gs2, gs3, gs4, ↓reduceIte, Nat.reduceEqDiff, Int.reduceToNat, Nat.reduceMul, Nat.reduceAdd, Nat.reduceBEq, isLd, x2, x3, q0, q1]
    exact hlast
  simp (maxSteps := 300000) (disch := omega) only [gs, gs2, gs3, gs4, ↓reduceIte, Nat.reduceEqDiff, Int.reduceToNat, Nat.reduceMul, Nat.reduceAdd, Nat.reduceBEq, isLd, gBs]
  refine ⟨by intro v hv; simp at hv; rcases hv with rfl | rfl | rfl | rfl <;> rfl, fun bx hbx => ?_⟩
  have hDx := hD.box hbx ⟨[2, 2, 3, 9].map I64, true⟩
  have hbb : bx ≠ b := hD.src.ne hbx
  have hxl : IntS (del (put G4 bx ⟨[2, 2, 3, 9].map I64, true⟩) b) (some ⟨bx, 0, none⟩) 4 [2, 2, 3, 9] := blk_ints (xs := [2, 2, 3, 9]) (by rw [del_ne _ hbb]; exact put_same _ _ _)
  refine spec_among_ok (xs := [2, 2, 3, 9]) hDx.src.all (by omega) hxl (by simp) (by simp) fun mn G5 hmn s5 => ?_
  have hmn : 1 ≤ mn ∧ mn ≤ 9 := by simp at hmn; omega
  have hD := hDx.step s5
  simp (maxSteps := 300000) (disch := omega) only [gs, gs2, gs3, gs4, ↓reduceIte, Nat.reduceEqDiff, Int.reduceToNat, Nat.reduceMul, Nat.reduceAdd, Nat.reduceBEq, isLd]
  refine spec_one_ok hD.src.all (by omega) (n := 14) (by omega) fun w G7 s7 => ?_
  have hD := hD.step s7
  cases w
  · simp (maxSteps := 300000) (disch := omega) only [gs, gs2, gs3, gs4, ↓reduceIte, Nat.reduceEqDiff, Int.reduceToNat, Nat.reduceMul, Nat.reduceAdd, Nat.reduceBEq, isLd]
    refine drawg_l1 (p := p + 2 + 2 + 2) hmn (by omega) (by omega) hD (by simp (maxSteps := 300000) (disch := omega) only [gs, gs2, gs3, gs4, ↓reduceIte, Nat.reduceEqDiff, Int.reduceToNat, Nat.reduceMul, Nat.reduceAdd, Nat.reduceBEq, isLd]) (by simp (maxSteps := 300000) (disch := omega) only [gs, gs2, gs3, gs4, ↓reduceIte, Nat.reduceEqDiff, Int.reduceToNat, Nat.reduceMul, Nat.reduceAdd, Nat.reduceBEq, isLd]) (by simp (maxSteps := 300000) (disch := omega) only [gs, gs2, gs3, gs4, ↓reduceIte, Nat.reduceEqDiff, Int.reduceToNat, Nat.reduceMul, Nat.reduceAdd, Nat.reduceBEq, isLd]) (by simp (maxSteps := 300000) (disch := omega) only [gs, gs2, gs3, gs4, ↓reduceIte, Nat.reduceEqDiff, Int.reduceToNat, Nat.reduceMul, Nat.reduceAdd, Nat.reduceBEq, isLd]) (by simp (maxSteps := 300000) (disch := omega) only [gs, gs2, gs3, gs4, ↓reduceIte, Nat.reduceEqDiff, Int.reduceToNat, Nat.reduceMul, Nat.reduceAdd, Nat.reduceBEq, isLd]) fun T G5 es Ap cp x2 x3 hA hl hD => ?_
    exact fin _ _ _ _ _ _ _ (by omega) hA hl hD x2 x3
  · simp (maxSteps := 300000) (disch := omega) only [gs, gs2, gs3, gs4, ↓reduceIte, Nat.reduceEqDiff, Int.reduceToNat, Nat.reduceMul, Nat.reduceAdd, Nat.reduceBEq, isLd]
    refine st_boxg hD.r3 rfl (by simp [graC]) (graC ⟨12, []⟩ none 0) rfl ?_
    have hD := hD.set 12
    simp (maxSteps := 300000) (disch := omega) only [gs, gs2, gs3, gs4, ↓reduceIte, Nat.reduceEqDiff, Int.reduceToNat, Nat.reduceMul, Nat.reduceAdd, Nat.reduceBEq, isLd]
    refine drawg_l1 (p := p + 2 + 2 + 2) (mn := 4) (by omega) (by omega) (by omega) hD (by simp (maxSteps := 300000) (disch := omega) only [gs, gs2, gs3, gs4, ↓reduceIte, Nat.reduceEqDiff, Int.reduceToNat, Nat.reduceMul, Nat.reduceAdd, Nat.reduceBEq, isLd]) (by simp (maxSteps := 300000) (disch := omega) only [gs, gs2, gs3, gs4, ↓reduceIte, Nat.reduceEqDiff, Int.reduceToNat, Nat.reduceMul, Nat.reduceAdd, Nat.reduceBEq, isLd]) (by simp (maxSteps := 300000) (disch := omega) only [gs, gs2, gs3, gs4, ↓reduceIte, Nat.reduceEqDiff, Int.reduceToNat, Nat.reduceMul, Nat.reduceAdd, Nat.reduceBEq, isLd]) (by simp (maxSteps := 300000) (disch := omega) only [gs, gs2, gs3, gs4, ↓reduceIte, Nat.reduceEqDiff, Int.reduceToNat, Nat.reduceMul, Nat.reduceAdd, Nat.reduceBEq, isLd]) (by simp (maxSteps := 300000) (disch := omega) only [gs, gs2, gs3, gs4, ↓reduceIte, Nat.reduceEqDiff, Int.reduceToNat, Nat.reduceMul, Nat.reduceAdd, Nat.reduceBEq, isLd]) fun T G5 es Ap cp x2 x3 hA hl hD => ?_
    exact fin _ _ _ _ _ _ _ (by omega) hA hl hD x2 x3
theorem GSm.bend {n : Int} {es : List T3} (h : GSm ⟨n, es⟩) {w : Int} (hw : 0 ≤ w ∧ w ≤ 100) (h0 : 0 < es.length) : GSm ⟨n, es.set 0 ((es.getD 0 z3).1, (es.getD 0 z3).2.1, w)⟩ := by
  refine ⟨h.n, by simpa using h.len, fun e he => ?_⟩
  rcases List.mem_or_eq_of_mem_set he with h' | h'
  · exact h.el e h'
  · subst h'
    have := h.el (es.getD 0 z3) (by
      have : es.getD 0 z3 = es[0] := by simp [List.getD, h0]
      rw [this]; exact List.getElem_mem h0)
    exact ⟨this.1, this.2.1, hw⟩
theorem GN.clear {H0 G : GH} {b b2 b3 : Nat} {A : Option Addr} {L c p : Nat} {N : Gra} {Ap : Option Addr} {cp : Nat} {n : Int} (h : GN H0 G b b2 b3 A L c p N Ap cp) : GN H0 (put G b3 ⟨graC ⟨n, []⟩ none 0, true⟩) b b2 b3 A L c p ⟨n, []⟩ none 0 := by
  obtain ⟨q, st, h1, h2⟩ := h.src.ex
  exact ⟨⟨h.src.sub.skip h.n3, h.src.nb, h.src.byt, q, st, h1, by rw [put_ne _ _ h.d3.symm]; exact h2⟩, by rw [put_ne _ _ h.d23]; exact h.r2, put_same _ _ _, Own.nil _ _, h.n2, h.n3, Off.nil _, h.d2, h.d3, h.d23, fun a ha => by cases ha⟩
/-- a weight is written. -/
theorem GN.bend {H0 G : GH} {b b2 b3 : Nat} {A : Option Addr} {L c p : Nat} {n : Int} {es : List T3} {Ap : Option Addr} {cp : Nat} (h : GN H0 G b b2 b3 A L c p ⟨n, es⟩ Ap cp) (h0 : 0 < es.length) (w : Int) {K : Value → GH → Prop}
    (hk : ∀ G', GN H0 G' b b2 b3 A L c p ⟨n, es.set 0 ((es.getD 0 z3).1, (es.getD 0 z3).2.1, w)⟩ Ap cp → K undef G') : gSt 1 (.pointer (pa Ap 2)) (.int .i64 w) G K := by
  have hO := h.own
  dsimp only at hO
  rcases hO with ⟨_, _, hz, _⟩ | ⟨x, r, rfl, hx, hl, hc, hle⟩
  · have hz : es.length = 0 := hz
    omega
  obtain ⟨d1, d2, d3⟩ := h.da _ rfl
  dsimp only at d1 d2 d3
  rw [pa_mk, Nat.zero_add]
  refine st_one hx (by rw [List.length_append, flat3_len]; omega) rfl (hk _ ?_)
  have e := flat3_set2 w r es 0 h0
  rw [Nat.zero_mul, Nat.zero_add] at e
  rw [e]
  obtain ⟨q, st, g1, g2⟩ := h.src.ex
  have nx : H0 x = none := h.off _ rfl
  refine ⟨⟨h.src.sub.skip nx, h.src.nb, h.src.byt, q, st, g1, by rw [put_ne _ _ d1.symm]; exact g2⟩, by rw [put_ne _ _ d2.symm]; exact h.r2, ?_, .inr ⟨x, r, rfl, put_same _ _ _, ?_, ?_, ?_⟩, h.n2, h.n3, h.off, h.d2, h.d3, h.d23, h.da⟩
  · rw [put_ne _ _ d3.symm, h.r3]; simp [graC]
  · rw [flat3_len]
  · rw [List.length_append] at hc ⊢; rw [flat3_len] at hc ⊢; simpa using hc
  · simpa using hle
/-- a graph is laid into the result. -/
theorem st_grab {G : GH} {b : Nat} {n : Int} {es : List T3} {A : Option Addr} {c : Nat} {K : Value → GH → Prop} (h : G b = some ⟨z2, true⟩)
    (hk : rd (put G b ⟨graC ⟨n, es⟩ A c, true⟩) (some ⟨b, 0, none⟩) = some (.int .i64 n) → rd (put G b ⟨graC ⟨n, es⟩ A c, true⟩) (some ⟨b, 1, none⟩) = some (.slice A es.length c) → K undef (put G b ⟨graC ⟨n, es⟩ A c, true⟩)) :
    gSt 2 (.pointer (some ⟨b, 0, none⟩)) (.agg [.int .i64 n, .slice A es.length c].toArray) G K := by
  refine st_many (vs := graC ⟨n, es⟩ A c) rfl h rfl (by simp [z2, graC]) (by intro v hv; simp [graC] at hv; rcases hv with rfl | rfl <;> rfl) ?_
  rw [show over z2 0 (graC ⟨n, es⟩ A c) = graC ⟨n, es⟩ A c from rfl]
  exact hk (rd_box _ _ _ 0 _ rfl) (rd_box _ _ _ 1 _ rfl)
theorem spec_l16Draw_ok {H0 G : GH} {b : Nat} {A : Option Addr} {L c p : Nat} (h : Src H0 G b A L c p) (hp : p ≤ 500) {K : Value → GH → Prop}
    (hk : ∀ G' N Ap cp, GSm N → Own G' Ap cp (flat3 N.edges) 3 N.edges.length → Off H0 Ap → (∀ a, Ap = some a → a.block ≠ b) → Src H0 G' b A L c (p + 800) → K (graV N Ap cp) G') : GC Try.prog 146 [.pointer (some ⟨b, 0, none⟩)] G K := by
  refine c_spec_l16Draw_i (by simp) ?_
  simp (maxSteps := 300000) (disch := omega) only [gs, gs2, gs3, gs4, ↓reduceIte, Nat.reduceEqDiff, Int.reduceToNat, Nat.reduceMul, Nat.reduceAdd, Nat.reduceBEq, isLd]
  intro b2 hb2
  simp (maxSteps := 300000) (disch := omega) only [gs, gs2, gs3, gs4, ↓reduceIte, Nat.reduceEqDiff, Int.reduceToNat, Nat.reduceMul, Nat.reduceAdd, Nat.reduceBEq, isLd]
  have h2 := h.box hb2 ⟨z2, true⟩
  have d2 := h.ne hb2
  have nn2 := h.sub.none hb2
  have s2 : Sub H0 (put H0 b2 ⟨z2, true⟩) := Sub.put nn2 _
  refine spec_l16DrawOk_ok h2 (by omega) fun G1 N Ap cp hA hl hO hOff hab s1 => ?_
  have e2 : G1 b2 = some ⟨z2, true⟩ := s1.sub _ _ (put_same _ _ _)
  obtain ⟨n, es⟩ := N
  dsimp only at hl hO
  unfold graV
  simp (maxSteps := 300000) (disch := omega) only [gs, gs2, gs3, gs4, ↓reduceIte, Nat.reduceEqDiff, Int.reduceToNat, Nat.reduceMul, Nat.reduceAdd, Nat.reduceBEq, isLd]
  intro b3 hb3
  simp (maxSteps := 300000) (disch := omega) only [gs, gs2, gs3, gs4, ↓reduceIte, Nat.reduceEqDiff, Int.reduceToNat, Nat.reduceMul, Nat.reduceAdd, Nat.reduceBEq, isLd]
  refine st_fresh (vs := graC ⟨n, es⟩ Ap cp) rfl rfl rfl (by intro v hv; simp [graC] at hv; rcases hv with rfl | rfl <;> rfl) ?_
  have d3 := s1.ne hb3
  have d23 : b2 ≠ b3 := blk_ne e2 hb3
  have sH := s2.trans s1.sub
  have hD : GN H0 (put G1 b3 ⟨graC ⟨n, es⟩ Ap cp, true⟩) b b2 b3 A L c (p + 710) ⟨n, es⟩ Ap cp := by
    obtain ⟨q, st, g1, g2⟩ := s1.ex
    refine ⟨⟨sH.trans (Sub.put hb3 _), h.nb, h.byt, q, st, g1, by rw [put_ne _ _ d3.symm]; exact g2⟩, by rw [put_ne _ _ d23]; exact e2, put_same _ _ _, hO.sub (Sub.put hb3 _), nn2, sH.none hb3, hOff.mono s2, d2, d3, d23, fun a ha => ⟨hab a ha, fun e => ?_, fun e => ?_⟩⟩
    · have := hOff a ha; rw [e, put_same] at this; cases this
    · rcases hO with ⟨ha', _⟩ | ⟨x, r, ha', hx, _⟩
      · rw [ha'] at ha; cases ha
      · rw [ha'] at ha; cases ha
        dsimp only at e
        rw [e, hb3] at hx; cases hx
  revert hD
  generalize put G1 b3 ⟨graC ⟨n, es⟩ Ap cp, true⟩ = G4
  intro hD
  clear hO hOff hab s1 e2 hb3 sH
  have last : ∀ (n : Int) (es : List T3) (Ap : Option Addr) (cp p' : Nat) (G5 : GH), p' ≤ p + 800 → GSm ⟨n, es⟩ → GN H0 G5 b b2 b3 A L c p' ⟨n, es⟩ Ap cp → K (graV ⟨n, es⟩ Ap cp) (put G5 b2 ⟨graC ⟨n, es⟩ Ap cp, true⟩) := fun n es Ap cp p' G5 hp' hA hD => by
    obtain ⟨q, st, g1, g2⟩ := hD.src.ex
    refine hk _ _ _ _ hA ?_ hD.off (fun a ha => (hD.da a ha).1) ⟨hD.src.sub.skip hD.n2, hD.src.nb, hD.src.byt, q, st, by omega, by rw [put_ne _ _ hD.d2.symm]; exact g2⟩
    rcases hD.own with ho | ⟨x, r, rfl, hx, hr⟩
    · exact .inl ho
    · exact .inr ⟨x, r, rfl, by rw [put_ne _ _ (hD.da _ rfl).2.1]; exact hx, hr⟩
  simp (maxSteps := 300000) (disch := omega) only [gs, gs2, gs3, gs4, ↓reduceIte, Nat.reduceEqDiff, Int.reduceToNat, Nat.reduceMul, Nat.reduceAdd, Nat.reduceBEq, isLd]
  refine spec_pick_ok hD.src.all (by omega) (n := 20) (by omega) fun v G5 v0 v1 _ s5 => ?_
  have v1 := v1 (by omega)
  have hD := hD.step s5
  simp (maxSteps := 300000) (disch := omega) only [gs, gs2, gs3, gs4, ↓reduceIte, Nat.reduceEqDiff, Int.reduceToNat, Nat.reduceMul, Nat.reduceAdd, Nat.reduceBEq, isLd]
  by_cases c0 : v = 0
  · simp (maxSteps := 300000) (disch := omega) only [gs, gs2, gs3, gs4, ↓reduceIte, Nat.reduceEqDiff, Int.reduceToNat, Nat.reduceMul, Nat.reduceAdd, Nat.reduceBEq, isLd, eq_true c0, gBs]
    refine ⟨by intro v hv; simp at hv; rcases hv with rfl | rfl | rfl <;> rfl, fun bx hbx => ?_⟩
    have hDx := hD.box hbx ⟨[0, 12, 13].map I64, true⟩
    have hbb : bx ≠ b := hD.src.ne hbx
    have hxl : IntS (del (put G5 bx ⟨[0, 12, 13].map I64, true⟩) b) (some ⟨bx, 0, none⟩) 3 [0, 12, 13] := blk_ints (xs := [0, 12, 13]) (by rw [del_ne _ hbb]; exact put_same _ _ _)
    refine spec_among_ok (xs := [0, 12, 13]) hDx.src.all (by omega) hxl (by simp) (by simp) fun w G6 hw s6 => ?_
    have hw : 0 ≤ w ∧ w ≤ 20 := by simp at hw; omega
    have hD := hDx.step s6
    simp (maxSteps := 300000) (disch := omega) only [gs, gs2, gs3, gs4, ↓reduceIte, Nat.reduceEqDiff, Int.reduceToNat, Nat.reduceMul, Nat.reduceAdd, Nat.reduceBEq, isLd]
    refine st_boxg hD.r3 rfl (by simp [graC]) (graC ⟨w, es⟩ Ap cp) rfl ?_
    have hD := hD.set w
    obtain ⟨f0, f1⟩ := hD.rd
    dsimp only at f0 f1
    simp (maxSteps := 300000) (disch := omega) only [gs, gs2, gs3, gs4, ↓reduceIte, Nat.reduceEqDiff, Int.reduceToNat, Nat.reduceMul, Nat.reduceAdd, Nat.reduceBEq, isLd, f0, f1]
    refine st_grab (n := w) (es := es) (A := Ap) (c := cp) hD.r2 fun q0 q1 => ?_
    simp (maxSteps := 300000) (disch := omega) only [gs, gs2, gs3, gs4, ↓reduceIte, Nat.reduceEqDiff, Int.reduceToNat, Nat.reduceMul, Nat.reduceAdd, Nat.reduceBEq, isLd, q0, q1]
    exact last _ _ _ _ _ _ (by omega) ⟨hw, hA.len, hA.el⟩ hD
  simp (maxSteps := 300000) (disch := omega) only [gs, gs2, gs3, gs4, ↓reduceIte, Nat.reduceEqDiff, Int.reduceToNat, Nat.reduceMul, Nat.reduceAdd, Nat.reduceBEq, isLd, eq_false c0]
  by_cases c1 : v = 1
  · obtain ⟨f0, f1⟩ := hD.rd
    dsimp only at f0 f1
    simp (maxSteps := 300000) (disch := omega) only [gs, gs2, gs3, gs4, ↓reduceIte, Nat.reduceEqDiff, Int.reduceToNat, Nat.reduceMul, Nat.reduceAdd, Nat.reduceBEq, isLd, eq_true c1, f0, f1]
    refine spec_pick_ok hD.src.all (by omega) (n := 3) (by omega) fun a G6 a0 a1 _ s6 => ?_
    have a1 := a1 (by omega)
    have hD := hD.step s6
    obtain ⟨f0, f1⟩ := hD.rd
    dsimp only at f0 f1
    simp (maxSteps := 300000) (disch := omega) only [gs, gs2, gs3, gs4, ↓reduceIte, Nat.reduceEqDiff, Int.reduceToNat, Nat.reduceMul, Nat.reduceAdd, Nat.reduceBEq, isLd, f0, f1]
    refine spec_pick_ok hD.src.all (by omega) (n := 4) (by omega) fun d G7 d0 d1 _ s7 => ?_
    have d1 := d1 (by omega)
    have hD := hD.step s7
    obtain ⟨f0, f1⟩ := hD.rd
    dsimp only at f0 f1
    have hbl : bldV [.int .i64 0, .int .i64 0, .int .i64 0] [(0, 1, .int .i64 (a)), (1, 1, .int .i64 (d)), (2, 1, .int .i64 1)] = some [.int .i64 (a), .int .i64 (d), .int .i64 1] := rfl
    simp (maxSteps := 300000) (disch := omega) only [gs, gs2, gs3, gs4, ↓reduceIte, Nat.reduceEqDiff, Int.reduceToNat, Nat.reduceMul, Nat.reduceAdd, Nat.reduceBEq, isLd, f0, f1, hbl, gBs]
    refine ⟨by intro v hv; simp at hv; subst hv; rfl, fun by' hby => ?_⟩
    have hDy := hD.box hby ⟨[.int .i64 (a), .int .i64 (d), .int .i64 1], true⟩
    refine ⟨hDy.rd.2, ?_⟩
    refine ap_own hDy.own (cells_one [.int .i64 (a), .int .i64 (d), .int .i64 1] true) (by rfl) (by intro v hv; simp at hv; rcases hv with rfl | rfl | rfl <;> rfl) rfl (by omega) (by omega) (by omega) fun G9 A9 c9 hO9 hG9 => ?_
    obtain ⟨t1, t2⟩ := hG9 _ (Sub.wo _ _) (Off.wo _ _)
    have hfl : flat3 es ++ [.int .i64 (a), .int .i64 (d), .int .i64 1] = flat3 (es ++ [((a), (d), 1)]) := by simp [flat3, c3]
    obtain ⟨hD, e9⟩ := hDy.grow (es' := es ++ [((a), (d), 1)]) (hO9.cast hfl (by simp)) t1 t2
    simp (maxSteps := 300000) (disch := omega) only [gs, gs2, gs3, gs4, ↓reduceIte, Nat.reduceEqDiff, Int.reduceToNat, Nat.reduceMul, Nat.reduceAdd, Nat.reduceBEq, isLd]
    refine st_boxg e9 rfl (by simp [graC]) (graC ⟨n, es ++ [((a), (d), 1)]⟩ A9 c9) (by simp [graC]) ?_
    obtain ⟨f0, f1⟩ := hD.rd
    dsimp only at f0 f1
    simp (maxSteps := 300000) (disch := omega) only [gs, gs2, gs3, gs4, ↓reduceIte, Nat.reduceEqDiff, Int.reduceToNat, Nat.reduceMul, Nat.reduceAdd, Nat.reduceBEq, isLd, f0, f1]
    refine st_grab (n := n) (es := es ++ [(a, d, 1)]) (A := A9) (c := c9) hD.r2 fun q0 q1 => ?_
    simp (maxSteps := 300000) (disch := omega) only [gs, gs2, gs3, gs4, ↓reduceIte, Nat.reduceEqDiff, Int.reduceToNat, Nat.reduceMul, Nat.reduceAdd, Nat.reduceBEq, isLd, q0, q1]
    exact last _ _ _ _ _ _ (by omega) (hA.snoc (by omega) ⟨a0, by omega⟩ ⟨d0, by omega⟩ (by omega)) hD
  simp (maxSteps := 300000) (disch := omega) only [gs, gs2, gs3, gs4, ↓reduceIte, Nat.reduceEqDiff, Int.reduceToNat, Nat.reduceMul, Nat.reduceAdd, Nat.reduceBEq, isLd, eq_false c1]
  by_cases c2 : v = 2
  · obtain ⟨f0, f1⟩ := hD.rd
    dsimp only at f0 f1
    simp (maxSteps := 300000) (disch := omega) only [gs, gs2, gs3, gs4, ↓reduceIte, Nat.reduceEqDiff, Int.reduceToNat, Nat.reduceMul, Nat.reduceAdd, Nat.reduceBEq, isLd, eq_true c2, f0, f1]
    by_cases h0 : (0 : Int) < es.length
    · simp (maxSteps := 300000) (disch := omega) only [gs, gs2, gs3, gs4, ↓reduceIte, Nat.reduceEqDiff, Int.reduceToNat, Nat.reduceMul, Nat.reduceAdd, Nat.reduceBEq, isLd, h0, f0, f1, gBs]
      refine ⟨by intro v hv; simp at hv; rcases hv with rfl | rfl | rfl <;> rfl, fun bx hbx => ?_⟩
      have hDx := hD.box hbx ⟨[0, 9, 10].map I64, true⟩
      have hbb : bx ≠ b := hD.src.ne hbx
      have hxl : IntS (del (put G5 bx ⟨[0, 9, 10].map I64, true⟩) b) (some ⟨bx, 0, none⟩) 3 [0, 9, 10] := blk_ints (xs := [0, 9, 10]) (by rw [del_ne _ hbb]; exact put_same _ _ _)
      refine ⟨hDx.rd.2, ?_⟩
      refine spec_among_ok (xs := [0, 9, 10]) hDx.src.all (by omega) hxl (by simp) (by simp) fun w G6 hw s6 => ?_
      have hw : 0 ≤ w ∧ w ≤ 100 := by simp at hw; omega
      have hD := hDx.step s6
      obtain ⟨f0, f1⟩ := hD.rd
      dsimp only at f0 f1
      have hsA : 0 < sn Ap := hD.own.t3.sn (by dsimp only; omega)
      simp (maxSteps := 300000) (disch := omega) only [gs, gs2, gs3, gs4, ↓reduceIte, Nat.reduceEqDiff, Int.reduceToNat, Nat.reduceMul, Nat.reduceAdd, Nat.reduceBEq, isLd, f0, f1]
      refine hD.bend (by omega) w fun G7 hD => ?_
      obtain ⟨f0, f1⟩ := hD.rd
      dsimp only at f0 f1
      simp (maxSteps := 300000) (disch := omega) only [gs, gs2, gs3, gs4, ↓reduceIte, Nat.reduceEqDiff, Int.reduceToNat, Nat.reduceMul, Nat.reduceAdd, Nat.reduceBEq, isLd, f0, f1]
      refine st_grab (n := n) (es := es.set 0 ((es.getD 0 z3).1, (es.getD 0 z3).2.1, w)) (A := Ap) (c := cp) hD.r2 fun q0 q1 => ?_
      simp (maxSteps := 300000) (disch := omega) only [gs, gs2, gs3, gs4, ↓reduceIte, Nat.reduceEqDiff, Int.reduceToNat, Nat.reduceMul, Nat.reduceAdd, Nat.reduceBEq, isLd, q0, q1]
      exact last _ _ _ _ _ _ (by omega) (hA.bend hw (by omega)) hD
    · simp (maxSteps := 300000) (disch := omega) only [gs, gs2, gs3, gs4, ↓reduceIte, Nat.reduceEqDiff, Int.reduceToNat, Nat.reduceMul, Nat.reduceAdd, Nat.reduceBEq, isLd, h0, f0, f1]
      refine st_grab (n := n) (es := es) (A := Ap) (c := cp) hD.r2 fun q0 q1 => ?_
      simp (maxSteps := 300000) (disch := omega) only [gs, gs2, gs3, gs4, ↓reduceIte, Nat.reduceEqDiff, Int.reduceToNat, Nat.reduceMul, Nat.reduceAdd, Nat.reduceBEq, isLd, q0, q1]
      exact last _ _ _ _ _ _ (by omega) hA hD
  simp (maxSteps := 300000) (disch := omega) only [gs, gs2, gs3, gs4, ↓reduceIte, Nat.reduceEqDiff, Int.reduceToNat, Nat.reduceMul, Nat.reduceAdd, Nat.reduceBEq, isLd, eq_false c2]
  by_cases v3 : v = 3
  · simp (maxSteps := 300000) (disch := omega) only [gs, gs2, gs3, gs4, ↓reduceIte, Nat.reduceEqDiff, Int.reduceToNat, Nat.reduceMul, Nat.reduceAdd, Nat.reduceBEq, isLd, eq_true v3, gBs]
    refine ⟨by intro v hv; simp at hv; rcases hv with rfl | rfl <;> rfl, fun bx hbx => ?_⟩
    have hDx := hD.box hbx ⟨[24, 25].map I64, true⟩
    have hbb : bx ≠ b := hD.src.ne hbx
    have hxl : IntS (del (put G5 bx ⟨[24, 25].map I64, true⟩) b) (some ⟨bx, 0, none⟩) 2 [24, 25] := blk_ints (xs := [24, 25]) (by rw [del_ne _ hbb]; exact put_same _ _ _)
    refine spec_among_ok (xs := [24, 25]) hDx.src.all (by omega) hxl (by simp) (by simp) fun w G6 hw s6 => ?_
    have hw : 24 ≤ w ∧ w ≤ 25 := by simp at hw; omega
    have hD := hDx.step s6
    simp (maxSteps := 300000) (disch := omega) only [gs, gs2, gs3, gs4, ↓reduceIte, Nat.reduceEqDiff, Int.reduceToNat, Nat.reduceMul, Nat.reduceAdd, Nat.reduceBEq, isLd]
    have hbl : bldV [.int .i64 0, .slice none 0 0] [(0, 1, .int .i64 12)] = some [.int .i64 12, .slice none 0 0] := rfl
    simp (maxSteps := 300000) (disch := omega) only [gs, gs2, gs3, gs4, ↓reduceIte, Nat.reduceEqDiff, Int.reduceToNat, Nat.reduceMul, Nat.reduceAdd, Nat.reduceBEq, isLd, hbl]
    refine st_many (vs := graC ⟨12, []⟩ none 0) rfl hD.r3 rfl (by simp [graC]) (by intro v hv; simp [graC] at hv; rcases hv with rfl | rfl <;> rfl) ?_
    rw [show over (graC ⟨n, es⟩ Ap cp) 0 (graC ⟨12, []⟩ none 0) = graC ⟨12, []⟩ none 0 from rfl]
    have hD := hD.clear (n := 12)
    simp (maxSteps := 300000) (disch := omega) only [gs, gs2, gs3, gs4, ↓reduceIte, Nat.reduceEqDiff, Int.reduceToNat, Nat.reduceMul, Nat.reduceAdd, Nat.reduceBEq, isLd]
    refine gLoop_intro (fun m T G' => ∃ (k : Nat) (es : List T3) (Ap : Option Addr) (cp : Nat), T 2 = .pointer (some ⟨b2, 0, none⟩) ∧ T 3 = .pointer (some ⟨b3, 0, none⟩) ∧ T 4 = .int .i64 w ∧ T 5 = .int .i64 k ∧ m + k = w.toNat ∧ k ≤ w.toNat ∧ es.length = k ∧ GSm ⟨12, es⟩ ∧ GN H0 G' b b2 b3 A L c (p + 710 + 2 + 2) ⟨12, es⟩ Ap cp)
      w.toNat ⟨0, [], none, 0, by simp (maxSteps := 300000) (disch := omega) only [gs, gs2, gs3, gs4, ↓reduceIte, Nat.reduceEqDiff, Int.reduceToNat, Nat.reduceMul, Nat.reduceAdd, Nat.reduceBEq, isLd], by simp (maxSteps := 300000) (disch := omega) only [gs, gs2, gs3, gs4, ↓reduceIte, Nat.reduceEqDiff, Int.reduceToNat, Nat.reduceMul, Nat.reduceAdd, Nat.reduceBEq, isLd], by simp (maxSteps := 300000) (disch := omega) only [gs, gs2, gs3, gs4, ↓reduceIte, Nat.reduceEqDiff, Int.reduceToNat, Nat.reduceMul, Nat.reduceAdd, Nat.reduceBEq, isLd], by simp (maxSteps := 300000) (disch := omega) only [gs, gs2, gs3, gs4, ↓reduceIte, Nat.reduceEqDiff, Int.reduceToNat, Nat.reduceMul, Nat.reduceAdd, Nat.reduceBEq, isLd] <;> rfl, by omega, by omega, rfl, ⟨by dsimp only; omega, by simp, fun e he => by simp at he⟩, hD⟩ ?_
    clear hD hDx hxl hA hl
    rintro m T G' ⟨k, es, Ap, cp, x2, x3, x4, x5, hm, hkm, hlk, hA, hD⟩
    obtain ⟨f0, f1⟩ := hD.rd
    dsimp only at f0 f1
    have hqu : binV .quo (.int .i64 (k : Int)) (.int .i64 8) = some (.int .i64 ((k : Int) / 8)) := by
      rw [bin_quo _ _ _ (by omega), Int.tdiv_eq_ediv_of_nonneg (by omega), w64 _ (by omega) (by omega)]
    have hre : binV .rem (.int .i64 (k : Int)) (.int .i64 8) = some (.int .i64 ((k : Int) % 8)) := by
      rw [bin_rem _ _ _ (by omega), Int.tmod_eq_emod_of_nonneg (by omega)]
    simp (maxSteps := 300000) (disch := omega) only [gs, gs2, gs3, gs4, ↓reduceIte, Nat.reduceEqDiff, Int.reduceToNat, Nat.reduceMul, Nat.reduceAdd, Nat.reduceBEq, isLd, x2, x3, x4, x5]
    by_cases hk : (k : Int) < w
    · obtain ⟨qa, hqa⟩ : ∃ qa, qa = (k : Int) / 8 := ⟨_, rfl⟩
      obtain ⟨qb, hqb⟩ : ∃ qb, qb = 3 + (k : Int) % 8 := ⟨_, rfl⟩
      have hbb : (0 ≤ qa ∧ qa ≤ 100) ∧ 0 ≤ qb ∧ qb ≤ 100 := by omega
      have hm8 : 0 ≤ (k : Int) % 8 ∧ (k : Int) % 8 < 8 := by omega
      rw [← hqa] at hqu
      have hbl0 : bldV [.int .i64 0, .int .i64 0, .int .i64 0] [(0, 1, .int .i64 qa), (1, 1, .int .i64 (3 + (k : Int) % 8)), (2, 1, .int .i64 1)] = some [.int .i64 qa, .int .i64 qb, .int .i64 1] := by rw [hqb]; rfl
      have hbl : bldV [.int .i64 0, .int .i64 0, .int .i64 0] [(0, 1, .int .i64 (qa)), (1, 1, .int .i64 (qb)), (2, 1, .int .i64 1)] = some [.int .i64 (qa), .int .i64 (qb), .int .i64 1] := rfl
      simp (maxSteps := 300000) (disch := omega) only [gs, gs2, gs3, gs4, ↓reduceIte, Nat.reduceEqDiff, Int.reduceToNat, Nat.reduceMul, Nat.reduceAdd, Nat.reduceBEq, isLd, x2, x3, x4, x5, hk, hqu, hre, hbl0, f0, f1, hbl, gBs]
      refine ⟨by intro v hv; simp at hv; subst hv; rfl, fun by' hby => ?_⟩
      have hDy := hD.box hby ⟨[.int .i64 (qa), .int .i64 (qb), .int .i64 1], true⟩
      refine ap_own hDy.own (cells_one [.int .i64 (qa), .int .i64 (qb), .int .i64 1] true) (by rfl) (by intro v hv; simp at hv; rcases hv with rfl | rfl | rfl <;> rfl) rfl (by omega) (by omega) (by omega) fun G9 A9 c9 hO9 hG9 => ?_
      obtain ⟨t1, t2⟩ := hG9 _ (Sub.wo _ _) (Off.wo _ _)
      have hfl : flat3 es ++ [.int .i64 (qa), .int .i64 (qb), .int .i64 1] = flat3 (es ++ [((qa), (qb), 1)]) := by simp [flat3, c3]
      obtain ⟨hD, e9⟩ := hDy.grow (es' := es ++ [((qa), (qb), 1)]) (hO9.cast hfl (by simp)) t1 t2
      simp (maxSteps := 300000) (disch := omega) only [gs, gs2, gs3, gs4, ↓reduceIte, Nat.reduceEqDiff, Int.reduceToNat, Nat.reduceMul, Nat.reduceAdd, Nat.reduceBEq, isLd, x2, x3, x4, x5, hk, hqu, hre, hbl0]
      refine st_boxg e9 rfl (by simp [graC]) (graC ⟨12, es ++ [((qa), (qb), 1)]⟩ A9 c9) (by simp [graC]) ?_
      simp (maxSteps := 300000) (disch := omega) only [gs, gs2, gs3, gs4, ↓reduceIte, Nat.reduceEqDiff, Int.reduceToNat, Nat.reduceMul, Nat.reduceAdd, Nat.reduceBEq, isLd, x2, x3, x4, x5]
      exact ⟨m - 1, by omega, _, Sub.refl _, k + 1, es ++ [(qa, qb, 1)], A9, c9, rfl, by omega, by omega, by simp; omega, hA.snoc (by omega) hbb.1 hbb.2 (by omega), hD⟩
    · simp (maxSteps := 300000) (disch := omega) only [gs, gs2, gs3, gs4, ↓reduceIte, Nat.reduceEqDiff, Int.reduceToNat, Nat.reduceMul, Nat.reduceAdd, Nat.reduceBEq, isLd, x2, x3, x4, x5, hk, f0, f1]
      refine st_grab (n := 12) (es := es) (A := Ap) (c := cp) hD.r2 fun q0 q1 => ?_
      simp (maxSteps := 300000) (disch := omega) only [gs, gs2, gs3, gs4, ↓reduceIte, Nat.reduceEqDiff, Int.reduceToNat, Nat.reduceMul, Nat.reduceAdd, Nat.reduceBEq, isLd, x2, x3, q0, q1]
      exact last _ _ _ _ _ _ (by omega) hA hD
  · simp (maxSteps := 300000) (disch := omega) only [gs, gs2, gs3, gs4, ↓reduceIte, Nat.reduceEqDiff, Int.reduceToNat, Nat.reduceMul, Nat.reduceAdd, Nat.reduceBEq, isLd, eq_false v3]
    obtain ⟨f0, f1⟩ := hD.rd
    dsimp only at f0 f1
    simp (maxSteps := 300000) (disch := omega) only [gs, gs2, gs3, gs4, ↓reduceIte, Nat.reduceEqDiff, Int.reduceToNat, Nat.reduceMul, Nat.reduceAdd, Nat.reduceBEq, isLd, f0, f1]
    refine st_grab (n := n) (es := es) (A := Ap) (c := cp) hD.r2 fun q0 q1 => ?_
    simp (maxSteps := 300000) (disch := omega) only [gs, gs2, gs3, gs4, ↓reduceIte, Nat.reduceEqDiff, Int.reduceToNat, Nat.reduceMul, Nat.reduceAdd, Nat.reduceBEq, isLd, q0, q1]
    exact last _ _ _ _ _ _ (by omega) hA hD
/-- a list that is drawn, beside the source. -/
structure VD (H0 G : GH) (b : Nat) (A : Option Addr) (L c p : Nat) (xs : List Int) (Ap : Option Addr) (cp : Nat) : Prop where
  src : Src H0 G b A L c p
  own : Own G Ap cp (xs.map I64) 1 xs.length
  off : Off H0 Ap
  da : ∀ a, Ap = some a → a.block ≠ b
theorem VD.le {H0 G : GH} {b : Nat} {A : Option Addr} {L c p p' : Nat} {xs : List Int} {Ap : Option Addr} {cp : Nat} (h : VD H0 G b A L c p xs Ap cp) (hp : p ≤ p') : VD H0 G b A L c p' xs Ap cp := ⟨h.src.le hp, h.own, h.off, h.da⟩
theorem VD.step {H0 G G' : GH} {b : Nat} {A : Option Addr} {L c p p' : Nat} {xs : List Int} {Ap : Option Addr} {cp : Nat} (h : VD H0 G b A L c p xs Ap cp) (s : Src (del G b) G' b A L c p') : VD H0 G' b A L c p' xs Ap cp :=
  ⟨⟨(h.src.sub.in_del h.src.nb).trans s.sub, h.src.nb, h.src.byt, s.ex⟩, (h.own.del h.da).sub s.sub, h.off, h.da⟩
theorem VD.box {H0 G : GH} {b x : Nat} {A : Option Addr} {L c p : Nat} {xs : List Int} {Ap : Option Addr} {cp : Nat} (h : VD H0 G b A L c p xs Ap cp) (hx : G x = none) (e : Ent) : VD H0 (put G x e) b A L c p xs Ap cp := by
  have s := Sub.put hx e
  obtain ⟨q, st, h1, h2⟩ := h.src.ex
  exact ⟨⟨h.src.sub.trans s, h.src.nb, h.src.byt, q, st, h1, s _ _ h2⟩, h.own.sub s, h.off, h.da⟩
theorem VD.set {H0 G : GH} {b : Nat} {A : Option Addr} {L c p : Nat} {xs : List Int} {Ap : Option Addr} {cp : Nat} (h : VD H0 G b A L c p xs Ap cp) (h0 : 0 < xs.length) (w : Int) {K : Value → GH → Prop} (hk : ∀ G', VD H0 G' b A L c p (xs.set 0 w) Ap cp → K undef G') : gSt 1 (.pointer Ap) (.int .i64 w) G K := by
  rcases h.own with ⟨_, _, hz, _⟩ | ⟨x, r, rfl, hx, hl, hc, hle⟩
  · omega
  have d := h.da _ rfl
  dsimp only at d
  refine st_one hx (by rw [List.length_append, List.length_map]; omega) rfl (hk _ ?_)
  obtain ⟨q, st, g1, g2⟩ := h.src.ex
  have nx : H0 x = none := h.off _ rfl
  refine ⟨⟨h.src.sub.skip nx, h.src.nb, h.src.byt, q, st, g1, by rw [put_ne _ _ d.symm]; exact g2⟩, .inr ⟨x, r, rfl, ?_, by simp, by simpa using hc, by simpa using hle⟩, h.off, h.da⟩
  rw [put_same, List.set_append_left _ _ (by rw [List.length_map]; exact h0), List.map_set]; rfl
def rowL (C : Nat) (g : Int → Int) : List Int := (List.range C).map fun j : Nat => g j
theorem rowL_len (C : Nat) (g : Int → Int) : (rowL C g).length = C := by simp [rowL]
theorem rowL_get {C : Nat} (g : Int → Int) {j : Nat} (h : j < C) : (rowL C g).getD j 0 = g j := by simp [rowL, List.getD, h]
theorem rowL_succ (C : Nat) (g : Int → Int) : rowL (C + 1) g = rowL C g ++ [g C] := by simp [rowL, List.range_succ]
theorem rowL_congr {C : Nat} {f g : Int → Int} (h : ∀ j : Nat, j < C → f j = g j) : rowL C f = rowL C g := by
  unfold rowL
  exact List.map_congr_left fun j hj => h j (List.mem_range.1 hj)
def rowsC (A : Nat → Option Addr) (c : Nat → Nat) (R C : Nat) : List Value := (List.range R).map fun i => .slice (A i) C (c i)
theorem rowsC_len (A : Nat → Option Addr) (c : Nat → Nat) (R C : Nat) : (rowsC A c R C).length = R := by simp [rowsC]
theorem rowsC_get {A : Nat → Option Addr} {c : Nat → Nat} {R C i : Nat} (h : i < R) : (rowsC A c R C)[i]? = some (.slice (A i) C (c i)) := by simp [rowsC, h]
theorem rowsC_set {A : Nat → Option Addr} {c : Nat → Nat} {R C i : Nat} (A' : Option Addr) (c' : Nat) : (rowsC A c R C).set i (.slice A' C c') = rowsC (fun k => if k = i then A' else A k) (fun k => if k = i then c' else c k) R C := by
  unfold rowsC
  apply List.ext_getElem
  · simp
  · intro k h1 h2
    simp only [List.length_set, List.length_map, List.length_range] at h1
    by_cases e : i = k
    · subst e; simp
    · have e' : k ≠ i := fun x => e x.symm
      simp [List.getElem_set, e, e']
theorem Sub.del2 {G G' : GH} (s : Sub G G') (b : Nat) : Sub (Gh.del G b) (Gh.del G' b) := fun x e h => by
  unfold Gh.del at h ⊢
  split at h
  · cases h
  · rename_i hne; rw [if_neg hne]; exact s x e h
theorem wo_mono {G G' : GH} (s : Sub G G') (Z : Option Addr) : Sub (wo G Z) (wo G' Z) := fun x e h => by
  unfold wo at h ⊢
  split at h
  · cases h
  · rename_i hne; rw [if_neg hne]; exact s x e h
/-- what is known of rows: the outer block b is one's own; the rows lie elsewhere than at Z. -/
structure Rw (H G : GH) (b : Nat) (A : Nat → Option Addr) (c : Nat → Nat) (R C : Nat) (f : Int → Int → Int) (rest : List Value) (Z : Option Addr) : Prop where
  sub : Sub H G
  nb : H b = none
  blk : G b = some ⟨rowsC A c R C ++ rest, true⟩
  row : ∀ i : Nat, i < R → IntS (del (wo G Z) b) (A i) (c i) (rowL C (f i))
theorem Rw.get {H G : GH} {b : Nat} {A : Nat → Option Addr} {c : Nat → Nat} {R C : Nat} {f : Int → Int → Int} {rest : List Value} {Z : Option Addr} (h : Rw H G b A c R C f rest Z) {i : Nat} (hi : i < R) : rd G (some ⟨b, i, none⟩) = some (.slice (A i) C (c i)) := by
  simp only [rd, h.blk, Option.bind_some]
  rw [List.getElem?_append_left (by rw [rowsC_len]; exact hi), rowsC_get hi]
theorem Rw.ints {H G : GH} {b : Nat} {A : Nat → Option Addr} {c : Nat → Nat} {R C : Nat} {f : Int → Int → Int} {rest : List Value} {Z : Option Addr} (h : Rw H G b A c R C f rest Z) {i : Nat} (hi : i < R) : IntS G (A i) (c i) (rowL C (f i)) := (h.row i hi).sub ((Gh.Sub.del _ _).trans (Gh.Sub.wo _ _))
theorem Rw.cell {H G : GH} {b : Nat} {A : Nat → Option Addr} {c : Nat → Nat} {R C : Nat} {f : Int → Int → Int} {rest : List Value} {Z : Option Addr} (h : Rw H G b A c R C f rest Z) {i j : Nat} (hi : i < R) (hj : j < C) : rd G (pa (A i) j) = some (.int .i64 (f i j)) := by
  have := (h.ints hi).rd j (by rw [rowL_len]; exact hj)
  rwa [rowL_get _ hj] at this
theorem Rw.sn {H G : GH} {b : Nat} {A : Nat → Option Addr} {c : Nat → Nat} {R C : Nat} {f : Int → Int → Int} {rest : List Value} {Z : Option Addr} (h : Rw H G b A c R C f rest Z) {i : Nat} (hi : i < R) (hC : 0 < C) : 0 < sn (A i) := (h.ints hi).sn (by rw [rowL_len]; exact hC)
theorem Rw.up {H G : GH} {b : Nat} {A : Nat → Option Addr} {c : Nat → Nat} {R C : Nat} {f : Int → Int → Int} {rest : List Value} {Z : Option Addr} {G' : GH} (h : Rw H G b A c R C f rest Z) (s : Sub G G') : Rw H G' b A c R C f rest Z :=
  ⟨h.sub.trans s, h.nb, s _ _ h.blk, fun i hi => (h.row i hi).sub ((wo_mono s Z).del2 b)⟩
theorem Rw.low {H G : GH} {b : Nat} {A : Nat → Option Addr} {c : Nat → Nat} {R C : Nat} {f : Int → Int → Int} {rest : List Value} {Z : Option Addr} {H' : GH} (h : Rw H G b A c R C f rest Z) (s : Sub H' H) : Rw H' G b A c R C f rest Z := ⟨s.trans h.sub, s.none h.nb, h.blk, h.row⟩
theorem Rw.cong {H G : GH} {b : Nat} {A : Nat → Option Addr} {c : Nat → Nat} {R C : Nat} {f : Int → Int → Int} {rest : List Value} {Z : Option Addr} {g : Int → Int → Int} (h : Rw H G b A c R C f rest Z) (e : ∀ i j : Nat, i < R → j < C → f i j = g i j) : Rw H G b A c R C g rest Z :=
  ⟨h.sub, h.nb, h.blk, fun i hi => by rw [← rowL_congr fun j hj => e i j hi hj]; exact h.row i hi⟩
theorem Rw.all {H G : GH} {b : Nat} {A : Nat → Option Addr} {c : Nat → Nat} {R C : Nat} {f : Int → Int → Int} {rest : List Value} {Z : Option Addr} (h : Rw H G b A c R C f rest Z) : Rw (Gh.del G b) G b A c R C f rest Z := ⟨Gh.Sub.del _ _, del_none _ _, h.blk, h.row⟩
/-- a new list is apart from the outer block and from another one. -/
theorem New.del {G G' : GH} {A Z : Option Addr} {c b : Nat} {xs : List Int} {e : Ent} (h : New G G' A c (xs.map I64) 1 xs.length) (hb : G b = some e) (hZ : ∀ a, Z = some a → ∃ e, G a.block = some e) : IntS (Gh.del (wo G' Z) b) A c xs := by
  have hi := h.ints
  rcases h with ⟨_, _, h0, _, _⟩ | ⟨x, r, rfl, hx, rfl, _⟩
  · exact ⟨hi.cap, fun i hlt => by omega⟩
  · have hne : x ≠ b := fun e' => by rw [e', hb] at hx; cases hx
    have hnz : ∀ a, Z = some a → a.block ≠ x := fun a ha e' => by
      obtain ⟨e2, h2⟩ := hZ a ha
      rw [e', hx] at h2; cases h2
    refine ⟨hi.cap, fun i hlt => ?_⟩
    have := hi.rd i hlt
    simp only [pa_mk, rd] at this ⊢
    unfold Gh.del
    rw [if_neg hne, wo_ne hnz]; exact this
/-- a row is written. -/
theorem Rw.st {H G : GH} {b : Nat} {A : Nat → Option Addr} {c : Nat → Nat} {R C : Nat} {f : Int → Int → Int} {rest : List Value} {Z : Option Addr} (h : Rw H G b A c R C f rest Z) {i : Nat} (hi : i < R) (hbz : ∀ a, Z = some a → a.block ≠ b) {A' : Option Addr} {c' : Nat} {g : Int → Int} (hg : IntS (Gh.del (wo G Z) b) A' c' (rowL C g)) {K : Value → GH → Prop}
    (hk : ∀ G', Rw H G' b (fun k => if k = i then A' else A k) (fun k => if k = i then c' else c k) R C (setr f i g) rest Z → Gh.del G' b = Gh.del G b → Gh.del (wo G' Z) b = Gh.del (wo G Z) b → K undef G') : gSt 1 (.pointer (some ⟨b, i, none⟩)) (.slice A' C c') G K := by
  refine st_src h.blk rfl (by rw [List.length_append, rowsC_len]; omega) fun G' hK hb => ?_
  have hd : Gh.del G' b = Gh.del G b := by
    funext x
    unfold Gh.del
    by_cases e : x = b
    · rw [if_pos e, if_pos e]
    · rw [if_neg e, if_neg e, hK x e]
  have hd2 : Gh.del (wo G' Z) b = Gh.del (wo G Z) b := by
    funext x
    unfold Gh.del wo
    by_cases e : x = b
    · rw [if_pos e, if_pos e]
    · rw [if_neg e, if_neg e, hK x e]
  refine hk G' ⟨sub_keep hK h.nb h.sub, h.nb, ?_, fun k hk' => ?_⟩ hd hd2
  · rw [hb, List.set_append_left _ _ (by rw [rowsC_len]; exact hi), rowsC_set]
  · rw [hd2]
    by_cases e : k = i
    · subst e
      simp only [if_true]
      have : setr f k g k = g := by unfold setr; rw [if_pos rfl]
      rw [this]; exact hg
    · simp only [if_neg e]
      have : setr f i g k = f k := by unfold setr; rw [if_neg (by omega)]
      rw [this]; exact h.row k hk'
/-- the list at Z grows. -/
theorem Rw.rez {H G : GH} {b : Nat} {A : Nat → Option Addr} {c : Nat → Nat} {R C : Nat} {f : Int → Int → Int} {rest : List Value} {Z : Option Addr} {G' : GH} {Z' : Option Addr} (h : Rw H G b A c R C f rest Z) (hbz : ∀ a, Z = some a → a.block ≠ b) (oH : Off H Z) (s : Sub (wo G Z) G') (o : Off (wo G Z) Z') : Rw H G' b A c R C f rest Z' ∧ Off H Z' ∧ ∀ a, Z' = some a → a.block ≠ b := by
  have hwb : wo G Z b = some ⟨rowsC A c R C ++ rest, true⟩ := by rw [wo_ne hbz]; exact h.blk
  have s0 : Sub H (wo G Z) := fun x e hx => by
    rw [wo_ne fun a ha e' => by have := oH a ha; rw [e', hx] at this; cases this]
    exact h.sub _ _ hx
  have s1 : Sub (wo G Z) (wo G' Z') := fun x e hx => by
    rw [wo_ne fun a ha e' => by have := o a ha; rw [e', hx] at this; cases this]
    exact s _ _ hx
  exact ⟨⟨s0.trans s, h.nb, s _ _ hwb, fun i hi => (h.row i hi).sub (s1.del2 b)⟩, o.mono s0, fun a ha e => by have := o a ha; rw [e, hwb] at this; cases this⟩
theorem red_eq {a p : Int} (hp : 0 < p) : (a.tmod p + p).tmod p = a % p := by
  have h1 := Int.mul_tdiv_add_tmod a p
  have h2 : -p < a.tmod p := by
    have := Int.lt_tmod_of_pos a hp; omega
  rw [Int.tmod_eq_emod_of_nonneg (by omega)]
  have e : a.tmod p + p = a + p * (1 - a.tdiv p) := by rw [Int.mul_sub, Int.mul_one]; omega
  rw [e, Int.add_mul_emod_self_left]
theorem red_bd {a p : Int} (hp : 0 < p) : -p < a.tmod p ∧ a.tmod p < p := ⟨Int.lt_tmod_of_pos a hp, Int.tmod_lt_of_pos a hp⟩
theorem impl_reduce_ok {a p : Int} (hp : 0 < p ∧ p ≤ 2 ^ 31) {G : GH} {K : Value → GH → Prop} (hk : K (.int .i64 (a % p)) G) : GC Try.prog 165 [.int .i64 a, .int .i64 p] G K := by
  refine c_impl_reduce_i (by simp) ?_
  have hb := red_bd (a := a) hp.1
  simp (maxSteps := 300000) (disch := omega) only [gs, gs2, gs3, gs4, ↓reduceIte, Nat.reduceEqDiff, Int.reduceToNat, Nat.reduceMul, Nat.reduceAdd, Nat.reduceBEq, isLd, bin_rem .i64 a p (by omega), fun x : Int => bin_rem .i64 x p (by omega)]
  rw [red_eq hp.1]; exact hk
theorem impl_powerOf_ok {a p : Int} {n : Nat} (ha : 0 ≤ a ∧ a ≤ 2 ^ 31) (hp : 1 < p ∧ p ≤ 2 ^ 31) (hn : n < 2 ^ 40) {G : GH} {K : Value → GH → Prop} (hk : K (.int .i64 (pw a p n)) G) : GC Try.prog 256 [.int .i64 a, .int .i64 n, .int .i64 p] G K := by
  refine c_impl_powerOf_i (by simp) ?_
  simp (maxSteps := 300000) (disch := omega) only [gs, gs2, gs3, gs4, ↓reduceIte, Nat.reduceEqDiff, Int.reduceToNat, Nat.reduceMul, Nat.reduceAdd, Nat.reduceBEq, isLd]
  refine gLoop_intro (fun m T G' => ∃ (k : Nat) (b acc : Int), T 0 = .int .i64 b ∧ T 1 = .int .i64 k ∧ T 2 = .int .i64 p ∧ T 7 = .int .i64 acc ∧ m = k ∧ k < 2 ^ 40 ∧ G = G' ∧ (0 ≤ b ∧ b ≤ 2 ^ 31) ∧ (0 ≤ acc ∧ acc < p) ∧ acc * pw b p k % p = pw a p n % p)
    n ⟨n, a, 1, by simp (maxSteps := 300000) (disch := omega) only [gs, gs2, gs3, gs4, ↓reduceIte, Nat.reduceEqDiff, Int.reduceToNat, Nat.reduceMul, Nat.reduceAdd, Nat.reduceBEq, isLd], by simp (maxSteps := 300000) (disch := omega) only [gs, gs2, gs3, gs4, ↓reduceIte, Nat.reduceEqDiff, Int.reduceToNat, Nat.reduceMul, Nat.reduceAdd, Nat.reduceBEq, isLd], by simp (maxSteps := 300000) (disch := omega) only [gs, gs2, gs3, gs4, ↓reduceIte, Nat.reduceEqDiff, Int.reduceToNat, Nat.reduceMul, Nat.reduceAdd, Nat.reduceBEq, isLd], by simp (maxSteps := 300000) (disch := omega) only [gs, gs2, gs3, gs4, ↓reduceIte, Nat.reduceEqDiff, Int.reduceToNat, Nat.reduceMul, Nat.reduceAdd, Nat.reduceBEq, isLd], rfl, hn, rfl, ha, by omega, by rw [Int.one_mul]⟩ ?_
  rintro k T G' ⟨_, b, acc, e0, e1, e2, e7, rfl, hk2, rfl, hb, hacc, he⟩
  simp (maxSteps := 300000) (disch := omega) only [gs, gs2, gs3, gs4, ↓reduceIte, Nat.reduceEqDiff, Int.reduceToNat, Nat.reduceMul, Nat.reduceAdd, Nat.reduceBEq, isLd, e0, e1, e2, e7]
  have hrem := fun x : Int => bin_rem .i64 x p (by omega)
  have hm1 := mulB (a := acc) (b := b) (A := 2 ^ 31) (B := 2 ^ 31) (by omega) (by omega)
  have hm2 := mulB (a := b) (b := b) (A := 2 ^ 31) (B := 2 ^ 31) (by omega) (by omega)
  have hn1 : 0 ≤ acc * b := Int.mul_nonneg hacc.1 hb.1
  have hn2 : 0 ≤ b * b := Int.mul_nonneg hb.1 hb.1
  have w1 := w64 (acc * b) (by omega) (by omega)
  have w2 := w64 (b * b) (by omega) (by omega)
  have r1 : (acc * b).tmod p = acc * b % p := Int.tmod_eq_emod_of_nonneg hn1
  have r2 : (b * b).tmod p = b * b % p := Int.tmod_eq_emod_of_nonneg hn2
  have q1 := Int.emod_nonneg (acc * b) (show p ≠ 0 by omega)
  have q2 := Int.emod_lt_of_pos (acc * b) (show 0 < p by omega)
  have q3 := Int.emod_nonneg (b * b) (show p ≠ 0 by omega)
  have q4 := Int.emod_lt_of_pos (b * b) (show 0 < p by omega)
  by_cases hk0 : (0 : Int) < k
  · have hh := pw_half acc b p k
    have d2 : ((k : Int)).tdiv 2 = ((k / 2 : Nat) : Int) := by rw [Int.tdiv_eq_ediv_of_nonneg (by omega)]; rfl
    have hq := w64 ((k / 2 : Nat) : Int) (by omega) (by omega)
    have hquo : binV .quo (.int .i64 (k : Int)) (.int .i64 2) = some (.int .i64 ((k / 2 : Nat) : Int)) := by
      rw [bin_quo _ _ _ (by omega), d2, hq]
    have hrem2 : binV .rem (.int .i64 (k : Int)) (.int .i64 2) = some (.int .i64 ((k % 2 : Nat) : Int)) := by
      rw [bin_rem _ _ _ (by omega), Int.tmod_eq_emod_of_nonneg (by omega)]; rfl
    simp (maxSteps := 300000) (disch := omega) only [gs, gs2, gs3, gs4, ↓reduceIte, Nat.reduceEqDiff, Int.reduceToNat, Nat.reduceMul, Nat.reduceAdd, Nat.reduceBEq, isLd, e0, e1, e2, e7, hk0, hrem2]
    by_cases ho : k % 2 = 1
    · rw [if_pos ho] at hh
      simp (maxSteps := 300000) (disch := omega) only [gs, gs2, gs3, gs4, ↓reduceIte, Nat.reduceEqDiff, Int.reduceToNat, Nat.reduceMul, Nat.reduceAdd, Nat.reduceBEq, isLd, e0, e1, e2, e7, show (((k % 2 : Nat) : Int) = 1) = True from eq_true (by omega), w1, w2, hrem, r1, r2, hquo]
      exact ⟨k / 2, by omega, G, Sub.refl _, k / 2, b * b % p, acc * b % p, rfl, rfl, rfl, rfl, by omega, rfl, ⟨by omega, by omega⟩, ⟨by omega, by omega⟩, hh.trans he⟩
    · rw [if_neg ho] at hh
      simp (maxSteps := 300000) (disch := omega) only [gs, gs2, gs3, gs4, ↓reduceIte, Nat.reduceEqDiff, Int.reduceToNat, Nat.reduceMul, Nat.reduceAdd, Nat.reduceBEq, isLd, e0, e1, e2, e7, show (((k % 2 : Nat) : Int) = 1) = False from eq_false (by omega), w1, w2, hrem, r1, r2, hquo]
      exact ⟨k / 2, by omega, G, Sub.refl _, k / 2, b * b % p, acc, rfl, rfl, rfl, rfl, by omega, rfl, ⟨by omega, by omega⟩, ⟨by omega, by omega⟩, hh.trans he⟩
  · simp (maxSteps := 300000) (disch := omega) only [gs, gs2, gs3, gs4, ↓reduceIte, Nat.reduceEqDiff, Int.reduceToNat, Nat.reduceMul, Nat.reduceAdd, Nat.reduceBEq, isLd, e0, e1, e2, e7, hk0]
    obtain rfl : k = 0 := by omega
    have hr := pw_rng (a := a) (p := p) hp.1 n
    have e : acc = pw a p n := by
      rw [show pw b p 0 = 1 from rfl, Int.mul_one, Int.emod_eq_of_lt hacc.1 hacc.2, Int.emod_eq_of_lt hr.1 hr.2] at he
      exact he
    rw [e]; exact hk
theorem impl_inverseOf_ok {a p : Int} (ha : 0 ≤ a ∧ a ≤ 2 ^ 31) (hp : 1 < p ∧ p ≤ 2 ^ 31) {G : GH} {K : Value → GH → Prop} (hk : K (.int .i64 (invF a p)) G) : GC Try.prog 236 [.int .i64 a, .int .i64 p] G K := by
  refine c_impl_inverseOf_i (by simp) ?_
  simp (maxSteps := 300000) (disch := omega) only [gs, gs2, gs3, gs4, ↓reduceIte, Nat.reduceEqDiff, Int.reduceToNat, Nat.reduceMul, Nat.reduceAdd, Nat.reduceBEq, isLd]
  have e : p - 2 = ((p - 2).toNat : Int) := by omega
  rw [e]
  refine impl_powerOf_ok ha hp (by omega) ?_
  simp (maxSteps := 300000) (disch := omega) only [gs, gs2, gs3, gs4, ↓reduceIte, Nat.reduceEqDiff, Int.reduceToNat, Nat.reduceMul, Nat.reduceAdd, Nat.reduceBEq, isLd]
  exact hk
theorem impl_addTimes_ok {G : GH} {A B : Option Addr} {ca cb C : Nat} {f g : Int → Int} {k p : Int} (h : IntS G A ca (rowL C f)) (h' : IntS G B cb (rowL C g)) (hp : 1 < p ∧ p ≤ 2 ^ 30) (hk0 : 0 ≤ k ∧ k ≤ p) (hf : ∀ j : Nat, j < C → 0 ≤ f j ∧ f j < p) (hg : ∀ j : Nat, j < C → 0 ≤ g j ∧ g j < p) (hC : C < 2 ^ 20) {K : Value → GH → Prop}
    (hk : ∀ G' A' c', New G G' A' c' ((rowL C fun j => (f j + k * g j) % p).map I64) 1 C → K (.slice A' C c') G') : GC Try.prog 255 [.slice A C ca, .slice B C cb, .int .i64 k, .int .i64 p] G K := by
  refine c_impl_addTimes_i (by simp) ?_
  simp (maxSteps := 300000) (disch := omega) only [gs, gs2, gs3, gs4, ↓reduceIte, Nat.reduceEqDiff, Int.reduceToNat, Nat.reduceMul, Nat.reduceAdd, Nat.reduceBEq, isLd]
  refine gLoop_intro (fun m T G' => ∃ (j : Nat) (As : Option Addr) (cs : Nat), T 0 = .slice A C ca ∧ T 1 = .slice B C cb ∧ T 2 = .int .i64 k ∧ T 3 = .int .i64 p ∧ T 9 = .slice As j cs ∧ T 12 = .int .i64 C ∧ T 13 = .int .i64 j ∧ m + j = C ∧ j ≤ C ∧ New G G' As cs ((rowL j fun j => (f j + k * g j) % p).map I64) 1 j)
    C ⟨0, none, 0, by simp (maxSteps := 300000) (disch := omega) only [gs, gs2, gs3, gs4, ↓reduceIte, Nat.reduceEqDiff, Int.reduceToNat, Nat.reduceMul, Nat.reduceAdd, Nat.reduceBEq, isLd], by simp (maxSteps := 300000) (disch := omega) only [gs, gs2, gs3, gs4, ↓reduceIte, Nat.reduceEqDiff, Int.reduceToNat, Nat.reduceMul, Nat.reduceAdd, Nat.reduceBEq, isLd], by simp (maxSteps := 300000) (disch := omega) only [gs, gs2, gs3, gs4, ↓reduceIte, Nat.reduceEqDiff, Int.reduceToNat, Nat.reduceMul, Nat.reduceAdd, Nat.reduceBEq, isLd], by simp (maxSteps := 300000) (disch := omega) only [gs, gs2, gs3, gs4, ↓reduceIte, Nat.reduceEqDiff, Int.reduceToNat, Nat.reduceMul, Nat.reduceAdd, Nat.reduceBEq, isLd], by simp (maxSteps := 300000) (disch := omega) only [gs, gs2, gs3, gs4, ↓reduceIte, Nat.reduceEqDiff, Int.reduceToNat, Nat.reduceMul, Nat.reduceAdd, Nat.reduceBEq, isLd], by simp (maxSteps := 300000) (disch := omega) only [gs, gs2, gs3, gs4, ↓reduceIte, Nat.reduceEqDiff, Int.reduceToNat, Nat.reduceMul, Nat.reduceAdd, Nat.reduceBEq, isLd], by simp (maxSteps := 300000) (disch := omega) only [gs, gs2, gs3, gs4, ↓reduceIte, Nat.reduceEqDiff, Int.reduceToNat, Nat.reduceMul, Nat.reduceAdd, Nat.reduceBEq, isLd] <;> rfl, by omega, by omega, New.nil _ _⟩ ?_
  rintro m T G' ⟨j, As, cs, e0, e1, e2, e3, e9, e12, e13, hm, hj, hN⟩
  simp (maxSteps := 300000) (disch := omega) only [gs, gs2, gs3, gs4, ↓reduceIte, Nat.reduceEqDiff, Int.reduceToNat, Nat.reduceMul, Nat.reduceAdd, Nat.reduceBEq, isLd, e0, e1, e2, e3, e9, e12, e13]
  by_cases hjj : (j : Int) < C
  · have r1 := (h.sub hN.sub).rd j (by rw [rowL_len]; omega)
    have r2 := (h'.sub hN.sub).rd j (by rw [rowL_len]; omega)
    have sA := h.sn (by rw [rowL_len]; omega)
    have sB := h'.sn (by rw [rowL_len]; omega)
    rw [rowL_get _ (by omega)] at r1 r2
    have b1 := hf j (by omega)
    have b2 := hg j (by omega)
    have hmm := mulB (a := k) (b := g j) (A := 2 ^ 30) (B := 2 ^ 30) (by omega) (by omega)
    have hnn : 0 ≤ k * g j := Int.mul_nonneg hk0.1 b2.1
    have w1 := w64 (k * g j) (by omega) (by omega)
    have w2 := w64 (f j + k * g j) (by omega) (by omega)
    have hr : (f j + k * g j).tmod p = (f j + k * g j) % p := Int.tmod_eq_emod_of_nonneg (by omega)
    have q1 := Int.emod_nonneg (f j + k * g j) (show p ≠ 0 by omega)
    have hrem := fun x : Int => bin_rem .i64 x p (by omega)
    simp (maxSteps := 300000) (disch := omega) only [gs, gs2, gs3, gs4, ↓reduceIte, Nat.reduceEqDiff, Int.reduceToNat, Nat.reduceMul, Nat.reduceAdd, Nat.reduceBEq, isLd, e0, e1, e2, e3, e9, e12, e13, hjj, r1, r2, w1, w2, hrem, hr, gBs]
    refine ⟨by intro v hv; simp at hv; subst hv; rfl, fun b hb => ?_⟩
    refine ⟨⟨rd_sub (Sub.put hb _) r2, rd_sub (Sub.put hb _) r1⟩, ?_⟩
    refine ap_new hN (Sub.put hb _) (cells_one [.int .i64 ((f j + k * g j) % p)] true) (by rfl) (by intro v hv; simp at hv; subst hv; rfl) rfl (by omega) (by omega) (by omega) fun G'' A' c' hN' => ?_
    simp (maxSteps := 300000) (disch := omega) only [gs, gs2, gs3, gs4, ↓reduceIte, Nat.reduceEqDiff, Int.reduceToNat, Nat.reduceMul, Nat.reduceAdd, Nat.reduceBEq, isLd, e0, e1, e2, e3, e9, e12, e13]
    have r1' := (h.sub hN'.sub).rd j (by rw [rowL_len]; omega)
    have r2' := (h'.sub hN'.sub).rd j (by rw [rowL_len]; omega)
    rw [rowL_get _ (by omega)] at r1' r2'
    exact ⟨⟨r2', r1'⟩, m - 1, by omega, _, Sub.refl _, j + 1, A', c', rfl, rfl, by omega, by omega, hN'.cast (by rw [rowL_succ]; simp [I64]) rfl⟩
  · simp (maxSteps := 300000) (disch := omega) only [gs, gs2, gs3, gs4, ↓reduceIte, Nat.reduceEqDiff, Int.reduceToNat, Nat.reduceMul, Nat.reduceAdd, Nat.reduceBEq, isLd, e0, e1, e2, e3, e9, e12, e13, hjj]
    obtain rfl : j = C := by omega
    exact hk _ _ _ hN
theorem slices_IndexFuncS_ok {H G : GH} {b : Nat} {A : Nat → Option Addr} {c : Nat → Nat} {R C : Nat} {f : Int → Int → Int} {rest : List Value} {Z : Option Addr} {F : Value} {Y : Option Addr} {t d : Nat} {col : Int} (h : Rw H G b A c R C f rest Z) (hY : t < R → Y = some ⟨b, t, none⟩) (ht : t ≤ R) (hR : R < 2 ^ 20)
    (hF : ∀ i, i < R → ∀ K : Value → GH → Prop, K (.bool (decide (f i col ≠ 0))) G → gCl Try.prog F [.slice (A i) C (c i)] G K) {K : Value → GH → Prop}
    (h0 : (∀ j : Nat, t ≤ j → j < R → f j col = 0) → K (.int .i64 (-1)) G) (h1 : ∀ i : Nat, t ≤ i → i < R → f i col ≠ 0 → (∀ j : Nat, t ≤ j → j < i → f j col = 0) → K (.int .i64 ((i - t : Nat) : Int)) G) :
    GC Try.prog 253 [.slice Y (R - t) d, F] G K := by
  refine c_slices_IndexFunc_SS_int64_int64_i (by simp) ?_
  simp (maxSteps := 300000) (disch := omega) only [gs, gs2, gs3, gs4, ↓reduceIte, Nat.reduceEqDiff, Int.reduceToNat, Nat.reduceMul, Nat.reduceAdd, Nat.reduceBEq, isLd]
  refine gLoop_intro (fun m T G' => ∃ k : Nat, T 0 = .slice Y (R - t) d ∧ T 1 = F ∧ T 7 = .int .i64 ((R - t : Nat) : Int) ∧ T 8 = .int .i64 k ∧ m + k = R - t ∧ k ≤ R - t ∧ G = G' ∧ ∀ j : Nat, t ≤ j → j < t + k → f j col = 0)
    (R - t) ⟨0, by simp (maxSteps := 300000) (disch := omega) only [gs, gs2, gs3, gs4, ↓reduceIte, Nat.reduceEqDiff, Int.reduceToNat, Nat.reduceMul, Nat.reduceAdd, Nat.reduceBEq, isLd], by simp (maxSteps := 300000) (disch := omega) only [gs, gs2, gs3, gs4, ↓reduceIte, Nat.reduceEqDiff, Int.reduceToNat, Nat.reduceMul, Nat.reduceAdd, Nat.reduceBEq, isLd], by simp (maxSteps := 300000) (disch := omega) only [gs, gs2, gs3, gs4, ↓reduceIte, Nat.reduceEqDiff, Int.reduceToNat, Nat.reduceMul, Nat.reduceAdd, Nat.reduceBEq, isLd], by simp (maxSteps := 300000) (disch := omega) only [gs, gs2, gs3, gs4, ↓reduceIte, Nat.reduceEqDiff, Int.reduceToNat, Nat.reduceMul, Nat.reduceAdd, Nat.reduceBEq, isLd] <;> rfl, by omega, by omega, rfl, fun j h1 h2 => by omega⟩ ?_
  rintro m T G' ⟨k, e0, e1, e7, e8, hm, hk, rfl, hz⟩
  simp (maxSteps := 300000) (disch := omega) only [gs, gs2, gs3, gs4, ↓reduceIte, Nat.reduceEqDiff, Int.reduceToNat, Nat.reduceMul, Nat.reduceAdd, Nat.reduceBEq, isLd, e0, e1, e7, e8]
  by_cases hkk : (k : Int) < ((R - t : Nat) : Int)
  · have hr := h.get (i := t + k) (by omega)
    rw [hY (by omega)] at e0
    simp (maxSteps := 300000) (disch := omega) only [gs, gs2, gs3, gs4, ↓reduceIte, Nat.reduceEqDiff, Int.reduceToNat, Nat.reduceMul, Nat.reduceAdd, Nat.reduceBEq, isLd, e0, e1, e7, e8, hkk, hr]
    refine hF (t + k) (by omega) _ ?_
    by_cases g : f ((t + k : Nat) : Int) col = 0
    · rw [decide_eq_false (fun x => x g)]
      simp (maxSteps := 300000) (disch := omega) only [gs, gs2, gs3, gs4, ↓reduceIte, Nat.reduceEqDiff, Int.reduceToNat, Nat.reduceMul, Nat.reduceAdd, Nat.reduceBEq, isLd, e0, e1, e7, e8]
      exact ⟨m - 1, by omega, G, Sub.refl _, k + 1, by rw [hY (by omega)], rfl, by omega, by omega, rfl, fun j a1 a2 => by
        by_cases e : j = t + k
        · rw [e]; exact g
        · exact hz j a1 (by omega)⟩
    · rw [decide_eq_true g]
      simp (maxSteps := 300000) (disch := omega) only [gs, gs2, gs3, gs4, ↓reduceIte, Nat.reduceEqDiff, Int.reduceToNat, Nat.reduceMul, Nat.reduceAdd, Nat.reduceBEq, isLd, e0, e1, e7, e8]
      have := h1 (t + k) (by omega) (by omega) g (fun j a1 a2 => hz j a1 a2)
      rwa [show t + k - t = k by omega] at this
  · simp (maxSteps := 300000) (disch := omega) only [gs, gs2, gs3, gs4, ↓reduceIte, Nat.reduceEqDiff, Int.reduceToNat, Nat.reduceMul, Nat.reduceAdd, Nat.reduceBEq, isLd, e0, e1, e7, e8, hkk]
    exact h0 fun j a1 a2 => hz j a1 (by omega)
theorem setr_scl (f : Int → Int → Int) (t k p : Int) : scl f t k p = setr f t (fun j => (f t j * k) % p) := by
  funext i j; unfold scl setr; by_cases h : i = t
  · rw [if_pos h, if_pos h]
  · rw [if_neg h, if_neg h]
theorem sl_top {b R t cp : Nat} (ht : t ≤ R) (hR : R ≤ cp) : slV 1 (.slice (some ⟨b, 0, none⟩) R cp) (some (.int .i64 (t : Int))) none = some (if cp = t then .slice (some ⟨b, 0, none⟩) (R - t) (cp - t) else .slice (some ⟨b, t, none⟩) (R - t) (cp - t)) := by
  simp only [slV, onSl, bndV, onInt, Option.bind_some]
  rw [if_pos ⟨by omega, by omega⟩]
  simp only [Option.bind_some, Int.toNat_natCast]
  rw [if_pos ht]
  split <;> simp [pa_mk]
/-- some temporaries are as they were. -/
def SameE (T' T : Nat → Value) : Prop := ∀ t, t = 0 ∨ t = 1 ∨ t = 2 ∨ t = 8 ∨ t = 9 ∨ t = 10 ∨ t = 11 ∨ t = 16 ∨ t = 17 → T' t = T t
theorem SameE.upd {T' T : Nat → Value} (h : SameE T' T) {n : Nat} (v : Value) (hn : 17 < n ∨ n = 12 ∨ n = 13 ∨ n = 14 ∨ n = 15) : SameE (Gh.upd T' n v) T := fun t ht => by
  rw [upd_app, if_neg (by omega)]; exact h t ht
/-- the first rows are cleared. -/
def clrN (f : Int → Int → Int) (t k p : Int) (i : Nat) : Int → Int → Int := fun a => if a < i then clr f t k p a else f a
theorem clrN_t (f : Int → Int → Int) (t k p : Int) (i : Nat) : clrN f t k p i t = f t := by
  unfold clrN; split
  · funext j; unfold clr; rw [if_pos rfl]
  · rfl
theorem el_l0 {D G : GH} {b b10 cp t k : Nat} {A : Nat → Option Addr} {c : Nat → Nat} {R C : Nat} {h : Int → Int → Int} {rest : List Value} {Z : Option Addr} {p : Int} {T : Nat → Value} {Q : Cont} (hw : Rw D G b A c R C h rest Z) (hbz : ∀ a, Z = some a → a.block ≠ b) (hZ : ∀ a, Z = some a → ∃ e, D a.block = some e) (hR : R < 2 ^ 10) (hC : C < 2 ^ 10) (hr : Rng h p) (hp : 1 < p ∧ p ≤ 2 ^ 30)
    (ht : t < R) (hk : k < C) (k10 : rd D (some ⟨b10, 0, none⟩) = some (.int .i64 (k : Int)))
    (e0 : T 0 = .slice (some ⟨b, 0, none⟩) R cp) (e2 : T 2 = .int .i64 p) (e10 : T 10 = .pointer (some ⟨b10, 0, none⟩)) (e11 : T 11 = .int .i64 t) (e79 : T 79 = .slice (some ⟨b, 0, none⟩) R cp) (e80 : T 80 = .int .i64 R) (e81 : T 81 = .int .i64 0)
    (hQ : ∀ T' G' A' c', SameE T' T → Rw D G' b A' c' R C (clr h t k p) rest Z → Q (.ex 2) T' G') : gLoop (gW Try.prog c_impl_eliminate_l0) Q T G := by
  refine gLoop_intro (fun m T' G' => ∃ (i : Nat) (A' : Nat → Option Addr) (c' : Nat → Nat), T' 79 = .slice (some ⟨b, 0, none⟩) R cp ∧ T' 80 = .int .i64 R ∧ T' 81 = .int .i64 i ∧ m + i = R ∧ i ≤ R ∧ Rw D G' b A' c' R C (clrN h t k p i) rest Z ∧ SameE T' T)
    R ⟨0, A, c, e79, e80, e81, by omega, by omega, hw.cong fun i j hi hj => by unfold clrN; rw [if_neg (by omega)], fun _ _ => rfl⟩ ?_
  clear e79 e80 e81 hw
  rintro m T' G' ⟨i, A', c', e79, e80, e81, hm, hi, hw, hT⟩
  have e0 : T' 0 = .slice (some ⟨b, 0, none⟩) R cp := (hT 0 (by omega)).trans e0
  have e2 : T' 2 = .int .i64 p := (hT 2 (by omega)).trans e2
  have e10 : T' 10 = .pointer (some ⟨b10, 0, none⟩) := (hT 10 (by omega)).trans e10
  have e11 : T' 11 = .int .i64 t := (hT 11 (by omega)).trans e11
  have q10 := rd_sub hw.sub k10
  simp (maxSteps := 300000) (disch := omega) only [gs, gs2, gs3, gs4, ↓reduceIte, Nat.reduceEqDiff, Int.reduceToNat, Nat.reduceMul, Nat.reduceAdd, Nat.reduceBEq, isLd, e0, e2, e10, e11, e79, e80, e81]
  by_cases hii : (i : Int) < R
  rotate_left
  · simp (maxSteps := 300000) (disch := omega) only [gs, gs2, gs3, gs4, ↓reduceIte, Nat.reduceEqDiff, Int.reduceToNat, Nat.reduceMul, Nat.reduceAdd, Nat.reduceBEq, isLd, e0, e2, e10, e11, e79, e80, e81, hii]
    refine hQ _ _ A' c' ?_ (hw.cong fun a j ha hj => by unfold clrN; rw [if_pos (by omega)])
    repeat (first | exact hT | refine SameE.upd ?_ _ (by omega))
  have hgi := hw.get (i := i) (by omega)
  have hgt := hw.get ht
  have hci := hw.cell (i := i) (by omega) hk
  have hri : clrN h t k p i i = h i := by unfold clrN; rw [if_neg (by omega)]
  rw [hri] at hci
  have hsi := hw.sn (i := i) (by omega) (by omega)
  have hst := hw.sn ht (by omega)
  have hbi := hr i k
  simp (maxSteps := 300000) (disch := omega) only [gs, gs2, gs3, gs4, ↓reduceIte, Nat.reduceEqDiff, Int.reduceToNat, Nat.reduceMul, Nat.reduceAdd, Nat.reduceBEq, isLd, e0, e2, e10, e11, e79, e80, e81, hii, hgi]
  by_cases hit : i = t
  · subst hit
    simp (maxSteps := 300000) (disch := omega) only [gs, gs2, gs3, gs4, ↓reduceIte, Nat.reduceEqDiff, Int.reduceToNat, Nat.reduceMul, Nat.reduceAdd, Nat.reduceBEq, isLd, e0, e2, e10, e11, e79, e80, e81, hgi]
    refine ⟨m - 1, by omega, G', Sub.refl _, i + 1, A', c', rfl, by omega, by omega, hw.cong fun a j ha hj => ?_, ?_⟩
    · unfold clrN
      by_cases e : a = i
      · subst e
        rw [if_neg (by omega), if_pos (by omega)]; unfold clr; rw [if_pos rfl]
      · by_cases e2 : a < i
        · rw [if_pos (by omega), if_pos (by omega)]
        · rw [if_neg (by omega), if_neg (by omega)]
    · repeat (first | exact hT | refine SameE.upd ?_ _ (by omega))
  simp (maxSteps := 300000) (disch := omega) only [gs, gs2, gs3, gs4, ↓reduceIte, Nat.reduceEqDiff, Int.reduceToNat, Nat.reduceMul, Nat.reduceAdd, Nat.reduceBEq, isLd, e0, e2, e10, e11, e79, e80, e81, hgi, show ((i : Int) = t) = False from eq_false (by omega), q10, hci]
  by_cases hz : h i k = 0
  · simp (maxSteps := 300000) (disch := omega) only [gs, gs2, gs3, gs4, ↓reduceIte, Nat.reduceEqDiff, Int.reduceToNat, Nat.reduceMul, Nat.reduceAdd, Nat.reduceBEq, isLd, e0, e2, e10, e11, e79, e80, e81, eq_true hz]
    refine ⟨m - 1, by omega, G', Sub.refl _, i + 1, A', c', rfl, by omega, by omega, hw.cong fun a j ha hj => ?_, ?_⟩
    · unfold clrN
      by_cases e : a = i
      · subst e
        rw [if_neg (by omega), if_pos (by omega)]; unfold clr
        rw [if_neg (by omega), hz, Int.sub_zero, Int.add_mul_emod_self_left, Int.emod_eq_of_lt (hr a j).1 (hr a j).2]
      · by_cases e2 : a < i
        · rw [if_pos (by omega), if_pos (by omega)]
        · rw [if_neg (by omega), if_neg (by omega)]
    · repeat (first | exact hT | refine SameE.upd ?_ _ (by omega))
  simp (maxSteps := 300000) (disch := omega) only [gs, gs2, gs3, gs4, ↓reduceIte, Nat.reduceEqDiff, Int.reduceToNat, Nat.reduceMul, Nat.reduceAdd, Nat.reduceBEq, isLd, e0, e2, e10, e11, e79, e80, e81, eq_false hz, q10, hci, hgi, hgt]
  have hIi := hw.ints (i := i) (by omega)
  have hIt := hw.ints ht
  rw [hri] at hIi
  rw [clrN_t] at hIt
  refine impl_addTimes_ok (f := h i) (g := h t) hIi hIt hp ⟨by omega, by omega⟩ (fun j _ => hr i j) (fun j _ => hr t j) (by omega) fun G3 A3 c3 hN => ?_
  have hw3 := hw.up hN.sub
  have hrow := New.del (xs := rowL C fun j => (h i j + (p - h i k) * h t j) % p) (hN.cast rfl (rowL_len _ _).symm) hw.blk (Z := Z) (fun a ha => by obtain ⟨e, he⟩ := hZ a ha; exact ⟨e, hw.sub _ _ he⟩)
  simp (maxSteps := 300000) (disch := omega) only [gs, gs2, gs3, gs4, ↓reduceIte, Nat.reduceEqDiff, Int.reduceToNat, Nat.reduceMul, Nat.reduceAdd, Nat.reduceBEq, isLd, e0, e2, e10, e11, e79, e80, e81]
  refine ⟨⟨rd_sub hN.sub hci, rd_sub hN.sub q10⟩, ?_⟩
  refine hw3.st (by omega) hbz hrow fun G4 hw4 _ _ => ?_
  simp (maxSteps := 300000) (disch := omega) only [gs, gs2, gs3, gs4, ↓reduceIte, Nat.reduceEqDiff, Int.reduceToNat, Nat.reduceMul, Nat.reduceAdd, Nat.reduceBEq, isLd, e0, e2, e10, e11, e79, e80, e81]
  refine ⟨m - 1, by omega, G4, Sub.refl _, i + 1, _, _, rfl, by omega, by omega, hw4.cong fun a j ha hj => ?_, ?_⟩
  · unfold setr clrN
    by_cases e : a = i
    · subst e
      rw [if_pos rfl, if_pos (by omega)]; unfold clr
      rw [if_neg (by omega)]
    · rw [if_neg (by omega)]
      by_cases e2 : a < i
      · rw [if_pos (by omega), if_pos (by omega)]
      · rw [if_neg (by omega), if_neg (by omega)]
  · repeat (first | exact hT | refine SameE.upd ?_ _ (by omega))
abbrev elTail : GCode := .seq (.dreg c_impl_eliminate_13) (.seq (.reg c_impl_eliminate_14) (.seq (.dtree c_impl_eliminate_15) (.seq (.seq (.reg c_impl_eliminate_16) (.blk 2 (.loop c_impl_eliminate_l0))) (.reg c_impl_eliminate_23))))
theorem el_tail {H G : GH} {b b10 cp cq t k : Nat} {A : Nat → Option Addr} {c : Nat → Nat} {Ap : Option Addr} {R C : Nat} {g : Int → Int → Int} {rest : List Value} {p det : Int} {piv : List Int} {T : Nat → Value} {Q : Cont} (h : Rw H G b A c R C g rest Ap) (hR : R < 2 ^ 10) (hC : C < 2 ^ 10) (hr : Rng g p) (hp : 1 < p ∧ p ≤ 2 ^ 30)
    (ht : t < R) (hk : k < C) (hd : 0 ≤ det ∧ det < p) (hl : g t k ≠ 0) (k10 : rd (del G b) (some ⟨b10, 0, none⟩) = some (.int .i64 (k : Int))) (hO : Own G Ap cq (piv.map I64) 1 piv.length) (hOf : Off H Ap) (hda : ∀ a, Ap = some a → a.block ≠ b) (hpl : piv.length < 2 ^ 10)
    (e0 : T 0 = .slice (some ⟨b, 0, none⟩) R cp) (e1 : T 1 = .int .i64 C) (e2 : T 2 = .int .i64 p) (e8 : T 8 = .slice Ap piv.length cq) (e9 : T 9 = .int .i64 det) (e10 : T 10 = .pointer (some ⟨b10, 0, none⟩)) (e11 : T 11 = .int .i64 t) (e16 : T 16 = .int .i64 C) (e17 : T 17 = .int .i64 k)
    (hQ : ∀ T' G' A' c' Ap' cq', T' 0 = .slice (some ⟨b, 0, none⟩) R cp → T' 1 = .int .i64 C → T' 2 = .int .i64 p → T' 8 = .slice Ap' (piv.length + 1) cq' → T' 9 = .int .i64 (det * g t k % p) → T' 16 = .int .i64 C → T' 17 = .int .i64 k →
      Rw H G' b A' c' R C (clr (scl g t (invF (g t k) p) p) t k p) rest Ap' → Own G' Ap' cq' ((piv ++ [(k : Int)]).map I64) 1 (piv.length + 1) → Off H Ap' → (∀ a, Ap' = some a → a.block ≠ b) → Q .nrm T' G') : gW Try.prog elTail Q T G := by
  have q10 := rd_sub (Sub.del _ _) k10
  have hgt := h.get ht
  have hcl := h.cell ht hk
  have hsn := h.sn ht (by omega)
  have hb := hr t k
  have hmm := mulB (a := det) (b := g t k) (A := 2 ^ 30) (B := 2 ^ 30) (by omega) (by omega)
  have hnn : 0 ≤ det * g t k := Int.mul_nonneg hd.1 hb.1
  have w1 := w64 (det * g t k) (by omega) (by omega)
  have hrm : (det * g t k).tmod p = det * g t k % p := Int.tmod_eq_emod_of_nonneg hnn
  have hrem := fun x : Int => bin_rem .i64 x p (by omega)
  simp (maxSteps := 300000) (disch := omega) only [gs, gs2, gs3, gs4, ↓reduceIte, Nat.reduceEqDiff, Int.reduceToNat, Nat.reduceMul, Nat.reduceAdd, Nat.reduceBEq, isLd, e0, e1, e2, e8, e9, e10, e11, e16, e17, hgt, hcl, q10, w1, hrem, hrm]
  have hz : zc [.int .i64 0] C = (rowL C fun _ => 0).map I64 := by rw [zc_one, rep_range]; unfold rowL; rw [List.map_map]; rfl
  have hgr := h.ints ht
  have hinvb := pw_rng (a := g t k) (p := p) hp.1 (p - 2).toNat
  have key : ∀ (G1 : GH) (bz : Nat), Sub G G1 → IntS G1 (some ⟨bz, 0, none⟩) C (rowL C fun _ => 0) → ∀ {K : Value → GH → Prop}, (∀ G' A' c', New G1 G' A' c' ((rowL C fun j => (g t j * invF (g t k) p) % p).map I64) 1 C → K (.slice A' C c') G') → GC Try.prog 255 [.slice (some ⟨bz, 0, none⟩) C C, .slice (A t) C (c t), .int .i64 (invF (g t k) p), .int .i64 p] G1 K := by
    intro G1 bz s1 hz1 K hK
    refine impl_addTimes_ok (f := fun _ => 0) (g := g t) hz1 (hgr.sub s1) hp ⟨by unfold invF; omega, by unfold invF; omega⟩ (fun j _ => by omega) (fun j _ => hr t j) (by omega) fun G' A' c' hN => hK G' A' c' (hN.cast ?_ rfl)
    congr 1
    exact rowL_congr fun j _ => by rw [Int.zero_add, Int.mul_comm]
  have fin : ∀ (G1 G2 : GH) (A3 : Option Addr) (c3 : Nat) (T' : Nat → Value) (Q' : Cont), Sub G G1 → New G1 G2 A3 c3 ((rowL C fun j => (g t j * invF (g t k) p) % p).map I64) 1 C → SameE T' T → True := fun _ _ _ _ _ _ _ _ _ => trivial
  clear fin
  refine ⟨?_, ?_⟩
  · refine ⟨C, C, rfl, rfl, Nat.le_refl _, by omega, by omega, fun bz hbz => ?_⟩
    rw [hz]
    have sz := Sub.put hbz ⟨(rowL C fun _ => 0).map I64, true⟩
    have hI0 : IntS (put G bz ⟨(rowL C fun _ => 0).map I64, true⟩) (some ⟨bz, 0, none⟩) C (rowL C fun _ => 0) := by
      have := blk_ints (xs := rowL C fun _ => 0) (put_same G bz ⟨(rowL C fun _ => 0).map I64, true⟩)
      rwa [rowL_len] at this
    have hw1 := h.up sz
    have hO1 := hO.sub sz
    have kd1 := rd_sub (sz.del2 b) k10
    have hgt1 := hw1.get ht
    revert sz hI0 hw1 hO1 kd1 hgt1
    generalize put G bz ⟨(rowL C fun _ => 0).map I64, true⟩ = G1
    intro sz hI0 hw1 hO1 kd1 hgt1
    simp (maxSteps := 300000) (disch := omega) only [gs, gs2, gs3, gs4, ↓reduceIte, Nat.reduceEqDiff, Int.reduceToNat, Nat.reduceMul, Nat.reduceAdd, Nat.reduceBEq, isLd, hgt1]
    refine impl_inverseOf_ok ⟨by omega, by omega⟩ ⟨by omega, by omega⟩ ?_
    simp (maxSteps := 300000) (disch := omega) only [gs, gs2, gs3, gs4, ↓reduceIte, Nat.reduceEqDiff, Int.reduceToNat, Nat.reduceMul, Nat.reduceAdd, Nat.reduceBEq, isLd, hgt1]
    refine key G1 bz sz hI0 fun G2 A3 c3 hN => ?_
    simp (maxSteps := 300000) (disch := omega) only [gs, gs2, gs3, gs4, ↓reduceIte, Nat.reduceEqDiff, Int.reduceToNat, Nat.reduceMul, Nat.reduceAdd, Nat.reduceBEq, isLd, e0]
    have hO2 := hO1.sub hN.sub
    have hZ1 : ∀ a, Ap = some a → ∃ e, G1 a.block = some e := fun a ha => by
      rcases hO1 with ⟨h0, _⟩ | ⟨x, r, h0, h1, _⟩
      · rw [h0] at ha; cases ha
      · rw [h0] at ha; cases ha; exact ⟨_, h1⟩
    refine (hw1.up hN.sub).st ht hda (New.del (xs := rowL C fun j => (g t j * invF (g t k) p) % p) (hN.cast rfl (rowL_len _ _).symm) hw1.blk hZ1) fun G3 hw3 hdel _ => ?_
    rw [← setr_scl] at hw3
    have kd3 : rd (del G3 b) (some ⟨b10, 0, none⟩) = some (.int .i64 (k : Int)) := by rw [hdel]; exact rd_sub (hN.sub.del2 b) kd1
    have hO3 : Own G3 Ap cq (piv.map I64) 1 piv.length := (hO2.del hda).sub (by rw [← hdel]; exact Gh.Sub.del _ _)
    have hZ3 : ∀ a, Ap = some a → ∃ e, (del G3 b) a.block = some e := fun a ha => by
      rcases hO3 with ⟨h0, _⟩ | ⟨x, r, h0, h1, _⟩
      · rw [h0] at ha; cases ha
      · have := hda a ha
        rw [h0] at ha; cases ha; exact ⟨_, by rw [del_ne _ this]; exact h1⟩
    simp (maxSteps := 300000) (disch := omega) only [gs, gs2, gs3, gs4, ↓reduceIte, Nat.reduceEqDiff, Int.reduceToNat, Nat.reduceMul, Nat.reduceAdd, Nat.reduceBEq, isLd, e0]
    refine el_l0 (D := del G3 b) (cp := cp) (h := scl g t (invF (g t k) p) p) (t := t) (k := k) hw3.all hda hZ3 hR hC (hr.scl (by omega) _ _) hp ht hk kd3 (by simp (maxSteps := 300000) (disch := omega) only [gs, gs2, gs3, gs4, ↓reduceIte, Nat.reduceEqDiff, Int.reduceToNat, Nat.reduceMul, Nat.reduceAdd, Nat.reduceBEq, isLd, e0]) (by simp (maxSteps := 300000) (disch := omega) only [gs, gs2, gs3, gs4, ↓reduceIte, Nat.reduceEqDiff, Int.reduceToNat, Nat.reduceMul, Nat.reduceAdd, Nat.reduceBEq, isLd, e2]) (by simp (maxSteps := 300000) (disch := omega) only [gs, gs2, gs3, gs4, ↓reduceIte, Nat.reduceEqDiff, Int.reduceToNat, Nat.reduceMul, Nat.reduceAdd, Nat.reduceBEq, isLd, e10]) (by simp (maxSteps := 300000) (disch := omega) only [gs, gs2, gs3, gs4, ↓reduceIte, Nat.reduceEqDiff, Int.reduceToNat, Nat.reduceMul, Nat.reduceAdd, Nat.reduceBEq, isLd, e11]) (by simp (maxSteps := 300000) (disch := omega) only [gs, gs2, gs3, gs4, ↓reduceIte, Nat.reduceEqDiff, Int.reduceToNat, Nat.reduceMul, Nat.reduceAdd, Nat.reduceBEq, isLd, e0]) (by simp (maxSteps := 300000) (disch := omega) only [gs, gs2, gs3, gs4, ↓reduceIte, Nat.reduceEqDiff, Int.reduceToNat, Nat.reduceMul, Nat.reduceAdd, Nat.reduceBEq, isLd]) (by simp (maxSteps := 300000) (disch := omega) only [gs, gs2, gs3, gs4, ↓reduceIte, Nat.reduceEqDiff, Int.reduceToNat, Nat.reduceMul, Nat.reduceAdd, Nat.reduceBEq, isLd] <;> rfl) fun T' G4 A' c' hT hw4 => ?_
    have hO4 : Own G4 Ap cq (piv.map I64) 1 piv.length := (hO3.del hda).sub hw4.sub
    have q4 := rd_sub hw4.sub kd3
    have f0 : T' 0 = .slice (some ⟨b, 0, none⟩) R cp := (hT 0 (by omega)).trans (by simp (maxSteps := 300000) (disch := omega) only [gs, gs2, gs3, gs4, ↓reduceIte, Nat.reduceEqDiff, Int.reduceToNat, Nat.reduceMul, Nat.reduceAdd, Nat.reduceBEq, isLd, e0])
    have f1 : T' 1 = .int .i64 C := (hT 1 (by omega)).trans (by simp (maxSteps := 300000) (disch := omega) only [gs, gs2, gs3, gs4, ↓reduceIte, Nat.reduceEqDiff, Int.reduceToNat, Nat.reduceMul, Nat.reduceAdd, Nat.reduceBEq, isLd, e1])
    have f2 : T' 2 = .int .i64 p := (hT 2 (by omega)).trans (by simp (maxSteps := 300000) (disch := omega) only [gs, gs2, gs3, gs4, ↓reduceIte, Nat.reduceEqDiff, Int.reduceToNat, Nat.reduceMul, Nat.reduceAdd, Nat.reduceBEq, isLd, e2])
    have f8 : T' 8 = .slice Ap piv.length cq := (hT 8 (by omega)).trans (by simp (maxSteps := 300000) (disch := omega) only [gs, gs2, gs3, gs4, ↓reduceIte, Nat.reduceEqDiff, Int.reduceToNat, Nat.reduceMul, Nat.reduceAdd, Nat.reduceBEq, isLd, e8])
    have f9 : T' 9 = .int .i64 (det * g t k % p) := (hT 9 (by omega)).trans (by simp (maxSteps := 300000) (disch := omega) only [gs, gs2, gs3, gs4, ↓reduceIte, Nat.reduceEqDiff, Int.reduceToNat, Nat.reduceMul, Nat.reduceAdd, Nat.reduceBEq, isLd])
    have f10 : T' 10 = .pointer (some ⟨b10, 0, none⟩) := (hT 10 (by omega)).trans (by simp (maxSteps := 300000) (disch := omega) only [gs, gs2, gs3, gs4, ↓reduceIte, Nat.reduceEqDiff, Int.reduceToNat, Nat.reduceMul, Nat.reduceAdd, Nat.reduceBEq, isLd, e10])
    have f16 : T' 16 = .int .i64 C := (hT 16 (by omega)).trans (by simp (maxSteps := 300000) (disch := omega) only [gs, gs2, gs3, gs4, ↓reduceIte, Nat.reduceEqDiff, Int.reduceToNat, Nat.reduceMul, Nat.reduceAdd, Nat.reduceBEq, isLd, e16])
    have f17 : T' 17 = .int .i64 k := (hT 17 (by omega)).trans (by simp (maxSteps := 300000) (disch := omega) only [gs, gs2, gs3, gs4, ↓reduceIte, Nat.reduceEqDiff, Int.reduceToNat, Nat.reduceMul, Nat.reduceAdd, Nat.reduceBEq, isLd, e17])
    clear hT
    have hwH : Rw H G4 b A' c' R C (clr (scl g t (invF (g t k) p) p) t k p) rest Ap := ⟨(hw3.sub.in_del hw3.nb).trans hw4.sub, hw3.nb, hw4.blk, hw4.row⟩
    simp (maxSteps := 300000) (disch := omega) only [gs, gs2, gs3, gs4, ↓reduceIte, Nat.reduceEqDiff, Int.reduceToNat, Nat.reduceMul, Nat.reduceAdd, Nat.reduceBEq, isLd, f0, f1, f2, f8, f9, f10, f16, f17, q4, gBs]
    refine ⟨by intro v hv; simp at hv; subst hv; rfl, fun b15 hb15 => ?_⟩
    refine ap_own (hO4.sub (Sub.put hb15 _)) (cells_one [.int .i64 (k : Int)] true) rfl (by intro v hv; simp at hv; subst hv; rfl) rfl (by omega) (by omega) (by omega) fun G5 A5 c5 hO5 keep => ?_
    obtain ⟨s5, o5⟩ := keep _ (Sub.wo _ _) (Off.wo _ _)
    obtain ⟨hw5, oH5, d5⟩ := (hwH.up (Sub.put hb15 _)).rez hda hOf s5 o5
    simp (maxSteps := 300000) (disch := omega) only [gs, gs2, gs3, gs4, ↓reduceIte, Nat.reduceEqDiff, Int.reduceToNat, Nat.reduceMul, Nat.reduceAdd, Nat.reduceBEq, isLd, f0, f1, f2, f8, f9, f10, f16, f17]
    exact hQ _ _ A' c' A5 c5 (by simp (maxSteps := 300000) (disch := omega) only [gs, gs2, gs3, gs4, ↓reduceIte, Nat.reduceEqDiff, Int.reduceToNat, Nat.reduceMul, Nat.reduceAdd, Nat.reduceBEq, isLd, f0]) (by simp (maxSteps := 300000) (disch := omega) only [gs, gs2, gs3, gs4, ↓reduceIte, Nat.reduceEqDiff, Int.reduceToNat, Nat.reduceMul, Nat.reduceAdd, Nat.reduceBEq, isLd, f1]) (by simp (maxSteps := 300000) (disch := omega) only [gs, gs2, gs3, gs4, ↓reduceIte, Nat.reduceEqDiff, Int.reduceToNat, Nat.reduceMul, Nat.reduceAdd, Nat.reduceBEq, isLd, f2]) (by simp (maxSteps := 300000) (disch := omega) only [gs, gs2, gs3, gs4, ↓reduceIte, Nat.reduceEqDiff, Int.reduceToNat, Nat.reduceMul, Nat.reduceAdd, Nat.reduceBEq, isLd]) (by simp (maxSteps := 300000) (disch := omega) only [gs, gs2, gs3, gs4, ↓reduceIte, Nat.reduceEqDiff, Int.reduceToNat, Nat.reduceMul, Nat.reduceAdd, Nat.reduceBEq, isLd, f9]) (by simp (maxSteps := 300000) (disch := omega) only [gs, gs2, gs3, gs4, ↓reduceIte, Nat.reduceEqDiff, Int.reduceToNat, Nat.reduceMul, Nat.reduceAdd, Nat.reduceBEq, isLd, f16]) (by simp (maxSteps := 300000) (disch := omega) only [gs, gs2, gs3, gs4, ↓reduceIte, Nat.reduceEqDiff, Int.reduceToNat, Nat.reduceMul, Nat.reduceAdd, Nat.reduceBEq, isLd, f17]) hw5 (hO5.cast (by simp [I64]) rfl) oH5 d5
  · refine impl_inverseOf_ok ⟨by omega, by omega⟩ ⟨by omega, by omega⟩ ?_
    simp (maxSteps := 300000) (disch := omega) only [gs, gs2, gs3, gs4, ↓reduceIte, Nat.reduceEqDiff, Int.reduceToNat, Nat.reduceMul, Nat.reduceAdd, Nat.reduceBEq, isLd, hgt]
    refine ⟨C, C, rfl, rfl, Nat.le_refl _, by omega, by omega, fun bz hbz => ?_⟩
    rw [hz]
    have sz := Sub.put hbz ⟨(rowL C fun _ => 0).map I64, true⟩
    have hI0 : IntS (put G bz ⟨(rowL C fun _ => 0).map I64, true⟩) (some ⟨bz, 0, none⟩) C (rowL C fun _ => 0) := by
      have := blk_ints (xs := rowL C fun _ => 0) (put_same G bz ⟨(rowL C fun _ => 0).map I64, true⟩)
      rwa [rowL_len] at this
    have hw1 := h.up sz
    have hO1 := hO.sub sz
    have kd1 := rd_sub (sz.del2 b) k10
    have hgt1 := hw1.get ht
    revert sz hI0 hw1 hO1 kd1 hgt1
    generalize put G bz ⟨(rowL C fun _ => 0).map I64, true⟩ = G1
    intro sz hI0 hw1 hO1 kd1 hgt1
    simp (maxSteps := 300000) (disch := omega) only [gs, gs2, gs3, gs4, ↓reduceIte, Nat.reduceEqDiff, Int.reduceToNat, Nat.reduceMul, Nat.reduceAdd, Nat.reduceBEq, isLd, hgt1]
    refine key G1 bz sz hI0 fun G2 A3 c3 hN => ?_
    simp (maxSteps := 300000) (disch := omega) only [gs, gs2, gs3, gs4, ↓reduceIte, Nat.reduceEqDiff, Int.reduceToNat, Nat.reduceMul, Nat.reduceAdd, Nat.reduceBEq, isLd, e0]
    have hO2 := hO1.sub hN.sub
    have hZ1 : ∀ a, Ap = some a → ∃ e, G1 a.block = some e := fun a ha => by
      rcases hO1 with ⟨h0, _⟩ | ⟨x, r, h0, h1, _⟩
      · rw [h0] at ha; cases ha
      · rw [h0] at ha; cases ha; exact ⟨_, h1⟩
    refine (hw1.up hN.sub).st ht hda (New.del (xs := rowL C fun j => (g t j * invF (g t k) p) % p) (hN.cast rfl (rowL_len _ _).symm) hw1.blk hZ1) fun G3 hw3 hdel _ => ?_
    rw [← setr_scl] at hw3
    have kd3 : rd (del G3 b) (some ⟨b10, 0, none⟩) = some (.int .i64 (k : Int)) := by rw [hdel]; exact rd_sub (hN.sub.del2 b) kd1
    have hO3 : Own G3 Ap cq (piv.map I64) 1 piv.length := (hO2.del hda).sub (by rw [← hdel]; exact Gh.Sub.del _ _)
    have hZ3 : ∀ a, Ap = some a → ∃ e, (del G3 b) a.block = some e := fun a ha => by
      rcases hO3 with ⟨h0, _⟩ | ⟨x, r, h0, h1, _⟩
      · rw [h0] at ha; cases ha
      · have := hda a ha
        rw [h0] at ha; cases ha; exact ⟨_, by rw [del_ne _ this]; exact h1⟩
    simp (maxSteps := 300000) (disch := omega) only [gs, gs2, gs3, gs4, ↓reduceIte, Nat.reduceEqDiff, Int.reduceToNat, Nat.reduceMul, Nat.reduceAdd, Nat.reduceBEq, isLd, e0]
    refine el_l0 (D := del G3 b) (cp := cp) (h := scl g t (invF (g t k) p) p) (t := t) (k := k) hw3.all hda hZ3 hR hC (hr.scl (by omega) _ _) hp ht hk kd3 (by simp (maxSteps := 300000) (disch := omega) only [gs, gs2, gs3, gs4, ↓reduceIte, Nat.reduceEqDiff, Int.reduceToNat, Nat.reduceMul, Nat.reduceAdd, Nat.reduceBEq, isLd, e0]) (by simp (maxSteps := 300000) (disch := omega) only [gs, gs2, gs3, gs4, ↓reduceIte, Nat.reduceEqDiff, Int.reduceToNat, Nat.reduceMul, Nat.reduceAdd, Nat.reduceBEq, isLd, e2]) (by simp (maxSteps := 300000) (disch := omega) only [gs, gs2, gs3, gs4, ↓reduceIte, Nat.reduceEqDiff, Int.reduceToNat, Nat.reduceMul, Nat.reduceAdd, Nat.reduceBEq, isLd, e10]) (by simp (maxSteps := 300000) (disch := omega) only [gs, gs2, gs3, gs4, ↓reduceIte, Nat.reduceEqDiff, Int.reduceToNat, Nat.reduceMul, Nat.reduceAdd, Nat.reduceBEq, isLd, e11]) (by simp (maxSteps := 300000) (disch := omega) only [gs, gs2, gs3, gs4, ↓reduceIte, Nat.reduceEqDiff, Int.reduceToNat, Nat.reduceMul, Nat.reduceAdd, Nat.reduceBEq, isLd, e0]) (by simp (maxSteps := 300000) (disch := omega) only [gs, gs2, gs3, gs4, ↓reduceIte, Nat.reduceEqDiff, Int.reduceToNat, Nat.reduceMul, Nat.reduceAdd, Nat.reduceBEq, isLd]) (by simp (maxSteps := 300000) (disch := omega) only [gs, gs2, gs3, gs4, ↓reduceIte, Nat.reduceEqDiff, Int.reduceToNat, Nat.reduceMul, Nat.reduceAdd, Nat.reduceBEq, isLd] <;> rfl) fun T' G4 A' c' hT hw4 => ?_
    have hO4 : Own G4 Ap cq (piv.map I64) 1 piv.length := (hO3.del hda).sub hw4.sub
    have q4 := rd_sub hw4.sub kd3
    have f0 : T' 0 = .slice (some ⟨b, 0, none⟩) R cp := (hT 0 (by omega)).trans (by simp (maxSteps := 300000) (disch := omega) only [gs, gs2, gs3, gs4, ↓reduceIte, Nat.reduceEqDiff, Int.reduceToNat, Nat.reduceMul, Nat.reduceAdd, Nat.reduceBEq, isLd, e0])
    have f1 : T' 1 = .int .i64 C := (hT 1 (by omega)).trans (by simp (maxSteps := 300000) (disch := omega) only [gs, gs2, gs3, gs4, ↓reduceIte, Nat.reduceEqDiff, Int.reduceToNat, Nat.reduceMul, Nat.reduceAdd, Nat.reduceBEq, isLd, e1])
    have f2 : T' 2 = .int .i64 p := (hT 2 (by omega)).trans (by simp (maxSteps := 300000) (disch := omega) only [gs, gs2, gs3, gs4, ↓reduceIte, Nat.reduceEqDiff, Int.reduceToNat, Nat.reduceMul, Nat.reduceAdd, Nat.reduceBEq, isLd, e2])
    have f8 : T' 8 = .slice Ap piv.length cq := (hT 8 (by omega)).trans (by simp (maxSteps := 300000) (disch := omega) only [gs, gs2, gs3, gs4, ↓reduceIte, Nat.reduceEqDiff, Int.reduceToNat, Nat.reduceMul, Nat.reduceAdd, Nat.reduceBEq, isLd, e8])
    have f9 : T' 9 = .int .i64 (det * g t k % p) := (hT 9 (by omega)).trans (by simp (maxSteps := 300000) (disch := omega) only [gs, gs2, gs3, gs4, ↓reduceIte, Nat.reduceEqDiff, Int.reduceToNat, Nat.reduceMul, Nat.reduceAdd, Nat.reduceBEq, isLd])
    have f10 : T' 10 = .pointer (some ⟨b10, 0, none⟩) := (hT 10 (by omega)).trans (by simp (maxSteps := 300000) (disch := omega) only [gs, gs2, gs3, gs4, ↓reduceIte, Nat.reduceEqDiff, Int.reduceToNat, Nat.reduceMul, Nat.reduceAdd, Nat.reduceBEq, isLd, e10])
    have f16 : T' 16 = .int .i64 C := (hT 16 (by omega)).trans (by simp (maxSteps := 300000) (disch := omega) only [gs, gs2, gs3, gs4, ↓reduceIte, Nat.reduceEqDiff, Int.reduceToNat, Nat.reduceMul, Nat.reduceAdd, Nat.reduceBEq, isLd, e16])
    have f17 : T' 17 = .int .i64 k := (hT 17 (by omega)).trans (by simp (maxSteps := 300000) (disch := omega) only [gs, gs2, gs3, gs4, ↓reduceIte, Nat.reduceEqDiff, Int.reduceToNat, Nat.reduceMul, Nat.reduceAdd, Nat.reduceBEq, isLd, e17])
    clear hT
    have hwH : Rw H G4 b A' c' R C (clr (scl g t (invF (g t k) p) p) t k p) rest Ap := ⟨(hw3.sub.in_del hw3.nb).trans hw4.sub, hw3.nb, hw4.blk, hw4.row⟩
    simp (maxSteps := 300000) (disch := omega) only [gs, gs2, gs3, gs4, ↓reduceIte, Nat.reduceEqDiff, Int.reduceToNat, Nat.reduceMul, Nat.reduceAdd, Nat.reduceBEq, isLd, f0, f1, f2, f8, f9, f10, f16, f17, q4, gBs]
    refine ⟨by intro v hv; simp at hv; subst hv; rfl, fun b15 hb15 => ?_⟩
    refine ap_own (hO4.sub (Sub.put hb15 _)) (cells_one [.int .i64 (k : Int)] true) rfl (by intro v hv; simp at hv; subst hv; rfl) rfl (by omega) (by omega) (by omega) fun G5 A5 c5 hO5 keep => ?_
    obtain ⟨s5, o5⟩ := keep _ (Sub.wo _ _) (Off.wo _ _)
    obtain ⟨hw5, oH5, d5⟩ := (hwH.up (Sub.put hb15 _)).rez hda hOf s5 o5
    simp (maxSteps := 300000) (disch := omega) only [gs, gs2, gs3, gs4, ↓reduceIte, Nat.reduceEqDiff, Int.reduceToNat, Nat.reduceMul, Nat.reduceAdd, Nat.reduceBEq, isLd, f0, f1, f2, f8, f9, f10, f16, f17]
    exact hQ _ _ A' c' A5 c5 (by simp (maxSteps := 300000) (disch := omega) only [gs, gs2, gs3, gs4, ↓reduceIte, Nat.reduceEqDiff, Int.reduceToNat, Nat.reduceMul, Nat.reduceAdd, Nat.reduceBEq, isLd, f0]) (by simp (maxSteps := 300000) (disch := omega) only [gs, gs2, gs3, gs4, ↓reduceIte, Nat.reduceEqDiff, Int.reduceToNat, Nat.reduceMul, Nat.reduceAdd, Nat.reduceBEq, isLd, f1]) (by simp (maxSteps := 300000) (disch := omega) only [gs, gs2, gs3, gs4, ↓reduceIte, Nat.reduceEqDiff, Int.reduceToNat, Nat.reduceMul, Nat.reduceAdd, Nat.reduceBEq, isLd, f2]) (by simp (maxSteps := 300000) (disch := omega) only [gs, gs2, gs3, gs4, ↓reduceIte, Nat.reduceEqDiff, Int.reduceToNat, Nat.reduceMul, Nat.reduceAdd, Nat.reduceBEq, isLd]) (by simp (maxSteps := 300000) (disch := omega) only [gs, gs2, gs3, gs4, ↓reduceIte, Nat.reduceEqDiff, Int.reduceToNat, Nat.reduceMul, Nat.reduceAdd, Nat.reduceBEq, isLd, f9]) (by simp (maxSteps := 300000) (disch := omega) only [gs, gs2, gs3, gs4, ↓reduceIte, Nat.reduceEqDiff, Int.reduceToNat, Nat.reduceMul, Nat.reduceAdd, Nat.reduceBEq, isLd, f16]) (by simp (maxSteps := 300000) (disch := omega) only [gs, gs2, gs3, gs4, ↓reduceIte, Nat.reduceEqDiff, Int.reduceToNat, Nat.reduceMul, Nat.reduceAdd, Nat.reduceBEq, isLd, f17]) hw5 (hO5.cast (by simp [I64]) rfl) oH5 d5
abbrev elSwap : GCode := .seq (.reg c_impl_eliminate_10) (.cond (tt 30) (.seq (.dreg c_impl_eliminate_11) (.reg c_impl_eliminate_12)) .skip)
theorem el_swap {H G : GH} {b b10 cp cq t i k : Nat} {A : Nat → Option Addr} {c : Nat → Nat} {Ap : Option Addr} {R C n : Nat} {f : Int → Int → Int} {rest : List Value} {p det : Int} {cs : List Value} {T : Nat → Value} {Q : Cont} {X : GCode} (h : Rw H G b A c R C f rest Ap) (hR : R < 2 ^ 10) (hp : 1 < p ∧ p ≤ 2 ^ 30)
    (ht : t ≤ i) (hi : i < R) (hd : 0 ≤ det ∧ det < p) (k10 : rd (del G b) (some ⟨b10, 0, none⟩) = some (.int .i64 (k : Int))) (hO : Own G Ap cq cs 1 n) (hda : ∀ a, Ap = some a → a.block ≠ b)
    (e0 : T 0 = .slice (some ⟨b, 0, none⟩) R cp) (e1 : T 1 = .int .i64 C) (e2 : T 2 = .int .i64 p) (e8 : T 8 = .slice Ap n cq) (e9 : T 9 = .int .i64 det) (e10 : T 10 = .pointer (some ⟨b10, 0, none⟩)) (e11 : T 11 = .int .i64 t) (e12 : T 12 = .int .i64 ((i - t : Nat) : Int)) (e16 : T 16 = .int .i64 C) (e17 : T 17 = .int .i64 k)
    (hX : ∀ T' G' A' c', T' 0 = .slice (some ⟨b, 0, none⟩) R cp → T' 1 = .int .i64 C → T' 2 = .int .i64 p → T' 8 = .slice Ap n cq → T' 9 = .int .i64 (if i = t then det else (-det) % p) → T' 10 = .pointer (some ⟨b10, 0, none⟩) → T' 11 = .int .i64 t → T' 16 = .int .i64 C → T' 17 = .int .i64 k →
      Rw H G' b A' c' R C (swp f t i) rest Ap → Own G' Ap cq cs 1 n → rd (del G' b) (some ⟨b10, 0, none⟩) = some (.int .i64 (k : Int)) → gW Try.prog X Q T' G') : gW Try.prog (.seq elSwap X) Q T G := by
  simp (maxSteps := 300000) (disch := omega) only [gs, gs2, gs3, gs4, ↓reduceIte, Nat.reduceEqDiff, Int.reduceToNat, Nat.reduceMul, Nat.reduceAdd, Nat.reduceBEq, isLd, e12]
  by_cases hit : i = t
  · subst hit
    simp (maxSteps := 300000) (disch := omega) only [gs, gs2, gs3, gs4, ↓reduceIte, Nat.reduceEqDiff, Int.reduceToNat, Nat.reduceMul, Nat.reduceAdd, Nat.reduceBEq, isLd, show ((0 : Int) < ((i - i : Nat) : Int)) = False from eq_false (by omega)]
    exact hX _ G A c (by simp (maxSteps := 300000) (disch := omega) only [gs, gs2, gs3, gs4, ↓reduceIte, Nat.reduceEqDiff, Int.reduceToNat, Nat.reduceMul, Nat.reduceAdd, Nat.reduceBEq, isLd, e0]) (by simp (maxSteps := 300000) (disch := omega) only [gs, gs2, gs3, gs4, ↓reduceIte, Nat.reduceEqDiff, Int.reduceToNat, Nat.reduceMul, Nat.reduceAdd, Nat.reduceBEq, isLd, e1]) (by simp (maxSteps := 300000) (disch := omega) only [gs, gs2, gs3, gs4, ↓reduceIte, Nat.reduceEqDiff, Int.reduceToNat, Nat.reduceMul, Nat.reduceAdd, Nat.reduceBEq, isLd, e2]) (by simp (maxSteps := 300000) (disch := omega) only [gs, gs2, gs3, gs4, ↓reduceIte, Nat.reduceEqDiff, Int.reduceToNat, Nat.reduceMul, Nat.reduceAdd, Nat.reduceBEq, isLd, e8]) (by simp (maxSteps := 300000) (disch := omega) only [gs, gs2, gs3, gs4, ↓reduceIte, Nat.reduceEqDiff, Int.reduceToNat, Nat.reduceMul, Nat.reduceAdd, Nat.reduceBEq, isLd, e9]) (by simp (maxSteps := 300000) (disch := omega) only [gs, gs2, gs3, gs4, ↓reduceIte, Nat.reduceEqDiff, Int.reduceToNat, Nat.reduceMul, Nat.reduceAdd, Nat.reduceBEq, isLd, e10]) (by simp (maxSteps := 300000) (disch := omega) only [gs, gs2, gs3, gs4, ↓reduceIte, Nat.reduceEqDiff, Int.reduceToNat, Nat.reduceMul, Nat.reduceAdd, Nat.reduceBEq, isLd, e11]) (by simp (maxSteps := 300000) (disch := omega) only [gs, gs2, gs3, gs4, ↓reduceIte, Nat.reduceEqDiff, Int.reduceToNat, Nat.reduceMul, Nat.reduceAdd, Nat.reduceBEq, isLd, e16]) (by simp (maxSteps := 300000) (disch := omega) only [gs, gs2, gs3, gs4, ↓reduceIte, Nat.reduceEqDiff, Int.reduceToNat, Nat.reduceMul, Nat.reduceAdd, Nat.reduceBEq, isLd, e17]) (h.cong fun a j _ _ => by unfold swp; by_cases e : (a : Int) = i <;> simp [e]) hO k10
  have hgt := h.get (show t < R by omega)
  have hgi := h.get hi
  have hti : (t : Int) + ((i - t : Nat) : Int) = i := by omega
  simp (maxSteps := 300000) (disch := omega) only [gs, gs2, gs3, gs4, ↓reduceIte, Nat.reduceEqDiff, Int.reduceToNat, Nat.reduceMul, Nat.reduceAdd, Nat.reduceBEq, isLd, show ((0 : Int) < ((i - t : Nat) : Int)) = True from eq_true (by omega), e0, e11, e12, hgt, hgi, hti]
  refine h.st (i := t) (by omega) hda (h.row i hi) fun G1 h1 hd1 hd2 => ?_
  simp (maxSteps := 300000) (disch := omega) only [gs, gs2, gs3, gs4, ↓reduceIte, Nat.reduceEqDiff, Int.reduceToNat, Nat.reduceMul, Nat.reduceAdd, Nat.reduceBEq, isLd, e0, e11, e12, hti]
  refine h1.st hi hda (by rw [hd2]; exact h.row t (by omega)) fun G2 h2 hd3 _ => ?_
  have hO2 : Own G2 Ap cq cs 1 n := (hO.del hda).sub (by rw [← hd1, ← hd3]; exact Gh.Sub.del _ _)
  have k2 : rd (del G2 b) (some ⟨b10, 0, none⟩) = some (.int .i64 (k : Int)) := by rw [hd3, hd1]; exact k10
  simp (maxSteps := 300000) (disch := omega) only [gs, gs2, gs3, gs4, ↓reduceIte, Nat.reduceEqDiff, Int.reduceToNat, Nat.reduceMul, Nat.reduceAdd, Nat.reduceBEq, isLd, e0, e1, e2, e8, e9, e10, e11, e16, e17]
  refine impl_reduce_ok ⟨by omega, by omega⟩ ?_
  simp (maxSteps := 300000) (disch := omega) only [gs, gs2, gs3, gs4, ↓reduceIte, Nat.reduceEqDiff, Int.reduceToNat, Nat.reduceMul, Nat.reduceAdd, Nat.reduceBEq, isLd, e0, e1, e2, e8, e9, e10, e11, e16, e17]
  refine hX _ G2 _ _ (by simp (maxSteps := 300000) (disch := omega) only [gs, gs2, gs3, gs4, ↓reduceIte, Nat.reduceEqDiff, Int.reduceToNat, Nat.reduceMul, Nat.reduceAdd, Nat.reduceBEq, isLd, e0]) (by simp (maxSteps := 300000) (disch := omega) only [gs, gs2, gs3, gs4, ↓reduceIte, Nat.reduceEqDiff, Int.reduceToNat, Nat.reduceMul, Nat.reduceAdd, Nat.reduceBEq, isLd, e1]) (by simp (maxSteps := 300000) (disch := omega) only [gs, gs2, gs3, gs4, ↓reduceIte, Nat.reduceEqDiff, Int.reduceToNat, Nat.reduceMul, Nat.reduceAdd, Nat.reduceBEq, isLd, e2]) (by simp (maxSteps := 300000) (disch := omega) only [gs, gs2, gs3, gs4, ↓reduceIte, Nat.reduceEqDiff, Int.reduceToNat, Nat.reduceMul, Nat.reduceAdd, Nat.reduceBEq, isLd, e8]) (by simp (maxSteps := 300000) (disch := omega) only [gs, gs2, gs3, gs4, ↓reduceIte, Nat.reduceEqDiff, Int.reduceToNat, Nat.reduceMul, Nat.reduceAdd, Nat.reduceBEq, isLd, if_neg hit]; rw [Int.zero_sub]) (by simp (maxSteps := 300000) (disch := omega) only [gs, gs2, gs3, gs4, ↓reduceIte, Nat.reduceEqDiff, Int.reduceToNat, Nat.reduceMul, Nat.reduceAdd, Nat.reduceBEq, isLd, e10]) (by simp (maxSteps := 300000) (disch := omega) only [gs, gs2, gs3, gs4, ↓reduceIte, Nat.reduceEqDiff, Int.reduceToNat, Nat.reduceMul, Nat.reduceAdd, Nat.reduceBEq, isLd, e11]) (by simp (maxSteps := 300000) (disch := omega) only [gs, gs2, gs3, gs4, ↓reduceIte, Nat.reduceEqDiff, Int.reduceToNat, Nat.reduceMul, Nat.reduceAdd, Nat.reduceBEq, isLd, e16]) (by simp (maxSteps := 300000) (disch := omega) only [gs, gs2, gs3, gs4, ↓reduceIte, Nat.reduceEqDiff, Int.reduceToNat, Nat.reduceMul, Nat.reduceAdd, Nat.reduceBEq, isLd, e17]) (h2.cong fun a j _ _ => ?_) hO2 k2
  unfold setr swp
  by_cases e1 : (a : Int) = i
  · rw [if_pos e1, if_neg (by omega), if_pos e1]
  · by_cases e2 : (a : Int) = t
    · rw [if_neg e1, if_pos e2, if_pos e2]
    · rw [if_neg e1, if_neg e2, if_neg e2, if_neg e1]
theorem impl_eliminate_ok {H G : GH} {b cp : Nat} {A : Nat → Option Addr} {c : Nat → Nat} {R C : Nat} {f : Int → Int → Int} {rest : List Value} {p : Int} (h : Rw H G b A c R C f rest none) (hcp : R ≤ cp) (hR : R < 2 ^ 10) (hC : C < 2 ^ 10) (hr : Rng f p) (hp : 1 < p ∧ p ≤ 2 ^ 30) {K : Value → GH → Prop}
    (hk : ∀ G' A' c' Ap cq, Rw H G' b A' c' R C (elF p R f C).f rest Ap → IntS G' Ap cq (elF p R f C).piv → K (.tuple [.slice Ap (elF p R f C).piv.length cq, .int .i64 (elF p R f C).det].toArray) G') :
    GC Try.prog 231 [.slice (some ⟨b, 0, none⟩) R cp, .int .i64 C, .int .i64 p] G K := by
  refine c_impl_eliminate_i (by simp) ?_
  simp (maxSteps := 300000) (disch := omega) only [gs, gs2, gs3, gs4, ↓reduceIte, Nat.reduceEqDiff, Int.reduceToNat, Nat.reduceMul, Nat.reduceAdd, Nat.reduceBEq, isLd]
  refine gLoop_intro (fun m T G' => ∃ (k : Nat) (A' : Nat → Option Addr) (c' : Nat → Nat) (Ap : Option Addr) (cq : Nat), T 0 = .slice (some ⟨b, 0, none⟩) R cp ∧ T 1 = .int .i64 C ∧ T 2 = .int .i64 p ∧ T 8 = .slice Ap (elF p R f k).piv.length cq ∧ T 9 = .int .i64 (elF p R f k).det ∧ T 16 = .int .i64 C ∧ T 17 = .int .i64 k ∧ m + k = C ∧ k ≤ C ∧
      Rw H G' b A' c' R C (elF p R f k).f rest Ap ∧ Own G' Ap cq ((elF p R f k).piv.map I64) 1 (elF p R f k).piv.length ∧ Off H Ap ∧ ∀ a, Ap = some a → a.block ≠ b)
    C ⟨0, A, c, none, 0, by simp (maxSteps := 300000) (disch := omega) only [gs, gs2, gs3, gs4, ↓reduceIte, Nat.reduceEqDiff, Int.reduceToNat, Nat.reduceMul, Nat.reduceAdd, Nat.reduceBEq, isLd], by simp (maxSteps := 300000) (disch := omega) only [gs, gs2, gs3, gs4, ↓reduceIte, Nat.reduceEqDiff, Int.reduceToNat, Nat.reduceMul, Nat.reduceAdd, Nat.reduceBEq, isLd], by simp (maxSteps := 300000) (disch := omega) only [gs, gs2, gs3, gs4, ↓reduceIte, Nat.reduceEqDiff, Int.reduceToNat, Nat.reduceMul, Nat.reduceAdd, Nat.reduceBEq, isLd], by simp (maxSteps := 300000) (disch := omega) only [gs, gs2, gs3, gs4, ↓reduceIte, Nat.reduceEqDiff, Int.reduceToNat, Nat.reduceMul, Nat.reduceAdd, Nat.reduceBEq, isLd] <;> rfl, by simp (maxSteps := 300000) (disch := omega) only [gs, gs2, gs3, gs4, ↓reduceIte, Nat.reduceEqDiff, Int.reduceToNat, Nat.reduceMul, Nat.reduceAdd, Nat.reduceBEq, isLd] <;> rfl, by simp (maxSteps := 300000) (disch := omega) only [gs, gs2, gs3, gs4, ↓reduceIte, Nat.reduceEqDiff, Int.reduceToNat, Nat.reduceMul, Nat.reduceAdd, Nat.reduceBEq, isLd], by simp (maxSteps := 300000) (disch := omega) only [gs, gs2, gs3, gs4, ↓reduceIte, Nat.reduceEqDiff, Int.reduceToNat, Nat.reduceMul, Nat.reduceAdd, Nat.reduceBEq, isLd] <;> rfl, by omega, by omega, h, Own.nil _ _, Off.nil _, fun a ha => by cases ha⟩ ?_
  rintro m T G' ⟨k, A', c', Ap, cq, e0, e1, e2, e8, e9, e16, e17, hm, hkm, hw, hO, hOf, hda⟩
  have hrg := elF_rng (R := R) (by omega : 0 < p) hr k
  have hln := elF_len p R f k
  have hdt := elF_det hp.1 R f k
  have hstep : elF p R f (k + 1) = elS p R (elF p R f k) k := rfl
  simp (maxSteps := 300000) (disch := omega) only [gs, gs2, gs3, gs4, ↓reduceIte, Nat.reduceEqDiff, Int.reduceToNat, Nat.reduceMul, Nat.reduceAdd, Nat.reduceBEq, isLd, e0, e1, e2, e8, e9, e16, e17]
  by_cases hkk : (k : Int) < C
  rotate_left
  · simp (maxSteps := 300000) (disch := omega) only [gs, gs2, gs3, gs4, ↓reduceIte, Nat.reduceEqDiff, Int.reduceToNat, Nat.reduceMul, Nat.reduceAdd, Nat.reduceBEq, isLd, e0, e1, e2, e8, e9, e16, e17, hkk]
    obtain rfl : k = C := by omega
    exact hk _ _ _ _ _ hw hO.ints
  generalize elF p R f k = S at *
  simp (maxSteps := 300000) (disch := omega) only [gs, gs2, gs3, gs4, ↓reduceIte, Nat.reduceEqDiff, Int.reduceToNat, Nat.reduceMul, Nat.reduceAdd, Nat.reduceBEq, isLd, e0, e1, e2, e8, e9, e16, e17, hkk]
  intro b10 hb10
  simp (maxSteps := 300000) (disch := omega) only [gs, gs2, gs3, gs4, ↓reduceIte, Nat.reduceEqDiff, Int.reduceToNat, Nat.reduceMul, Nat.reduceAdd, Nat.reduceBEq, isLd, e0, e1, e2, e8, e9, e16, e17]
  refine st_one (put_same _ _ _) (by simp) rfl ?_
  rw [put_put', show List.set [Value.int .i64 0] 0 (.int .i64 (k : Int)) = [.int .i64 (k : Int)] from rfl]
  have s10 := Sub.put hb10 ⟨[.int .i64 (k : Int)], true⟩
  have k10 : rd (put G' b10 ⟨[.int .i64 (k : Int)], true⟩) (some ⟨b10, 0, none⟩) = some (.int .i64 (k : Int)) := rd_box _ _ _ 0 _ rfl
  have n10 : b10 ≠ b := (blk_ne hw.blk hb10).symm
  have hw := hw.up s10
  have hO := hO.sub s10
  have kd : rd (del (put G' b10 ⟨[.int .i64 (k : Int)], true⟩) b) (some ⟨b10, 0, none⟩) = some (.int .i64 (k : Int)) := by
    simp only [rd]; rw [del_ne _ n10, put_same]; rfl
  revert k10 hw hO kd
  generalize put G' b10 ⟨[.int .i64 (k : Int)], true⟩ = G2
  intro k10 hw hO kd
  simp (maxSteps := 300000) (disch := omega) only [gs, gs2, gs3, gs4, ↓reduceIte, Nat.reduceEqDiff, Int.reduceToNat, Nat.reduceMul, Nat.reduceAdd, Nat.reduceBEq, isLd, e0, e1, e2, e8, e9, e16, e17, k10, Option.map_none, sl_top hln.1 hcp]
  obtain ⟨Y, d', hY, hYe⟩ : ∃ Y d', (if cp = S.piv.length then Value.slice (some ⟨b, 0, none⟩) (R - S.piv.length) (cp - S.piv.length) else Value.slice (some ⟨b, S.piv.length, none⟩) (R - S.piv.length) (cp - S.piv.length)) = .slice Y (R - S.piv.length) d' ∧ (S.piv.length < R → Y = some ⟨b, S.piv.length, none⟩) := by
    by_cases e : cp = S.piv.length
    · exact ⟨_, _, if_pos e, fun x => by omega⟩
    · exact ⟨_, _, if_neg e, fun _ => rfl⟩
  rw [hY]
  refine slices_IndexFuncS_ok (col := (k : Int)) hw hYe hln.1 (by omega) (fun i hi K' hK' => ?_) (fun hno => ?_) fun i hi1 hi2 hi3 hi4 => ?_
  · simp (maxSteps := 300000) (disch := omega) only [gs, gs2, gs3, gs4, ↓reduceIte, Nat.reduceEqDiff, Int.reduceToNat, Nat.reduceMul, Nat.reduceAdd, Nat.reduceBEq, isLd]
    refine c_impl_eliminate_fn1_i (by simp) ?_
    have hc := hw.cell hi (j := k) (by omega)
    have hs := hw.sn hi (by omega)
    simp (maxSteps := 300000) (disch := omega) only [gs, gs2, gs3, gs4, ↓reduceIte, Nat.reduceEqDiff, Int.reduceToNat, Nat.reduceMul, Nat.reduceAdd, Nat.reduceBEq, isLd, k10, hc]
    exact hK'
  · simp (maxSteps := 300000) (disch := omega) only [gs, gs2, gs3, gs4, ↓reduceIte, Nat.reduceEqDiff, Int.reduceToNat, Nat.reduceMul, Nat.reduceAdd, Nat.reduceBEq, isLd, e0, e1, e2, e8, e9, e16, e17, show ((-1 : Int) < 0) = True from eq_true (by omega)]
    have hS : elS p R S k = ⟨S.f, S.piv, 0⟩ := by unfold elS; rw [fstRow_none hno]
    rw [hS] at hstep
    refine ⟨m - 1, by omega, G2, Sub.refl _, k + 1, A', c', Ap, cq, by rw [hstep], by rw [hstep], rfl, by omega, by omega, by rw [hstep]; exact hw, by rw [hstep]; exact hO, hOf, hda⟩
  · have hS : elS p R S k = ⟨clr (scl (swp S.f S.piv.length i) S.piv.length (invF (swp S.f S.piv.length i S.piv.length k) p) p) S.piv.length k p, S.piv ++ [(k : Int)], (if i = S.piv.length then S.det else (-S.det) % p) * swp S.f S.piv.length i S.piv.length k % p⟩ := by unfold elS; rw [fstRow_some hi1 hi2 hi3 hi4]
    rw [hS] at hstep
    have hsw : swp S.f S.piv.length i S.piv.length = S.f i := by unfold swp; rw [if_pos rfl]
    simp (maxSteps := 300000) (disch := omega) only [gs, gs2, gs3, gs4, ↓reduceIte, Nat.reduceEqDiff, Int.reduceToNat, Nat.reduceMul, Nat.reduceAdd, Nat.reduceBEq, isLd, e0, e1, e2, e8, e9, e16, e17]
    rw [decide_eq_false (show ¬ ((i - S.piv.length : Nat) : Int) < 0 by omega)]
    refine el_swap (X := elTail) (cp := cp) (k := k) (t := S.piv.length) (i := i) hw hR hp hi1 hi2 hdt kd hO hda (by simp (maxSteps := 300000) (disch := omega) only [gs, gs2, gs3, gs4, ↓reduceIte, Nat.reduceEqDiff, Int.reduceToNat, Nat.reduceMul, Nat.reduceAdd, Nat.reduceBEq, isLd, e0]) (by simp (maxSteps := 300000) (disch := omega) only [gs, gs2, gs3, gs4, ↓reduceIte, Nat.reduceEqDiff, Int.reduceToNat, Nat.reduceMul, Nat.reduceAdd, Nat.reduceBEq, isLd, e1]) (by simp (maxSteps := 300000) (disch := omega) only [gs, gs2, gs3, gs4, ↓reduceIte, Nat.reduceEqDiff, Int.reduceToNat, Nat.reduceMul, Nat.reduceAdd, Nat.reduceBEq, isLd, e2]) (by simp (maxSteps := 300000) (disch := omega) only [gs, gs2, gs3, gs4, ↓reduceIte, Nat.reduceEqDiff, Int.reduceToNat, Nat.reduceMul, Nat.reduceAdd, Nat.reduceBEq, isLd, e8]) (by simp (maxSteps := 300000) (disch := omega) only [gs, gs2, gs3, gs4, ↓reduceIte, Nat.reduceEqDiff, Int.reduceToNat, Nat.reduceMul, Nat.reduceAdd, Nat.reduceBEq, isLd, e9]) (by simp (maxSteps := 300000) (disch := omega) only [gs, gs2, gs3, gs4, ↓reduceIte, Nat.reduceEqDiff, Int.reduceToNat, Nat.reduceMul, Nat.reduceAdd, Nat.reduceBEq, isLd]) (by simp (maxSteps := 300000) (disch := omega) only [gs, gs2, gs3, gs4, ↓reduceIte, Nat.reduceEqDiff, Int.reduceToNat, Nat.reduceMul, Nat.reduceAdd, Nat.reduceBEq, isLd]) (by simp (maxSteps := 300000) (disch := omega) only [gs, gs2, gs3, gs4, ↓reduceIte, Nat.reduceEqDiff, Int.reduceToNat, Nat.reduceMul, Nat.reduceAdd, Nat.reduceBEq, isLd]) (by simp (maxSteps := 300000) (disch := omega) only [gs, gs2, gs3, gs4, ↓reduceIte, Nat.reduceEqDiff, Int.reduceToNat, Nat.reduceMul, Nat.reduceAdd, Nat.reduceBEq, isLd, e16]) (by simp (maxSteps := 300000) (disch := omega) only [gs, gs2, gs3, gs4, ↓reduceIte, Nat.reduceEqDiff, Int.reduceToNat, Nat.reduceMul, Nat.reduceAdd, Nat.reduceBEq, isLd, e17]) fun T2 G3 A3 c3 f0 f1 f2 f8 f9 f10 f11 f16 f17 hw3 hO3 kd3 => ?_
    have hd3 : 0 ≤ (if i = S.piv.length then S.det else (-S.det) % p) ∧ (if i = S.piv.length then S.det else (-S.det) % p) < p := by
      split
      · exact hdt
      · exact ⟨Int.emod_nonneg _ (by omega), Int.emod_lt_of_pos _ (by omega)⟩
    refine el_tail (cp := cp) (k := k) (t := S.piv.length) (g := swp S.f S.piv.length i) hw3 hR hC (hrg.swp _ _) hp (by omega) (by omega) hd3 (by rw [hsw]; exact hi3) kd3 hO3 hOf hda (by omega) f0 f1 f2 f8 f9 f10 f11 f16 f17 fun T4 G4 A4 c4 Ap4 cq4 g0 g1 g2 g8 g9 g16 g17 hw4 hO4 oH4 d4 => ?_
    simp (maxSteps := 300000) (disch := omega) only [gs, gs2, gs3, gs4, ↓reduceIte, Nat.reduceEqDiff, Int.reduceToNat, Nat.reduceMul, Nat.reduceAdd, Nat.reduceBEq, isLd, g0, g1, g2, g8, g9, g16, g17]
    refine ⟨m - 1, by omega, G4, Sub.refl _, k + 1, A4, c4, Ap4, cq4, ?_, ?_, rfl, by omega, by omega, by rw [hstep]; exact hw4, ?_, oH4, d4⟩
    · rw [hstep]; simp
    · rw [hstep]
    · rw [hstep]; exact hO4.cast rfl (by simp)
def pr (g : Nat → Int) : Nat → Int
  | 0 => 1
  | n + 1 => pr g n * g n
theorem sm_head (g : Nat → Int) : ∀ n, sm g (n + 1) = g 0 + sm (fun i => g (i + 1)) n
  | 0 => by simp [sm]
  | n + 1 => by
    show sm g (n + 1) + g (n + 1) = g 0 + (sm (fun i => g (i + 1)) n + g (n + 1))
    rw [sm_head g n]; omega
theorem pr_head (g : Nat → Int) : ∀ n, pr g (n + 1) = g 0 * pr (fun i => g (i + 1)) n
  | 0 => by simp [pr]
  | n + 1 => by
    show pr g (n + 1) * g (n + 1) = g 0 * (pr (fun i => g (i + 1)) n * g (n + 1))
    rw [pr_head g n, Int.mul_assoc]
theorem pr_nonneg {g : Nat → Int} : ∀ n, (∀ i, i < n → 0 ≤ g i) → 0 ≤ pr g n
  | 0, _ => (by decide : (0 : Int) ≤ 1)
  | n + 1, h => Int.mul_nonneg (pr_nonneg n fun i hi => h i (by omega)) (h n (by omega))
theorem pr_le {g h : Nat → Int} : ∀ n, (∀ i, i < n → 0 ≤ g i ∧ g i ≤ h i) → pr g n ≤ pr h n
  | 0, _ => Int.le_refl _
  | n + 1, hh => by
    have h1 := pr_le n fun i hi => hh i (by omega)
    have h2 := pr_nonneg (g := g) n fun i hi => (hh i (by omega)).1
    have h3 := hh n (by omega)
    exact Int.mul_le_mul h1 h3.2 h3.1 (Int.le_trans h2 h1)
theorem pr_scale (g : Nat → Int) (a : Int) : ∀ n, pr (fun i => a * g i) n = a ^ n * pr g n
  | 0 => by simp [pr]
  | n + 1 => by
    show pr (fun i => a * g i) n * (a * g n) = a ^ (n + 1) * (pr g n * g n)
    rw [pr_scale g a n, Int.pow_succ]
    rw [Int.mul_assoc (a ^ n), Int.mul_assoc (a ^ n), Int.mul_left_comm (pr g n) a]
/-- the diagonal outweighs the rest, which is not positive. -/
def Dom (n : Nat) (f : Int → Int → Int) : Prop := ∀ i : Nat, i < n → (∀ j : Nat, j < n → j ≠ i → f i j ≤ 0) ∧ 0 ≤ sm (fun j => f i j) n
theorem sm_le {g h : Nat → Int} : ∀ n, (∀ i, i < n → g i ≤ h i) → sm g n ≤ sm h n
  | 0, _ => Int.le_refl _
  | n + 1, hh => Int.add_le_add (sm_le n fun i hi => hh i (by omega)) (hh n (by omega))
theorem sm_zero : ∀ n, sm (fun _ => 0) n = 0
  | 0 => rfl
  | n + 1 => by show sm (fun _ => 0) n + 0 = 0; rw [sm_zero n]; rfl
theorem sm_one {g : Nat → Int} {i : Nat} (hg : ∀ j, j ≠ i → g j = 0) : ∀ n, sm g n = if i < n then g i else 0
  | 0 => by simp [sm]
  | n + 1 => by
    show sm g n + g n = _
    rw [sm_one hg n]
    by_cases h : n = i
    · subst h; simp
    · rw [hg n h]
      by_cases h2 : i < n
      · rw [if_pos h2, if_pos (by omega)]; omega
      · rw [if_neg h2, if_neg (by omega)]; omega
theorem Dom.diag {n : Nat} {f : Int → Int → Int} (h : Dom n f) {i : Nat} (hi : i < n) : 0 ≤ f i i := by
  have h1 := (h i hi).2
  have h2 := sm_le (g := fun j => f i j) (h := fun j => if j = i then f i i else 0) n fun j hj => by
    try dsimp only
    by_cases e : j = i
    · rw [if_pos e, e]; exact Int.le_refl _
    · rw [if_neg e]; exact (h i hi).1 j hj e
  rw [sm_one (i := i) (fun j hj => if_neg hj) n, if_pos hi, if_pos rfl] at h2
  omega
theorem Dom.zrow {n : Nat} {f : Int → Int → Int} (h : Dom n f) {i : Nat} (hi : i < n) (h0 : f i i = 0) {k : Nat} (hk : k < n) : f i k = 0 := by
  by_cases e : k = i
  · rw [e]; exact h0
  · have h1 := (h i hi).2
    have h2 := sm_le (g := fun j => f i j) (h := fun j => if j = k then f i k else 0) n fun j hj => by
      try dsimp only
      by_cases e2 : j = k
      · rw [if_pos e2, e2]; exact Int.le_refl _
      · rw [if_neg e2]
        by_cases e3 : j = i
        · rw [e3, h0]; exact Int.le_refl _
        · exact (h i hi).1 j hj e3
    rw [sm_one (i := k) (fun j hj => if_neg hj) n, if_pos hk, if_pos rfl] at h2
    have := (h i hi).1 k hk e
    omega
theorem sm_lin2 (g h : Nat → Int) (a c : Int) : ∀ n, sm (fun j => a * g j - c * h j) n = a * sm g n - c * sm h n
  | 0 => by simp [sm]
  | n + 1 => by
    show sm (fun j => a * g j - c * h j) n + (a * g n - c * h n) = a * (sm g n + g n) - c * (sm h n + h n)
    rw [sm_lin2 g h a c n, Int.mul_add, Int.mul_add]; omega
/-- what is left after the first row and column. -/
def schur (f : Int → Int → Int) : Int → Int → Int := fun i j => f 0 0 * f (i + 1) (j + 1) - f (i + 1) 0 * f 0 (j + 1)
theorem mul_np {a b : Int} (ha : 0 ≤ a) (hb : b ≤ 0) : a * b ≤ 0 := Int.mul_nonpos_of_nonneg_of_nonpos ha hb
theorem mul_nn {a b : Int} (ha : a ≤ 0) (hb : b ≤ 0) : 0 ≤ a * b := Int.mul_nonneg_of_nonpos_of_nonpos ha hb
theorem Dom.schur {n : Nat} {f : Int → Int → Int} (h : Dom (n + 1) f) : Dom n (Gh.schur f) := fun i hi => by
  have ha := h.diag (i := 0) (by omega)
  have hi1 := h (i + 1) (by omega)
  have h0 := h 0 (by omega)
  have hc : f ((i + 1 : Nat) : Int) ((0 : Nat) : Int) ≤ 0 := hi1.1 0 (by omega) (by omega)
  refine ⟨fun j hj hne => ?_, ?_⟩
  · have e1 : f ((i + 1 : Nat) : Int) ((j + 1 : Nat) : Int) ≤ 0 := hi1.1 (j + 1) (by omega) (by omega)
    have e2 : f ((0 : Nat) : Int) ((j + 1 : Nat) : Int) ≤ 0 := h0.1 (j + 1) (by omega) (by omega)
    have e3 := mul_np ha e1
    have e4 := mul_nn hc e2
    show f 0 0 * f ((i : Int) + 1) ((j : Int) + 1) - f ((i : Int) + 1) 0 * f 0 ((j : Int) + 1) ≤ 0
    simp only [Int.natCast_add, Int.natCast_one, Int.natCast_zero] at e3 e4
    omega
  · have e1 := hi1.2
    have e2 := h0.2
    rw [sm_head] at e1 e2
    show 0 ≤ sm (fun j => f 0 0 * f ((i : Int) + 1) ((j : Int) + 1) - f ((i : Int) + 1) 0 * f 0 ((j : Int) + 1)) n
    rw [sm_lin2 (fun j => f ((i : Int) + 1) ((j : Int) + 1)) (fun j => f 0 ((j : Int) + 1)) (f 0 0) (f ((i : Int) + 1) 0)]
    simp only [Int.natCast_add, Int.natCast_one, Int.natCast_zero] at e1 e2 hc ha
    generalize sm (fun j : Nat => f ((i : Int) + 1) ((j : Int) + 1)) n = S at *
    generalize sm (fun j : Nat => f 0 ((j : Int) + 1)) n = Z at *
    generalize f ((i : Int) + 1) 0 = c at *
    generalize f 0 0 = a at *
    have k1 : a * (-c) ≤ a * S := Int.mul_le_mul_of_nonneg_left (by omega) ha
    have k2 : (-c) * (-a) ≤ (-c) * Z := Int.mul_le_mul_of_nonneg_left (by omega) (by omega)
    rw [Int.mul_neg] at k1
    rw [Int.neg_mul_neg, Int.neg_mul, Int.mul_comm c a] at k2
    omega
/-- all rows but the first are multiplied. -/
theorem dt_scaleAll {n : Nat} (f : Int → Int → Int) (a : Int) : ∀ m, m < n → dt n (fun i j => if 1 ≤ i ∧ i ≤ (m : Nat) then a * f i j else f i j) = a ^ m * dt n f
  | 0, _ => by
    rw [Int.pow_zero, Int.one_mul]
    exact dt_congr n fun i j _ _ => if_neg (by omega)
  | m + 1, hm => by
    have ih := dt_scaleAll (n := n) f a m (by omega)
    have h2 := dt_scale (fun i j => if 1 ≤ i ∧ i ≤ (m : Nat) then a * f i j else f i j) (r := m + 1) hm a
    rw [ih] at h2
    rw [show a ^ (m + 1) * dt n f = a * (a ^ m * dt n f) by rw [Int.pow_succ, Int.mul_comm (a ^ m), Int.mul_assoc], ← h2]
    refine dt_congr n fun i j hi hj => ?_
    unfold setr
    show (if 1 ≤ (i : Int) ∧ (i : Int) ≤ ((m + 1 : Nat) : Int) then a * f i j else f i j) = _
    by_cases c : (i : Int) = ((m + 1 : Nat) : Int)
    · rw [if_pos c, if_pos (by omega)]
      try dsimp only
      rw [if_neg (by omega), c]
    · rw [if_neg c]
      show _ = if 1 ≤ (i : Int) ∧ (i : Int) ≤ (m : Nat) then a * f i j else f i j
      by_cases c2 : 1 ≤ (i : Int) ∧ (i : Int) ≤ (m : Nat)
      · rw [if_pos c2, if_pos (by omega)]
      · rw [if_neg c2, if_neg (by omega)]
theorem dt_schur (n : Nat) (f : Int → Int → Int) : f 0 0 ^ n * dt (n + 1) f = f 0 0 * dt n (schur f) := by
  have h1 := dt_scaleAll (n := n + 1) f (f 0 0) n (by omega)
  have h2 := dt_clear (n := n + 1) (fun i j => if 1 ≤ i ∧ i ≤ (n : Nat) then f 0 0 * f i j else f i j) (fun i => -f i 0) (by omega) (n + 1) (Nat.le_refl _)
  rw [← h1, ← h2, dt_col]
  · try dsimp only
    rw [if_neg (by omega), if_neg (by omega)]
    congr 1
    refine dt_congr n fun i j hi hj => ?_
    unfold dlr schur
    try dsimp only
    rw [if_neg (show ¬ (i : Int) < 0 by omega), if_pos (by omega), if_pos (by omega), if_neg (by omega), Int.neg_mul]
    omega
  · intro i h1 h2
    try dsimp only
    rw [if_pos (by omega), if_pos (by omega), if_neg (by omega), Int.neg_mul, Int.mul_comm (f i 0)]
    omega
theorem pow_pos' {a : Int} (h : 0 < a) : ∀ n : Nat, 0 < a ^ n
  | 0 => by simp
  | n + 1 => by rw [Int.pow_succ]; exact Int.mul_pos (pow_pos' h n) h
theorem dt_dom : ∀ (n : Nat) (f : Int → Int → Int), Dom n f → 0 ≤ dt n f ∧ dt n f ≤ pr (fun i => f i i) n
  | 0, f, _ => by simp [dt, pr]
  | n + 1, f, h => by
    have ha : 0 ≤ f 0 0 := h.diag (i := 0) (by omega)
    have hpr := pr_nonneg (g := fun i => f i i) (n + 1) fun i hi => h.diag hi
    by_cases h0 : f 0 0 = 0
    · have : dt (n + 1) f = 0 := by
        have e := dt_scale f (r := 0) (n := n + 1) (by omega) 0
        rw [Int.zero_mul] at e
        rw [← e]
        refine dt_congr (n + 1) fun i j hi hj => ?_
        unfold setr
        by_cases c : (i : Int) = ((0 : Nat) : Int)
        · rw [if_pos c]
          have := h.zrow (i := 0) (by omega) h0 hj
          rw [c, this]; simp
        · rw [if_neg c]
      rw [this]; exact ⟨Int.le_refl _, hpr⟩
    · have hs := dt_schur n f
      have ih := dt_dom n (schur f) h.schur
      have hle := pr_le (g := fun i => schur f i i) (h := fun i => f 0 0 * f ((i + 1 : Nat) : Int) ((i + 1 : Nat) : Int)) n fun i hi => ⟨h.schur.diag hi, by
        have e1 : f ((i + 1 : Nat) : Int) ((0 : Nat) : Int) ≤ 0 := (h (i + 1) (by omega)).1 0 (by omega) (by omega)
        have e2 : f ((0 : Nat) : Int) ((i + 1 : Nat) : Int) ≤ 0 := (h 0 (by omega)).1 (i + 1) (by omega) (by omega)
        have e3 := mul_nn e1 e2
        show f 0 0 * f ((i : Int) + 1) ((i : Int) + 1) - f ((i : Int) + 1) 0 * f 0 ((i : Int) + 1) ≤ _
        simp only [Int.natCast_add, Int.natCast_one, Int.natCast_zero] at e3 ⊢
        omega⟩
      rw [pr_scale (fun i => f ((i + 1 : Nat) : Int) ((i + 1 : Nat) : Int)) (f 0 0) n] at hle
      rw [pr_head]
      have hp := pow_pos' (show 0 < f 0 0 by omega) n
      have e0 : f ((0 : Nat) : Int) ((0 : Nat) : Int) = f 0 0 := rfl
      try dsimp only
      rw [e0]
      generalize pr (fun i => f ((i + 1 : Nat) : Int) ((i + 1 : Nat) : Int)) n = P at *
      generalize f 0 0 ^ n = q at *
      generalize f 0 0 = a at *
      generalize dt (n + 1) f = D at *
      constructor
      · have : 0 ≤ q * D := by rw [hs]; exact Int.mul_nonneg ha ih.1
        exact Int.nonneg_of_mul_nonneg_right this hp
      · have k1 : a * dt n (schur f) ≤ a * (q * P) := Int.mul_le_mul_of_nonneg_left (Int.le_trans ih.2 hle) ha
        rw [← hs, Int.mul_left_comm] at k1
        exact Int.le_of_mul_le_mul_left k1 hp

end Go.Proofs.Ytmlkgpoakkgjbaa.Gh
