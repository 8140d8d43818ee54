/- What the functions that the law FnHarmonic reaches return, and the law; it stands under no condition. -/
import Derived.Test.YtmlkgpoakkgjbaaYFnHarmonica
namespace Go.Proofs.Ytmlkgpoakkgjbaa.Gh
open Go Go.RowKit Go.Proofs
set_option linter.unusedVariables false
set_option linter.unusedSimpArgs false
set_option maxHeartbeats 4000000

theorem st_one {G : GH} {b o : Nat} {cs : List Value} {v : Value} {K : Value → GH → Prop} (hb : G b = some ⟨cs, true⟩) (ho : o < cs.length) (h1 : oneB v = true) (hk : K undef (put G b ⟨cs.set o v, true⟩)) : gSt 1 (.pointer (some ⟨b, o, none⟩)) v G K := by
  have hc : v.cells = #[v] := by cases v <;> first | rfl | simp [oneB] at h1
  refine ⟨b, o, cs, rfl, hb, by rw [hc]; rfl, by omega, ?_, ?_⟩
  · rw [hc]; intro u hu; simp at hu; subst hu; exact h1
  · rw [hc]; exact hk
theorem zc_one (z : Value) (n : Nat) : zc [z] n = List.replicate n z := by
  apply List.ext_getElem
  · simp [zc]
  · intro i h1 h2; simp [zc, Nat.mod_one, List.getD]
/-- the place of the first element that meets p, or -1. -/
def idxI (p : Int → Bool) (xs : List Int) : Int := match xs.findIdx? p with | some i => i | none => -1
theorem idxI_none {p : Int → Bool} {xs : List Int} (h : ∀ i, i < xs.length → p (xs.getD i 0) = false) : idxI p xs = -1 := by
  have : xs.findIdx? p = none := by
    rw [List.findIdx?_eq_none_iff]
    intro x hx
    obtain ⟨i, hi, rfl⟩ := List.getElem_of_mem hx
    simpa [List.getD, hi] using h i hi
  simp [idxI, this]
theorem idxI_some {p : Int → Bool} {xs : List Int} {k : Nat} (hk : k < xs.length) (hp : p (xs.getD k 0) = true) (h : ∀ i, i < k → p (xs.getD i 0) = false) : idxI p xs = k := by
  have : xs.findIdx? p = some k := by
    rw [List.findIdx?_eq_some_iff_getElem]
    refine ⟨hk, by simpa [List.getD, hk] using hp, fun j hj => ?_⟩
    have := h j hj
    simpa [List.getD, show j < xs.length by omega] using this
  simp [idxI, this]
theorem slices_IndexFunc_ok {G : GH} {A : Option Addr} {c : Nat} {xs : List Int} {f : Value} (p : Int → Bool) (h : IntS G A c xs) (hl : xs.length < 2 ^ 40)
    (hf : ∀ i, i < xs.length → ∀ K : Value → GH → Prop, K (.bool (p (xs.getD i 0))) G → gCl Try.prog f [.int .i64 (xs.getD i 0)] G K) {K : Value → GH → Prop}
    (hk : K (.int .i64 (idxI p xs)) G) : GC Try.prog 222 [.slice A xs.length c, f] G K := by
  refine c_slices_IndexFunc_int64_int64_i (by simp) ?_
  have hsn := h.sn
  have hrd := h.rd
  simp (maxSteps := 300000) (disch := omega) only [gs, gs2, gs3, gs4, ↓reduceIte, Nat.reduceEqDiff, Int.reduceToNat, Nat.reduceMul, Nat.reduceAdd, Nat.reduceBEq, isLd]
  refine gLoop_intro (fun m T G' => ∃ k : Nat, T 0 = .slice A xs.length c ∧ T 1 = f ∧ T 7 = .int .i64 xs.length ∧ T 8 = .int .i64 k ∧ m + k = xs.length ∧ k ≤ xs.length ∧ G' = G ∧ ∀ i, i < k → p (xs.getD i 0) = false) xs.length
    ⟨0, by simp (maxSteps := 300000) (disch := omega) only [gs, gs2, gs3, gs4, ↓reduceIte, Nat.reduceEqDiff, Int.reduceToNat, Nat.reduceMul, Nat.reduceAdd, Nat.reduceBEq, isLd], by simp (maxSteps := 300000) (disch := omega) only [gs, gs2, gs3, gs4, ↓reduceIte, Nat.reduceEqDiff, Int.reduceToNat, Nat.reduceMul, Nat.reduceAdd, Nat.reduceBEq, isLd], by simp (maxSteps := 300000) (disch := omega) only [gs, gs2, gs3, gs4, ↓reduceIte, Nat.reduceEqDiff, Int.reduceToNat, Nat.reduceMul, Nat.reduceAdd, Nat.reduceBEq, isLd], by simp (maxSteps := 300000) (disch := omega) only [gs, gs2, gs3, gs4, ↓reduceIte, Nat.reduceEqDiff, Int.reduceToNat, Nat.reduceMul, Nat.reduceAdd, Nat.reduceBEq, isLd] <;> rfl, by omega, by omega, rfl, fun i hi => by omega⟩ ?_
  rintro m T G' ⟨k, h0, h1, h7, h8, hm, hkl, rfl, hinv⟩
  simp (maxSteps := 300000) (disch := omega) only [gs, gs2, gs3, gs4, ↓reduceIte, Nat.reduceEqDiff, Int.reduceToNat, Nat.reduceMul, Nat.reduceAdd, Nat.reduceBEq, isLd, h0, h1, h7, h8]
  by_cases hlt : (k : Int) < xs.length
  · simp (maxSteps := 300000) (disch := omega) only [gs, gs2, gs3, gs4, ↓reduceIte, Nat.reduceEqDiff, Int.reduceToNat, Nat.reduceMul, Nat.reduceAdd, Nat.reduceBEq, isLd, h0, h1, h7, h8, hlt, hrd]
    refine hf k (by omega) _ ?_
    simp (maxSteps := 300000) (disch := omega) only [gs, gs2, gs3, gs4, ↓reduceIte, Nat.reduceEqDiff, Int.reduceToNat, Nat.reduceMul, Nat.reduceAdd, Nat.reduceBEq, isLd, h0, h1, h7, h8]
    cases hp : p (xs.getD k 0)
    · simp (maxSteps := 300000) (disch := omega) only [gs, gs2, gs3, gs4, ↓reduceIte, Nat.reduceEqDiff, Int.reduceToNat, Nat.reduceMul, Nat.reduceAdd, Nat.reduceBEq, isLd, h0, h1, h7, h8]
      refine ⟨m - 1, by omega, _, Sub.refl _, k + 1, rfl, by omega, by omega, rfl, fun i hi => ?_⟩
      by_cases hik : i = k
      · subst hik; exact hp
      · exact hinv i (by omega)
    · simp (maxSteps := 300000) (disch := omega) only [gs, gs2, gs3, gs4, ↓reduceIte, Nat.reduceEqDiff, Int.reduceToNat, Nat.reduceMul, Nat.reduceAdd, Nat.reduceBEq, isLd, h0, h1, h7, h8]
      rw [idxI_some (by omega) hp hinv] at hk; exact hk
  · simp (maxSteps := 300000) (disch := omega) only [gs, gs2, gs3, gs4, ↓reduceIte, Nat.reduceEqDiff, Int.reduceToNat, Nat.reduceMul, Nat.reduceAdd, Nat.reduceBEq, isLd, h0, h1, h7, h8, hlt]
    rw [idxI_none (fun i hi => hinv i (by omega))] at hk; exact hk
theorem slices_ContainsFunc_ok {G : GH} {A : Option Addr} {c : Nat} {xs : List Int} {f : Value} (p : Int → Bool) (h : IntS G A c xs) (hl : xs.length < 2 ^ 40)
    (hf : ∀ i, i < xs.length → ∀ K : Value → GH → Prop, K (.bool (p (xs.getD i 0))) G → gCl Try.prog f [.int .i64 (xs.getD i 0)] G K) {K : Value → GH → Prop}
    (hk : K (.bool (xs.any p)) G) : GC Try.prog 152 [.slice A xs.length c, f] G K := by
  refine c_slices_ContainsFunc_int64_int64_i (by simp) ?_
  simp (maxSteps := 300000) (disch := omega) only [gs, gs2, gs3, gs4, ↓reduceIte, Nat.reduceEqDiff, Int.reduceToNat, Nat.reduceMul, Nat.reduceAdd, Nat.reduceBEq, isLd]
  refine slices_IndexFunc_ok p h hl hf ?_
  simp (maxSteps := 300000) (disch := omega) only [gs, gs2, gs3, gs4, ↓reduceIte, Nat.reduceEqDiff, Int.reduceToNat, Nat.reduceMul, Nat.reduceAdd, Nat.reduceBEq, isLd]
  have : decide (0 ≤ idxI p xs) = xs.any p := by
    unfold idxI
    cases hi : xs.findIdx? p with
    | none =>
      rw [List.findIdx?_eq_none_iff] at hi
      have : xs.any p = false := by rw [List.any_eq_false]; intro x hx; simp [hi x hx]
      simp [this]
    | some i =>
      rw [List.findIdx?_eq_some_iff_getElem] at hi
      obtain ⟨h1, h2, _⟩ := hi
      have : xs.any p = true := List.any_eq_true.2 ⟨xs[i], List.getElem_mem h1, h2⟩
      simp [this]
  rw [this]; exact hk
theorem spec_l00In_ok (a b c : Int) {G : GH} {K : Value → GH → Prop} (hk : K (.bool (decide (b ≤ a ∧ a ≤ c))) G) : GC Try.prog 121 [.int .i64 a, .int .i64 b, .int .i64 c] G K := by
  refine c_spec_l00In_i (by simp) ?_
  simp (maxSteps := 300000) (disch := omega) only [gs, gs2, gs3, gs4, ↓reduceIte, Nat.reduceEqDiff, Int.reduceToNat, Nat.reduceMul, Nat.reduceAdd, Nat.reduceBEq, isLd]
  by_cases h1 : b ≤ a
  · simp (maxSteps := 300000) (disch := omega) only [gs, gs2, gs3, gs4, ↓reduceIte, Nat.reduceEqDiff, Int.reduceToNat, Nat.reduceMul, Nat.reduceAdd, Nat.reduceBEq, isLd, h1]
    simpa [h1] using hk
  · simp (maxSteps := 300000) (disch := omega) only [gs, gs2, gs3, gs4, ↓reduceIte, Nat.reduceEqDiff, Int.reduceToNat, Nat.reduceMul, Nat.reduceAdd, Nat.reduceBEq, isLd, h1]
    simpa [h1] using hk
theorem impl_within_ok (a b c : Int) {G : GH} {K : Value → GH → Prop} (hk : K (.bool (decide (b ≤ a ∧ a ≤ c))) G) : GC Try.prog 122 [.int .i64 a, .int .i64 b, .int .i64 c] G K := by
  refine c_impl_within_i (by simp) ?_
  simp (maxSteps := 300000) (disch := omega) only [gs, gs2, gs3, gs4, ↓reduceIte, Nat.reduceEqDiff, Int.reduceToNat, Nat.reduceMul, Nat.reduceAdd, Nat.reduceBEq, isLd]
  by_cases h1 : b ≤ a
  · simp (maxSteps := 300000) (disch := omega) only [gs, gs2, gs3, gs4, ↓reduceIte, Nat.reduceEqDiff, Int.reduceToNat, Nat.reduceMul, Nat.reduceAdd, Nat.reduceBEq, isLd, h1]
    simpa [h1] using hk
  · simp (maxSteps := 300000) (disch := omega) only [gs, gs2, gs3, gs4, ↓reduceIte, Nat.reduceEqDiff, Int.reduceToNat, Nat.reduceMul, Nat.reduceAdd, Nat.reduceBEq, isLd, h1]
    simpa [h1] using hk
theorem spec_l00Max_ok (a b : Int) {G : GH} {K : Value → GH → Prop} (hk : K (.int .i64 (max a b)) G) : GC Try.prog 113 [.int .i64 a, .int .i64 b] G K := by
  refine c_spec_l00Max_i (by simp) ?_
  simp (maxSteps := 300000) (disch := omega) only [gs, gs2, gs3, gs4, ↓reduceIte, Nat.reduceEqDiff, Int.reduceToNat, Nat.reduceMul, Nat.reduceAdd, Nat.reduceBEq, isLd]
  by_cases h1 : b < a
  · simp (maxSteps := 300000) (disch := omega) only [gs, gs2, gs3, gs4, ↓reduceIte, Nat.reduceEqDiff, Int.reduceToNat, Nat.reduceMul, Nat.reduceAdd, Nat.reduceBEq, isLd, h1]
    rwa [show max a b = a by omega] at hk
  · simp (maxSteps := 300000) (disch := omega) only [gs, gs2, gs3, gs4, ↓reduceIte, Nat.reduceEqDiff, Int.reduceToNat, Nat.reduceMul, Nat.reduceAdd, Nat.reduceBEq, isLd, h1]
    rwa [show max a b = b by omega] at hk
def pairV (p : Int × Int) : Value := .tuple [.int .i64 p.1, .int .i64 p.2].toArray
def cmp3 (a b : Int) : Int := if a < b then -1 else if b < a then 1 else 0
theorem cmp_isNaN_ok (a : Int) {G : GH} {K : Value → GH → Prop} (hk : K (.bool false) G) : GC Try.prog 248 [.int .i64 a] G K := by
  refine c_cmp_isNaN_int64_i (by simp) ?_
  simp (maxSteps := 300000) (disch := omega) only [gs, gs2, gs3, gs4, ↓reduceIte, Nat.reduceEqDiff, Int.reduceToNat, Nat.reduceMul, Nat.reduceAdd, Nat.reduceBEq, isLd]
  exact hk
theorem cmp_Compare_ok (a b : Int) {G : GH} {K : Value → GH → Prop} (hk : K (.int .i64 (cmp3 a b)) G) : GC Try.prog 218 [.int .i64 a, .int .i64 b] G K := by
  refine c_cmp_Compare_int64_i (by simp) ?_
  simp (maxSteps := 300000) (disch := omega) only [gs, gs2, gs3, gs4, ↓reduceIte, Nat.reduceEqDiff, Int.reduceToNat, Nat.reduceMul, Nat.reduceAdd, Nat.reduceBEq, isLd]
  refine cmp_isNaN_ok _ ?_
  simp (maxSteps := 300000) (disch := omega) only [gs, gs2, gs3, gs4, ↓reduceIte, Nat.reduceEqDiff, Int.reduceToNat, Nat.reduceMul, Nat.reduceAdd, Nat.reduceBEq, isLd]
  refine cmp_isNaN_ok _ ?_
  simp (maxSteps := 300000) (disch := omega) only [gs, gs2, gs3, gs4, ↓reduceIte, Nat.reduceEqDiff, Int.reduceToNat, Nat.reduceMul, Nat.reduceAdd, Nat.reduceBEq, isLd]
  unfold cmp3 at hk
  by_cases h1 : a < b
  · simp (maxSteps := 300000) (disch := omega) only [gs, gs2, gs3, gs4, ↓reduceIte, Nat.reduceEqDiff, Int.reduceToNat, Nat.reduceMul, Nat.reduceAdd, Nat.reduceBEq, isLd, h1]; rwa [if_pos h1] at hk
  · rw [if_neg h1] at hk
    simp (maxSteps := 300000) (disch := omega) only [gs, gs2, gs3, gs4, ↓reduceIte, Nat.reduceEqDiff, Int.reduceToNat, Nat.reduceMul, Nat.reduceAdd, Nat.reduceBEq, isLd, h1]
    by_cases h2 : b < a
    · simp (maxSteps := 300000) (disch := omega) only [gs, gs2, gs3, gs4, ↓reduceIte, Nat.reduceEqDiff, Int.reduceToNat, Nat.reduceMul, Nat.reduceAdd, Nat.reduceBEq, isLd, h2]; rwa [if_pos h2] at hk
    · simp (maxSteps := 300000) (disch := omega) only [gs, gs2, gs3, gs4, ↓reduceIte, Nat.reduceEqDiff, Int.reduceToNat, Nat.reduceMul, Nat.reduceAdd, Nat.reduceBEq, isLd, h2]; rwa [if_neg h2] at hk
/-- cmp.Or of two numbers. -/
theorem cmp_Or_ok (a b : Int) {G : GH} {A : Option Addr} {c : Nat} (h0 : rd G A = some (.int .i64 a)) (h1 : rd G (pa A 1) = some (.int .i64 b)) {K : Value → GH → Prop} (hk : K (.int .i64 (if a = 0 then b else a)) G) : GC Try.prog 241 [.slice A 2 c] G K := by
  refine c_cmp_Or_int_i (by simp) ?_
  have hsn := rd_some h0
  simp (maxSteps := 300000) (disch := omega) only [gs, gs2, gs3, gs4, ↓reduceIte, Nat.reduceEqDiff, Int.reduceToNat, Nat.reduceMul, Nat.reduceAdd, Nat.reduceBEq, isLd]
  refine gLoop_intro (fun m T G' => ∃ k : Nat, T 3 = .int .i64 0 ∧ T 6 = .slice A 2 c ∧ T 7 = .int .i64 2 ∧ T 8 = .int .i64 k ∧ m + k = 2 ∧ G' = G ∧ (k = 1 → a = 0) ∧ (k = 2 → a = 0 ∧ b = 0)) 2 ⟨0, by simp (maxSteps := 300000) (disch := omega) only [gs, gs2, gs3, gs4, ↓reduceIte, Nat.reduceEqDiff, Int.reduceToNat, Nat.reduceMul, Nat.reduceAdd, Nat.reduceBEq, isLd], by simp (maxSteps := 300000) (disch := omega) only [gs, gs2, gs3, gs4, ↓reduceIte, Nat.reduceEqDiff, Int.reduceToNat, Nat.reduceMul, Nat.reduceAdd, Nat.reduceBEq, isLd], by simp (maxSteps := 300000) (disch := omega) only [gs, gs2, gs3, gs4, ↓reduceIte, Nat.reduceEqDiff, Int.reduceToNat, Nat.reduceMul, Nat.reduceAdd, Nat.reduceBEq, isLd] <;> rfl, by simp (maxSteps := 300000) (disch := omega) only [gs, gs2, gs3, gs4, ↓reduceIte, Nat.reduceEqDiff, Int.reduceToNat, Nat.reduceMul, Nat.reduceAdd, Nat.reduceBEq, isLd] <;> rfl, by omega, rfl, by omega, by omega⟩ ?_
  rintro m T G' ⟨k, e3, e6, e7, e8, hm, rfl, ha, hb⟩
  simp (maxSteps := 300000) (disch := omega) only [gs, gs2, gs3, gs4, ↓reduceIte, Nat.reduceEqDiff, Int.reduceToNat, Nat.reduceMul, Nat.reduceAdd, Nat.reduceBEq, isLd, e3, e6, e7, e8]
  have hk2 : k = 0 ∨ k = 1 ∨ k = 2 := by omega
  rcases hk2 with rfl | rfl | rfl
  · simp (maxSteps := 300000) (disch := omega) only [gs, gs2, gs3, gs4, ↓reduceIte, Nat.reduceEqDiff, Int.reduceToNat, Nat.reduceMul, Nat.reduceAdd, Nat.reduceBEq, isLd, e3, e6, e7, e8, Int.natCast_zero, Int.reduceLT, Int.le_refl, h0]
    cases hz : decide (¬ a = 0)
    · simp (maxSteps := 300000) (disch := omega) only [gs, gs2, gs3, gs4, ↓reduceIte, Nat.reduceEqDiff, Int.reduceToNat, Nat.reduceMul, Nat.reduceAdd, Nat.reduceBEq, isLd, e3, e6, e7, e8]
      have hz : a = 0 := by simpa using hz
      exact ⟨m - 1, by omega, _, Sub.refl _, 1, rfl, by omega, rfl, fun _ => hz, by omega⟩
    · simp (maxSteps := 300000) (disch := omega) only [gs, gs2, gs3, gs4, ↓reduceIte, Nat.reduceEqDiff, Int.reduceToNat, Nat.reduceMul, Nat.reduceAdd, Nat.reduceBEq, isLd]
      have hz : ¬ a = 0 := by simpa using hz
      rwa [if_neg hz] at hk
  · rw [if_pos (ha rfl)] at hk
    simp (maxSteps := 300000) (disch := omega) only [gs, gs2, gs3, gs4, ↓reduceIte, Nat.reduceEqDiff, Int.reduceToNat, Nat.reduceMul, Nat.reduceAdd, Nat.reduceBEq, isLd, e3, e6, e7, e8, Int.natCast_one, Int.reduceLT, Int.le_refl, h1]
    cases hz : decide (¬ b = 0)
    · simp (maxSteps := 300000) (disch := omega) only [gs, gs2, gs3, gs4, ↓reduceIte, Nat.reduceEqDiff, Int.reduceToNat, Nat.reduceMul, Nat.reduceAdd, Nat.reduceBEq, isLd, e3, e6, e7, e8]
      have hz : b = 0 := by simpa using hz
      exact ⟨m - 1, by omega, _, Sub.refl _, 2, rfl, by omega, rfl, by omega, fun _ => ⟨ha rfl, hz⟩⟩
    · simp (maxSteps := 300000) (disch := omega) only [gs, gs2, gs3, gs4, ↓reduceIte, Nat.reduceEqDiff, Int.reduceToNat, Nat.reduceMul, Nat.reduceAdd, Nat.reduceBEq, isLd]
      exact hk
  · rw [if_pos (hb rfl).1, (hb rfl).2] at hk
    simp (maxSteps := 300000) (disch := omega) only [gs, gs2, gs3, gs4, ↓reduceIte, Nat.reduceEqDiff, Int.reduceToNat, Nat.reduceMul, Nat.reduceAdd, Nat.reduceBEq, isLd, e3, e6, e7, e8, Int.reduceLT, show (((2 : Nat) : Int) < 2) = False by decide]
    exact hk
theorem impl_isElement_ok (a p : Int) {G : GH} {K : Value → GH → Prop} (hk : K (.bool (decide (0 ≤ a ∧ a ≤ IntKind.i64.wrap (p - 1)))) G) : GC Try.prog 180 [.int .i64 a, .int .i64 p] G K := by
  refine c_impl_isElement_i (by simp) ?_
  simp (maxSteps := 300000) (disch := omega) only [gs, gs2, gs3, gs4, ↓reduceIte, Nat.reduceEqDiff, Int.reduceToNat, Nat.reduceMul, Nat.reduceAdd, Nat.reduceBEq, isLd]
  refine impl_within_ok _ _ _ ?_
  simp (maxSteps := 300000) (disch := omega) only [gs, gs2, gs3, gs4, ↓reduceIte, Nat.reduceEqDiff, Int.reduceToNat, Nat.reduceMul, Nat.reduceAdd, Nat.reduceBEq, isLd]
  exact hk
def ltArc (a b : T3) : Prop := a.1 < b.1 ∨ a.1 = b.1 ∧ a.2.1 < b.2.1
theorem cmp_lt (a b : T3) : (0 ≤ (if cmp3 a.1 b.1 = 0 then cmp3 a.2.1 b.2.1 else cmp3 a.1 b.1)) ↔ ¬ ltArc a b := by
  unfold ltArc cmp3
  by_cases h1 : a.1 < b.1
  · simp [h1]
  · by_cases h2 : b.1 < a.1
    · simp [h1, h2]; omega
    · by_cases h3 : a.2.1 < b.2.1
      · simp [h1, h2, h3]; omega
      · by_cases h4 : b.2.1 < a.2.1 <;> simp [h1, h2, h3, h4] <;> omega
def Rise (xs : List Int) : Prop := ∀ i, i + 1 < xs.length → xs.getD i 0 < xs.getD (i + 1) 0
def InB (xs : List Int) (lo hi : Int) : Prop := ∀ i, i < xs.length → lo ≤ xs.getD i 0 ∧ xs.getD i 0 ≤ hi
theorem inB_mem {xs : List Int} {lo hi : Int} : InB xs lo hi ↔ ∀ x ∈ xs, lo ≤ x ∧ x ≤ hi := by
  constructor
  · intro h x hx
    obtain ⟨i, hi, rfl⟩ := List.getElem_of_mem hx
    simpa [List.getD, hi] using h i hi
  · intro h i hi
    exact h _ (by simp [List.getD, hi])
theorem impl_isRising_ok {G : GH} {A : Option Addr} {c : Nat} {xs : List Int} (h : IntS G A c xs) (hl : xs.length < 2 ^ 40) {K : Value → GH → Prop}
    (hk : ∀ b : Bool, (b = true ↔ Rise xs) → K (.bool b) G) : GC Try.prog 215 [.slice A xs.length c] G K := by
  refine c_impl_isRising_i (by simp) ?_
  have hsn := h.sn
  have r := h.rd
  simp (maxSteps := 300000) (disch := omega) only [gs, gs2, gs3, gs4, ↓reduceIte, Nat.reduceEqDiff, Int.reduceToNat, Nat.reduceMul, Nat.reduceAdd, Nat.reduceBEq, isLd]
  refine gLoop_intro (fun m T G' => ∃ k : Nat, T 0 = .slice A xs.length c ∧ T 3 = .int .i64 k ∧ m + k = xs.length + 1 ∧ 1 ≤ k ∧ G' = G ∧ ∀ i, i + 1 < k → i + 1 < xs.length → xs.getD i 0 < xs.getD (i + 1) 0)
    xs.length ⟨1, by simp (maxSteps := 300000) (disch := omega) only [gs, gs2, gs3, gs4, ↓reduceIte, Nat.reduceEqDiff, Int.reduceToNat, Nat.reduceMul, Nat.reduceAdd, Nat.reduceBEq, isLd], by simp (maxSteps := 300000) (disch := omega) only [gs, gs2, gs3, gs4, ↓reduceIte, Nat.reduceEqDiff, Int.reduceToNat, Nat.reduceMul, Nat.reduceAdd, Nat.reduceBEq, isLd] <;> rfl, by omega, by omega, rfl, fun i hi => by omega⟩ ?_
  rintro m T G' ⟨k, e0, e3, hm, hkl, rfl, hri⟩
  simp (maxSteps := 300000) (disch := omega) only [gs, gs2, gs3, gs4, ↓reduceIte, Nat.reduceEqDiff, Int.reduceToNat, Nat.reduceMul, Nat.reduceAdd, Nat.reduceBEq, isLd, e0, e3]
  by_cases hkk : (k : Int) < xs.length
  · simp (maxSteps := 300000) (disch := omega) only [gs, gs2, gs3, gs4, ↓reduceIte, Nat.reduceEqDiff, Int.reduceToNat, Nat.reduceMul, Nat.reduceAdd, Nat.reduceBEq, isLd, e0, e3, hkk, r]
    by_cases g2 : xs.getD k 0 ≤ xs.getD ((k : Int) - 1).toNat 0
    · simp (maxSteps := 300000) (disch := omega) only [gs, gs2, gs3, gs4, ↓reduceIte, Nat.reduceEqDiff, Int.reduceToNat, Nat.reduceMul, Nat.reduceAdd, Nat.reduceBEq, isLd, e0, e3, hkk, g2, r]
      refine hk false ?_
      simp
      exact fun hx => by
        have := hx (k - 1) (by omega)
        rw [show k - 1 + 1 = k by omega, show k - 1 = ((k : Int) - 1).toNat by omega] at this
        omega
    · simp (maxSteps := 300000) (disch := omega) only [gs, gs2, gs3, gs4, ↓reduceIte, Nat.reduceEqDiff, Int.reduceToNat, Nat.reduceMul, Nat.reduceAdd, Nat.reduceBEq, isLd, e0, e3, hkk, g2, r]
      refine ⟨m - 1, by omega, _, Sub.refl _, k + 1, rfl, by omega, by omega, rfl, fun i hi hi' => ?_⟩
      by_cases hik : i + 1 = k
      · rw [hik, show i = ((k : Int) - 1).toNat by omega]; omega
      · exact hri i (by omega) hi'
  · simp (maxSteps := 300000) (disch := omega) only [gs, gs2, gs3, gs4, ↓reduceIte, Nat.reduceEqDiff, Int.reduceToNat, Nat.reduceMul, Nat.reduceAdd, Nat.reduceBEq, isLd, e0, e3, hkk]
    exact hk true (by simp; exact fun i hi => hri i (by omega) hi)
theorem impl_areElements_ok {G : GH} {A : Option Addr} {c : Nat} {xs : List Int} {p : Int} (h : IntS G A c xs) (hl : xs.length < 2 ^ 40) {K : Value → GH → Prop}
    (hk : ∀ b : Bool, (b = true ↔ InB xs 0 (IntKind.i64.wrap (p - 1))) → K (.bool b) G) : GC Try.prog 216 [.slice A xs.length c, .int .i64 p] G K := by
  refine GC_drop (c_impl_areElements_i (by simp) ?_)
  simp (maxSteps := 300000) (disch := omega) only [gs, gs2, gs3, gs4, ↓reduceIte, Nat.reduceEqDiff, Int.reduceToNat, Nat.reduceMul, Nat.reduceAdd, Nat.reduceBEq, isLd]
  intro b1 hb1
  simp (maxSteps := 300000) (disch := omega) only [gs, gs2, gs3, gs4, ↓reduceIte, Nat.reduceEqDiff, Int.reduceToNat, Nat.reduceMul, Nat.reduceAdd, Nat.reduceBEq, isLd]
  have s1 := Sub.put hb1 ⟨[.int .i64 p], true⟩
  refine slices_ContainsFunc_ok (fun n => !decide (0 ≤ n ∧ n ≤ IntKind.i64.wrap (p - 1))) (h.sub s1) hl (fun i hi K' hK' => ?_) ?_
  · simp (maxSteps := 300000) (disch := omega) only [gs, gs2, gs3, gs4, ↓reduceIte, Nat.reduceEqDiff, Int.reduceToNat, Nat.reduceMul, Nat.reduceAdd, Nat.reduceBEq, isLd]
    refine c_impl_areElements_fn1_i (by simp) ?_
    simp (maxSteps := 300000) (disch := omega) only [gs, gs2, gs3, gs4, ↓reduceIte, Nat.reduceEqDiff, Int.reduceToNat, Nat.reduceMul, Nat.reduceAdd, Nat.reduceBEq, isLd]
    refine impl_isElement_ok _ _ ?_
    simp (maxSteps := 300000) (disch := omega) only [gs, gs2, gs3, gs4, ↓reduceIte, Nat.reduceEqDiff, Int.reduceToNat, Nat.reduceMul, Nat.reduceAdd, Nat.reduceBEq, isLd]
    exact hK'
  · generalize hany : (xs.any fun n => !decide (0 ≤ n ∧ n ≤ IntKind.i64.wrap (p - 1))) = bb
    simp (maxSteps := 300000) (disch := omega) only [gs, gs2, gs3, gs4, ↓reduceIte, Nat.reduceEqDiff, Int.reduceToNat, Nat.reduceMul, Nat.reduceAdd, Nat.reduceBEq, isLd]
    refine ⟨G, s1, hk _ ?_⟩
    rw [inB_mem]
    cases bb
    · rw [List.any_eq_false] at hany
      simp
      exact fun x hx => by simpa using hany x hx
    · rw [List.any_eq_true] at hany
      obtain ⟨x, hx, hy⟩ := hany
      simp
      exact ⟨x, hx, fun h0 => by rcases (by simpa using hy : x < 0 ∨ IntKind.i64.wrap (p - 1) < x) with h | h <;> omega⟩
theorem slices_Index_ok {G : GH} {A : Option Addr} {c : Nat} {xs : List Int} {v : Int} (h : IntS G A c xs) (hl : xs.length < 2 ^ 40) {K : Value → GH → Prop}
    (hk : K (.int .i64 (idxI (fun x => decide (x = v)) xs)) G) : GC Try.prog 166 [.slice A xs.length c, .int .i64 v] G K := by
  refine c_slices_Index_int64_int64_i (by simp) ?_
  have hsn := h.sn
  have r := h.rd
  simp (maxSteps := 300000) (disch := omega) only [gs, gs2, gs3, gs4, ↓reduceIte, Nat.reduceEqDiff, Int.reduceToNat, Nat.reduceMul, Nat.reduceAdd, Nat.reduceBEq, isLd]
  refine gLoop_intro (fun m T G' => ∃ k : Nat, T 0 = .slice A xs.length c ∧ T 1 = .int .i64 v ∧ T 7 = .int .i64 xs.length ∧ T 8 = .int .i64 k ∧ m + k = xs.length ∧ k ≤ xs.length ∧ G' = G ∧ ∀ i, i < k → xs.getD i 0 ≠ v) xs.length
    ⟨0, by simp (maxSteps := 300000) (disch := omega) only [gs, gs2, gs3, gs4, ↓reduceIte, Nat.reduceEqDiff, Int.reduceToNat, Nat.reduceMul, Nat.reduceAdd, Nat.reduceBEq, isLd], by simp (maxSteps := 300000) (disch := omega) only [gs, gs2, gs3, gs4, ↓reduceIte, Nat.reduceEqDiff, Int.reduceToNat, Nat.reduceMul, Nat.reduceAdd, Nat.reduceBEq, isLd], by simp (maxSteps := 300000) (disch := omega) only [gs, gs2, gs3, gs4, ↓reduceIte, Nat.reduceEqDiff, Int.reduceToNat, Nat.reduceMul, Nat.reduceAdd, Nat.reduceBEq, isLd], by simp (maxSteps := 300000) (disch := omega) only [gs, gs2, gs3, gs4, ↓reduceIte, Nat.reduceEqDiff, Int.reduceToNat, Nat.reduceMul, Nat.reduceAdd, Nat.reduceBEq, isLd] <;> rfl, by omega, by omega, rfl, fun i hi => by omega⟩ ?_
  rintro m T G' ⟨k, e0, e1, e7, e8, hm, hkl, rfl, hin⟩
  simp (maxSteps := 300000) (disch := omega) only [gs, gs2, gs3, gs4, ↓reduceIte, Nat.reduceEqDiff, Int.reduceToNat, Nat.reduceMul, Nat.reduceAdd, Nat.reduceBEq, isLd, e0, e1, e7, e8]
  by_cases hkk : (k : Int) < xs.length
  · simp (maxSteps := 300000) (disch := omega) only [gs, gs2, gs3, gs4, ↓reduceIte, Nat.reduceEqDiff, Int.reduceToNat, Nat.reduceMul, Nat.reduceAdd, Nat.reduceBEq, isLd, e0, e1, e7, e8, hkk, r]
    by_cases g1 : v = xs.getD k 0
    · simp (maxSteps := 300000) (disch := omega) only [gs, gs2, gs3, gs4, ↓reduceIte, Nat.reduceEqDiff, Int.reduceToNat, Nat.reduceMul, Nat.reduceAdd, Nat.reduceBEq, isLd, eq_true g1, e0, e1, e7, e8]
      rw [idxI_some (k := k) (by omega) (decide_eq_true g1.symm) (fun i hi => decide_eq_false (hin i hi))] at hk; exact hk
    · rw [decide_eq_false g1]
      simp (maxSteps := 300000) (disch := omega) only [gs, gs2, gs3, gs4, ↓reduceIte, Nat.reduceEqDiff, Int.reduceToNat, Nat.reduceMul, Nat.reduceAdd, Nat.reduceBEq, isLd, e0, e1, e7, e8]
      refine ⟨m - 1, by omega, _, Sub.refl _, k + 1, rfl, by omega, by omega, rfl, fun i hi => ?_⟩
      by_cases hik : i = k
      · subst hik; exact fun h => g1 h.symm
      · exact hin i (by omega)
  · simp (maxSteps := 300000) (disch := omega) only [gs, gs2, gs3, gs4, ↓reduceIte, Nat.reduceEqDiff, Int.reduceToNat, Nat.reduceMul, Nat.reduceAdd, Nat.reduceBEq, isLd, e0, e1, e7, e8, hkk]
    rw [idxI_none (fun i hi => decide_eq_false (hin i (by omega)))] at hk; exact hk
theorem idxI_mem {xs : List Int} {v : Int} : 0 ≤ idxI (fun x => decide (x = v)) xs ↔ v ∈ xs := by
  unfold idxI
  cases hi : xs.findIdx? fun x => decide (x = v) with
  | none =>
    rw [List.findIdx?_eq_none_iff] at hi
    simp
    intro hx
    simpa using hi v hx
  | some i =>
    rw [List.findIdx?_eq_some_iff_getElem] at hi
    obtain ⟨h1, h2, _⟩ := hi
    simp at h2
    simp
    rw [← h2]; exact List.getElem_mem h1
theorem slices_Contains_ok {G : GH} {A : Option Addr} {c : Nat} {xs : List Int} {v : Int} (h : IntS G A c xs) (hl : xs.length < 2 ^ 40) {K : Value → GH → Prop}
    (hk : ∀ b : Bool, (b = true ↔ v ∈ xs) → K (.bool b) G) : GC Try.prog 137 [.slice A xs.length c, .int .i64 v] G K := by
  refine c_slices_Contains_int64_int64_i (by simp) ?_
  simp (maxSteps := 300000) (disch := omega) only [gs, gs2, gs3, gs4, ↓reduceIte, Nat.reduceEqDiff, Int.reduceToNat, Nat.reduceMul, Nat.reduceAdd, Nat.reduceBEq, isLd]
  refine slices_Index_ok h hl ?_
  simp (maxSteps := 300000) (disch := omega) only [gs, gs2, gs3, gs4, ↓reduceIte, Nat.reduceEqDiff, Int.reduceToNat, Nat.reduceMul, Nat.reduceAdd, Nat.reduceBEq, isLd]
  exact hk _ (by rw [decide_eq_true_eq]; exact idxI_mem)
def okEdge (n : Int) (e : T3) : Prop := 0 ≤ e.1 ∧ e.1 < e.2.1 ∧ e.2.1 < n ∧ (1 ≤ e.2.2 ∧ e.2.2 ≤ 9)
/-- a valid graph. -/
def GraOk (g : Gra) : Prop := (1 ≤ g.n ∧ g.n ≤ 12) ∧ (∀ i, i < g.edges.length → okEdge g.n (g.edges.getD i z3)) ∧ (∀ i, i + 1 < g.edges.length → ltArc (g.edges.getD i z3) (g.edges.getD (i + 1) z3)) ∧ g.edges.length ≤ 24
/-- a pointer to a graph. -/
structure GraP (G : GH) (q : Option Addr) (N : Gra) (A : Option Addr) (c : Nat) : Prop where
  f0 : rd G q = some (.int .i64 N.n)
  f1 : rd G (pa q 1) = some (.slice A N.edges.length c)
  edges : T3S G A c N.edges
theorem GraP.sub {G G' : GH} {q : Option Addr} {N : Gra} {A : Option Addr} {c : Nat} (h : GraP G q N A c) (s : Sub G G') : GraP G' q N A c := ⟨rd_sub s h.f0, rd_sub s h.f1, h.edges.sub s⟩
theorem GraP.box {G : GH} {b : Nat} (hb : G b = none) {N : Gra} {A : Option Addr} {c : Nat} (h : T3S G A c N.edges) : GraP (put G b ⟨graC N A c, true⟩) (some ⟨b, 0, none⟩) N A c :=
  ⟨by rw [rd_put]; rfl, by rw [pa_mk, rd_put]; rfl, h.sub (Sub.put hb _)⟩
theorem impl_compareEdges_ok {G : GH} (e f : T3) {K : Value → GH → Prop} (hk : ∀ c : Int, (0 ≤ c ↔ ¬ ltArc e f) → K (.int .i64 c) G) : GC Try.prog 217 [V3 e, V3 f] G K := by
  refine GC_drop (c_impl_compareEdges_i (by simp) ?_)
  unfold V3 c3
  simp (maxSteps := 300000) (disch := omega) only [gs, gs2, gs3, gs4, ↓reduceIte, Nat.reduceEqDiff, Int.reduceToNat, Nat.reduceMul, Nat.reduceAdd, Nat.reduceBEq, isLd]
  intro b1 hb1
  simp (maxSteps := 300000) (disch := omega) only [gs, gs2, gs3, gs4, ↓reduceIte, Nat.reduceEqDiff, Int.reduceToNat, Nat.reduceMul, Nat.reduceAdd, Nat.reduceBEq, isLd]
  intro b2 hb2
  simp only [put_none] at hb2
  obtain ⟨n12, f2⟩ := hb2
  have s2 := ((Sub.refl G).skip hb1 (e := ⟨c3 e, true⟩)).skip f2 (e := ⟨c3 f, true⟩)
  unfold c3 at s2
  simp (maxSteps := 300000) (disch := omega) only [gs, gs2, gs3, gs4, ↓reduceIte, Nat.reduceEqDiff, Int.reduceToNat, Nat.reduceMul, Nat.reduceAdd, Nat.reduceBEq, isLd]
  refine cmp_Compare_ok _ _ ?_
  simp (maxSteps := 300000) (disch := omega) only [gs, gs2, gs3, gs4, ↓reduceIte, Nat.reduceEqDiff, Int.reduceToNat, Nat.reduceMul, Nat.reduceAdd, Nat.reduceBEq, isLd]
  refine cmp_Compare_ok _ _ ?_
  simp (maxSteps := 300000) (disch := omega) only [gs, gs2, gs3, gs4, ↓reduceIte, Nat.reduceEqDiff, Int.reduceToNat, Nat.reduceMul, Nat.reduceAdd, Nat.reduceBEq, isLd, gBs]
  refine ⟨by intro v hv; simp at hv; rcases hv with rfl | rfl <;> rfl, fun b5 hb5 => ?_⟩
  have q5 := hb5
  simp only [put_none] at q5
  have s5 := Sub.put hb5 ⟨[.int .i64 (cmp3 e.1 f.1), .int .i64 (cmp3 e.2.1 f.2.1)], true⟩
  simp only [List.flatMap_cons, List.flatMap_nil, cells_int, List.append_nil, List.cons_append, List.nil_append]
  simp (maxSteps := 300000) (disch := omega) only [gs, gs2, gs3, gs4, ↓reduceIte, Nat.reduceEqDiff, Int.reduceToNat, Nat.reduceMul, Nat.reduceAdd, Nat.reduceBEq, isLd]
  refine cmp_Or_ok (cmp3 e.1 f.1) (cmp3 e.2.1 f.2.1) (by simp (maxSteps := 300000) (disch := omega) only [gs, gs2, gs3, gs4, ↓reduceIte, Nat.reduceEqDiff, Int.reduceToNat, Nat.reduceMul, Nat.reduceAdd, Nat.reduceBEq, isLd]) (by simp (maxSteps := 300000) (disch := omega) only [gs, gs2, gs3, gs4, ↓reduceIte, Nat.reduceEqDiff, Int.reduceToNat, Nat.reduceMul, Nat.reduceAdd, Nat.reduceBEq, isLd]) ?_
  simp (maxSteps := 300000) (disch := omega) only [gs, gs2, gs3, gs4, ↓reduceIte, Nat.reduceEqDiff, Int.reduceToNat, Nat.reduceMul, Nat.reduceAdd, Nat.reduceBEq, isLd]
  exact ⟨G, s2.trans s5, hk _ (cmp_lt e f)⟩
theorem impl_ValidGraph_ok {G : GH} {N : Gra} {A : Option Addr} {c : Nat} (h : T3S G A c N.edges) (hl : N.edges.length < 2 ^ 40) {K : Value → GH → Prop}
    (hk : ∀ b : Bool, (b = true ↔ GraOk N) → K (.bool b) G) : GC Try.prog 141 [graV N A c] G K := by
  refine GC_drop (c_impl_ValidGraph_i (by simp) ?_)
  unfold graV graC
  simp (maxSteps := 300000) (disch := omega) only [gs, gs2, gs3, gs4, ↓reduceIte, Nat.reduceEqDiff, Int.reduceToNat, Nat.reduceMul, Nat.reduceAdd, Nat.reduceBEq, isLd]
  intro b1 hb1
  simp (maxSteps := 300000) (disch := omega) only [gs, gs2, gs3, gs4, ↓reduceIte, Nat.reduceEqDiff, Int.reduceToNat, Nat.reduceMul, Nat.reduceAdd, Nat.reduceBEq, isLd]
  have s1 := Sub.put hb1 ⟨[.int .i64 N.n, .slice A N.edges.length c], true⟩
  have f0 : rd (put G b1 ⟨[.int .i64 N.n, .slice A N.edges.length c], true⟩) (some ⟨b1, 0, none⟩) = some (.int .i64 N.n) := rd_box _ _ _ 0 _ rfl
  have f1 : rd (put G b1 ⟨[.int .i64 N.n, .slice A N.edges.length c], true⟩) (some ⟨b1, 1, none⟩) = some (.slice A N.edges.length c) := rd_box _ _ _ 1 _ rfl
  revert s1 f0 f1
  generalize put G b1 ⟨[.int .i64 N.n, .slice A N.edges.length c], true⟩ = G1
  intro s1 f0 f1
  have hno : ¬ GraOk N → ∀ G2, Sub G1 G2 → ∃ G'', Sub G'' G2 ∧ K (.bool false) G'' := fun hx G2 s2 => ⟨G, s1.trans s2, hk false (by simp [hx])⟩
  refine gLoop_intro (fun m T G' => ∃ k : Nat, T 1 = .pointer (some ⟨b1, 0, none⟩) ∧ T 6 = .slice A N.edges.length c ∧ T 7 = .int .i64 N.edges.length ∧ T 8 = .int .i64 k ∧ m + k = N.edges.length ∧ k ≤ N.edges.length ∧ G' = G1 ∧
    (∀ i, i < k → okEdge N.n (N.edges.getD i z3)) ∧ ∀ i, i + 1 < k → ltArc (N.edges.getD i z3) (N.edges.getD (i + 1) z3)) N.edges.length
    ⟨0, by simp (maxSteps := 300000) (disch := omega) only [gs, gs2, gs3, gs4, ↓reduceIte, Nat.reduceEqDiff, Int.reduceToNat, Nat.reduceMul, Nat.reduceAdd, Nat.reduceBEq, isLd], by simp (maxSteps := 300000) (disch := omega) only [gs, gs2, gs3, gs4, ↓reduceIte, Nat.reduceEqDiff, Int.reduceToNat, Nat.reduceMul, Nat.reduceAdd, Nat.reduceBEq, isLd], by simp (maxSteps := 300000) (disch := omega) only [gs, gs2, gs3, gs4, ↓reduceIte, Nat.reduceEqDiff, Int.reduceToNat, Nat.reduceMul, Nat.reduceAdd, Nat.reduceBEq, isLd], by simp (maxSteps := 300000) (disch := omega) only [gs, gs2, gs3, gs4, ↓reduceIte, Nat.reduceEqDiff, Int.reduceToNat, Nat.reduceMul, Nat.reduceAdd, Nat.reduceBEq, isLd] <;> rfl, by omega, by omega, rfl, fun i hi => by omega, fun i hi => by omega⟩ ?_
  rintro m T G' ⟨k, e1, e6, e7, e8, hm, hkl, rfl, hok, hlt⟩
  have hh := h.sub s1
  have hsn := hh.sn
  have p0 := hh.r0
  have p1 := hh.r1
  have p2 := hh.r2
  simp (maxSteps := 300000) (disch := omega) only [gs, gs2, gs3, gs4, ↓reduceIte, Nat.reduceEqDiff, Int.reduceToNat, Nat.reduceMul, Nat.reduceAdd, Nat.reduceBEq, isLd, e1, e6, e7, e8]
  by_cases hkk : (k : Int) < N.edges.length
  · simp (maxSteps := 300000) (disch := omega) only [gs, gs2, gs3, gs4, ↓reduceIte, Nat.reduceEqDiff, Int.reduceToNat, Nat.reduceMul, Nat.reduceAdd, Nat.reduceBEq, isLd, e1, e6, e7, e8, hkk, p0, p1, p2]
    intro b4 hb4
    simp (maxSteps := 300000) (disch := omega) only [gs, gs2, gs3, gs4, ↓reduceIte, Nat.reduceEqDiff, Int.reduceToNat, Nat.reduceMul, Nat.reduceAdd, Nat.reduceBEq, isLd, e1, e6, e7, e8]
    refine st_many (vs := c3 (N.edges.getD k z3)) rfl (put_same _ _ _) rfl (by simp) (c3_one _) ?_
    have s4 := Sub.put hb4 ⟨c3 (N.edges.getD k z3), true⟩
    have hh4 := hh.sub s4
    have o0 := hh4.r0
    have o1 := hh4.r1
    have o2 := hh4.r2
    have u0 := rd_sub s4 f0
    have u1 := rd_sub s4 f1
    have hno' : ¬ okEdge N.n (N.edges.getD k z3) → ¬ GraOk N := fun h1 h2 => h1 (h2.2.1 k (by omega))
    unfold c3 at s4 o0 o1 o2 u0 u1 ⊢
    simp (maxSteps := 300000) (disch := omega) only [gs, gs2, gs3, gs4, ↓reduceIte, Nat.reduceEqDiff, Int.reduceToNat, Nat.reduceMul, Nat.reduceAdd, Nat.reduceBEq, isLd, over, e1, e6, e7, e8, o0, o1, o2, u0, u1]
    by_cases q1 : (N.edges.getD k z3).1 < 0
    · simp (maxSteps := 300000) (disch := omega) only [gs, gs2, gs3, gs4, ↓reduceIte, Nat.reduceEqDiff, Int.reduceToNat, Nat.reduceMul, Nat.reduceAdd, Nat.reduceBEq, isLd, q1, e1, e6, e7, e8, o0, o1, o2, u0, u1]
      exact hno (hno' fun hx => by have := hx.1; omega) _ s4
    simp (maxSteps := 300000) (disch := omega) only [gs, gs2, gs3, gs4, ↓reduceIte, Nat.reduceEqDiff, Int.reduceToNat, Nat.reduceMul, Nat.reduceAdd, Nat.reduceBEq, isLd, q1, e1, e6, e7, e8, o0, o1, o2, u0, u1]
    by_cases q2 : (N.edges.getD k z3).2.1 ≤ (N.edges.getD k z3).1
    · simp (maxSteps := 300000) (disch := omega) only [gs, gs2, gs3, gs4, ↓reduceIte, Nat.reduceEqDiff, Int.reduceToNat, Nat.reduceMul, Nat.reduceAdd, Nat.reduceBEq, isLd, q2, e1, e6, e7, e8, o0, o1, o2, u0, u1]
      exact hno (hno' fun hx => by have := hx.2.1; omega) _ s4
    simp (maxSteps := 300000) (disch := omega) only [gs, gs2, gs3, gs4, ↓reduceIte, Nat.reduceEqDiff, Int.reduceToNat, Nat.reduceMul, Nat.reduceAdd, Nat.reduceBEq, isLd, q2, e1, e6, e7, e8, o0, o1, o2, u0, u1]
    by_cases q3 : N.n ≤ (N.edges.getD k z3).2.1
    · simp (maxSteps := 300000) (disch := omega) only [gs, gs2, gs3, gs4, ↓reduceIte, Nat.reduceEqDiff, Int.reduceToNat, Nat.reduceMul, Nat.reduceAdd, Nat.reduceBEq, isLd, q3, e1, e6, e7, e8, o0, o1, o2, u0, u1]
      exact hno (hno' fun hx => by have := hx.2.2.1; omega) _ s4
    simp (maxSteps := 300000) (disch := omega) only [gs, gs2, gs3, gs4, ↓reduceIte, Nat.reduceEqDiff, Int.reduceToNat, Nat.reduceMul, Nat.reduceAdd, Nat.reduceBEq, isLd, q3, e1, e6, e7, e8, o0, o1, o2, u0, u1]
    refine impl_within_ok _ _ _ ?_
    simp (maxSteps := 300000) (disch := omega) only [gs, gs2, gs3, gs4, ↓reduceIte, Nat.reduceEqDiff, Int.reduceToNat, Nat.reduceMul, Nat.reduceAdd, Nat.reduceBEq, isLd, e1, e6, e7, e8, o0, o1, o2, u0, u1]
    cases q4 : decide (1 ≤ (N.edges.getD k z3).2.2 ∧ (N.edges.getD k z3).2.2 ≤ 9)
    · simp (maxSteps := 300000) (disch := omega) only [gs, gs2, gs3, gs4, ↓reduceIte, Nat.reduceEqDiff, Int.reduceToNat, Nat.reduceMul, Nat.reduceAdd, Nat.reduceBEq, isLd, e1, e6, e7, e8, o0, o1, o2, u0, u1]
      have q4 := of_decide_eq_false q4
      exact hno (hno' fun hx => q4 hx.2.2.2) _ s4
    have q4 := of_decide_eq_true q4
    have hok' : ∀ i, i < k + 1 → okEdge N.n (N.edges.getD i z3) := fun i hi => by
      by_cases hik : i = k
      · subst hik; exact ⟨by omega, by omega, by omega, q4⟩
      · exact hok i (by omega)
    simp (maxSteps := 300000) (disch := omega) only [gs, gs2, gs3, gs4, ↓reduceIte, Nat.reduceEqDiff, Int.reduceToNat, Nat.reduceMul, Nat.reduceAdd, Nat.reduceBEq, isLd, e1, e6, e7, e8, o0, o1, o2, u0, u1]
    by_cases hk0 : (0 : Int) < k
    · simp (maxSteps := 300000) (disch := omega) only [gs, gs2, gs3, gs4, ↓reduceIte, Nat.reduceEqDiff, Int.reduceToNat, Nat.reduceMul, Nat.reduceAdd, Nat.reduceBEq, isLd, hk0, e1, e6, e7, e8, o0, o1, o2, u0, u1]
      refine impl_compareEdges_ok (N.edges.getD ((k : Int) - 1).toNat z3) (N.edges.getD k z3) fun cc hcc => ?_
      simp (maxSteps := 300000) (disch := omega) only [gs, gs2, gs3, gs4, ↓reduceIte, Nat.reduceEqDiff, Int.reduceToNat, Nat.reduceMul, Nat.reduceAdd, Nat.reduceBEq, isLd, e1, e6, e7, e8, o0, o1, o2, u0, u1]
      by_cases hc : 0 ≤ cc
      · simp (maxSteps := 300000) (disch := omega) only [gs, gs2, gs3, gs4, ↓reduceIte, Nat.reduceEqDiff, Int.reduceToNat, Nat.reduceMul, Nat.reduceAdd, Nat.reduceBEq, isLd, hc, e1, e6, e7, e8, o0, o1, o2, u0, u1]
        exact hno (fun hx => (hcc.1 hc) (by have := hx.2.2.1 (k - 1) (by omega); rwa [show k - 1 + 1 = k by omega, show k - 1 = ((k : Int) - 1).toNat by omega] at this)) _ s4
      · simp (maxSteps := 300000) (disch := omega) only [gs, gs2, gs3, gs4, ↓reduceIte, Nat.reduceEqDiff, Int.reduceToNat, Nat.reduceMul, Nat.reduceAdd, Nat.reduceBEq, isLd, hc, e1, e6, e7, e8, o0, o1, o2, u0, u1]
        have hl' : ltArc (N.edges.getD ((k : Int) - 1).toNat z3) (N.edges.getD k z3) := Classical.byContradiction fun hn => hc (hcc.2 hn)
        refine ⟨m - 1, by omega, _, s4, k + 1, rfl, by omega, by omega, rfl, hok', fun i hi => ?_⟩
        by_cases hik : i + 1 = k
        · rw [hik, show i = ((k : Int) - 1).toNat by omega]; exact hl'
        · exact hlt i (by omega)
    · simp (maxSteps := 300000) (disch := omega) only [gs, gs2, gs3, gs4, ↓reduceIte, Nat.reduceEqDiff, Int.reduceToNat, Nat.reduceMul, Nat.reduceAdd, Nat.reduceBEq, isLd, hk0, e1, e6, e7, e8, o0, o1, o2, u0, u1]
      exact ⟨m - 1, by omega, _, s4, k + 1, rfl, by omega, by omega, rfl, hok', fun i hi => by omega⟩
  · simp (maxSteps := 300000) (disch := omega) only [gs, gs2, gs3, gs4, ↓reduceIte, Nat.reduceEqDiff, Int.reduceToNat, Nat.reduceMul, Nat.reduceAdd, Nat.reduceBEq, isLd, e1, e6, e7, e8, hkk, f0]
    refine impl_within_ok _ _ _ ?_
    simp (maxSteps := 300000) (disch := omega) only [gs, gs2, gs3, gs4, ↓reduceIte, Nat.reduceEqDiff, Int.reduceToNat, Nat.reduceMul, Nat.reduceAdd, Nat.reduceBEq, isLd, e1, e6, e7, e8, f0, f1]
    cases g1 : decide (1 ≤ N.n ∧ N.n ≤ 12)
    · simp (maxSteps := 300000) (disch := omega) only [gs, gs2, gs3, gs4, ↓reduceIte, Nat.reduceEqDiff, Int.reduceToNat, Nat.reduceMul, Nat.reduceAdd, Nat.reduceBEq, isLd, e1]
      have g1 := of_decide_eq_false g1
      exact hno (fun hx => g1 hx.1) _ (Sub.refl _)
    · have g1 := of_decide_eq_true g1
      simp (maxSteps := 300000) (disch := omega) only [gs, gs2, gs3, gs4, ↓reduceIte, Nat.reduceEqDiff, Int.reduceToNat, Nat.reduceMul, Nat.reduceAdd, Nat.reduceBEq, isLd, e1, f1]
      refine ⟨G, s1, hk _ ?_⟩
      rw [decide_eq_true_eq]
      exact ⟨fun hx => ⟨g1, fun i hi => hok i (by omega), fun i hi => hlt i (by omega), by omega⟩, fun hx => by have := hx.2.2.2; omega⟩
theorem spec_l16Ok_ok {G : GH} {q : Option Addr} {N : Gra} {A : Option Addr} {c : Nat} (h : GraP G q N A c) (hl : N.edges.length < 2 ^ 40) {K : Value → GH → Prop}
    (hk : ∀ b : Bool, (b = true ↔ GraOk N) → K (.bool b) G) : GC Try.prog 138 [.pointer q] G K := by
  refine GC_drop (c_spec_l16Ok_i (by simp) ?_)
  have hq := rd_some h.f0
  have f0 := h.f0
  have f1 := h.f1
  have hno : ¬ GraOk N → ∀ G2, Sub G G2 → ∃ G'', Sub G'' G2 ∧ K (.bool false) G'' := fun hx G2 s2 => ⟨G, s2, hk false (by simp [hx])⟩
  simp (maxSteps := 300000) (disch := omega) only [gs, gs2, gs3, gs4, ↓reduceIte, Nat.reduceEqDiff, Int.reduceToNat, Nat.reduceMul, Nat.reduceAdd, Nat.reduceBEq, isLd, f0]
  refine spec_l00In_ok _ _ _ ?_
  simp (maxSteps := 300000) (disch := omega) only [gs, gs2, gs3, gs4, ↓reduceIte, Nat.reduceEqDiff, Int.reduceToNat, Nat.reduceMul, Nat.reduceAdd, Nat.reduceBEq, isLd, f0]
  cases g1 : decide (1 ≤ N.n ∧ N.n ≤ 12)
  · simp (maxSteps := 300000) (disch := omega) only [gs, gs2, gs3, gs4, ↓reduceIte, Nat.reduceEqDiff, Int.reduceToNat, Nat.reduceMul, Nat.reduceAdd, Nat.reduceBEq, isLd, f0]
    have g1 := of_decide_eq_false g1
    exact hno (fun hx => g1 hx.1) _ (Sub.refl _)
  have g1 := of_decide_eq_true g1
  simp (maxSteps := 300000) (disch := omega) only [gs, gs2, gs3, gs4, ↓reduceIte, Nat.reduceEqDiff, Int.reduceToNat, Nat.reduceMul, Nat.reduceAdd, Nat.reduceBEq, isLd, f0]
  refine gLoop_intro (fun m T G' => ∃ k : Nat, T 0 = .pointer q ∧ T 3 = .int .i64 k ∧ m + k = N.edges.length ∧ k ≤ N.edges.length ∧ G' = G ∧
    (∀ i, i < k → okEdge N.n (N.edges.getD i z3)) ∧ ∀ i, i + 1 < k → ltArc (N.edges.getD i z3) (N.edges.getD (i + 1) z3)) N.edges.length
    ⟨0, by simp (maxSteps := 300000) (disch := omega) only [gs, gs2, gs3, gs4, ↓reduceIte, Nat.reduceEqDiff, Int.reduceToNat, Nat.reduceMul, Nat.reduceAdd, Nat.reduceBEq, isLd], by simp (maxSteps := 300000) (disch := omega) only [gs, gs2, gs3, gs4, ↓reduceIte, Nat.reduceEqDiff, Int.reduceToNat, Nat.reduceMul, Nat.reduceAdd, Nat.reduceBEq, isLd] <;> rfl, by omega, by omega, rfl, fun i hi => by omega, fun i hi => by omega⟩ ?_
  rintro m T G' ⟨k, e0, e3, hm, hkl, rfl, hok, hlt⟩
  have hsn := h.edges.sn
  have p0 := h.edges.r0
  have p1 := h.edges.r1
  have p2 := h.edges.r2
  simp (maxSteps := 300000) (disch := omega) only [gs, gs2, gs3, gs4, ↓reduceIte, Nat.reduceEqDiff, Int.reduceToNat, Nat.reduceMul, Nat.reduceAdd, Nat.reduceBEq, isLd, e0, e3, f1]
  by_cases hkk : (k : Int) < N.edges.length
  · simp (maxSteps := 300000) (disch := omega) only [gs, gs2, gs3, gs4, ↓reduceIte, Nat.reduceEqDiff, Int.reduceToNat, Nat.reduceMul, Nat.reduceAdd, Nat.reduceBEq, isLd, e0, e3, f1, hkk, p0, p1, p2]
    intro b4 hb4
    have s4 := Sub.put hb4 ⟨c3 (N.edges.getD k z3), true⟩
    simp (maxSteps := 300000) (disch := omega) only [gs, gs2, gs3, gs4, ↓reduceIte, Nat.reduceEqDiff, Int.reduceToNat, Nat.reduceMul, Nat.reduceAdd, Nat.reduceBEq, isLd, e0, e3]
    refine st_many (vs := c3 (N.edges.getD k z3)) rfl (put_same _ _ _) rfl (by simp) (c3_one _) ?_
    have h4 := h.sub s4
    have o0 := h4.edges.r0
    have o1 := h4.edges.r1
    have o2 := h4.edges.r2
    have u0 := h4.f0
    have u1 := h4.f1
    have hno' : ¬ okEdge N.n (N.edges.getD k z3) → ¬ GraOk N := fun h1 h2 => h1 (h2.2.1 k (by omega))
    clear p0 p1 p2 h4
    unfold c3 at s4 o0 o1 o2 u0 u1 ⊢
    simp (maxSteps := 300000) (disch := omega) only [gs, gs2, gs3, gs4, ↓reduceIte, Nat.reduceEqDiff, Int.reduceToNat, Nat.reduceMul, Nat.reduceAdd, Nat.reduceBEq, isLd, over, e0, e3, u0, u1, o0, o1, o2]
    refine spec_l00In_ok _ _ _ ?_
    simp (maxSteps := 300000) (disch := omega) only [gs, gs2, gs3, gs4, ↓reduceIte, Nat.reduceEqDiff, Int.reduceToNat, Nat.reduceMul, Nat.reduceAdd, Nat.reduceBEq, isLd, e0, e3, u0, u1, o0, o1, o2]
    cases q1 : decide (0 ≤ (N.edges.getD k z3).2.1 ∧ (N.edges.getD k z3).2.1 ≤ N.n - 1)
    · simp (maxSteps := 300000) (disch := omega) only [gs, gs2, gs3, gs4, ↓reduceIte, Nat.reduceEqDiff, Int.reduceToNat, Nat.reduceMul, Nat.reduceAdd, Nat.reduceBEq, isLd, e0, e3, u0, u1, o0, o1, o2]
      have q1 := of_decide_eq_false q1
      exact hno (hno' fun hx => q1 (by have := hx.1; have := hx.2.1; have := hx.2.2.1; omega)) _ s4
    have q1 := of_decide_eq_true q1
    simp (maxSteps := 300000) (disch := omega) only [gs, gs2, gs3, gs4, ↓reduceIte, Nat.reduceEqDiff, Int.reduceToNat, Nat.reduceMul, Nat.reduceAdd, Nat.reduceBEq, isLd, e0, e3, u0, u1, o0, o1, o2]
    refine spec_l00In_ok _ _ _ ?_
    simp (maxSteps := 300000) (disch := omega) only [gs, gs2, gs3, gs4, ↓reduceIte, Nat.reduceEqDiff, Int.reduceToNat, Nat.reduceMul, Nat.reduceAdd, Nat.reduceBEq, isLd, e0, e3, u0, u1, o0, o1, o2]
    cases q2 : decide (0 ≤ (N.edges.getD k z3).1 ∧ (N.edges.getD k z3).1 ≤ (N.edges.getD k z3).2.1 - 1)
    · simp (maxSteps := 300000) (disch := omega) only [gs, gs2, gs3, gs4, ↓reduceIte, Nat.reduceEqDiff, Int.reduceToNat, Nat.reduceMul, Nat.reduceAdd, Nat.reduceBEq, isLd, e0, e3, u0, u1, o0, o1, o2]
      have q2 := of_decide_eq_false q2
      exact hno (hno' fun hx => q2 (by have := hx.1; have := hx.2.1; omega)) _ s4
    have q2 := of_decide_eq_true q2
    simp (maxSteps := 300000) (disch := omega) only [gs, gs2, gs3, gs4, ↓reduceIte, Nat.reduceEqDiff, Int.reduceToNat, Nat.reduceMul, Nat.reduceAdd, Nat.reduceBEq, isLd, e0, e3, u0, u1, o0, o1, o2]
    refine spec_l00In_ok _ _ _ ?_
    simp (maxSteps := 300000) (disch := omega) only [gs, gs2, gs3, gs4, ↓reduceIte, Nat.reduceEqDiff, Int.reduceToNat, Nat.reduceMul, Nat.reduceAdd, Nat.reduceBEq, isLd, e0, e3, u0, u1, o0, o1, o2]
    cases q4 : decide (1 ≤ (N.edges.getD k z3).2.2 ∧ (N.edges.getD k z3).2.2 ≤ 9)
    · simp (maxSteps := 300000) (disch := omega) only [gs, gs2, gs3, gs4, ↓reduceIte, Nat.reduceEqDiff, Int.reduceToNat, Nat.reduceMul, Nat.reduceAdd, Nat.reduceBEq, isLd, e0, e3, u0, u1, o0, o1, o2]
      have q4 := of_decide_eq_false q4
      exact hno (hno' fun hx => q4 hx.2.2.2) _ s4
    have q4 := of_decide_eq_true q4
    have hok' : ∀ i, i < k + 1 → okEdge N.n (N.edges.getD i z3) := fun i hi => by
      by_cases hik : i = k
      · subst hik; exact ⟨by omega, by omega, by omega, q4⟩
      · exact hok i (by omega)
    simp (maxSteps := 300000) (disch := omega) only [gs, gs2, gs3, gs4, ↓reduceIte, Nat.reduceEqDiff, Int.reduceToNat, Nat.reduceMul, Nat.reduceAdd, Nat.reduceBEq, isLd, e0, e3, u0, u1, o0, o1, o2]
    by_cases hk0 : (0 : Int) < k
    · simp (maxSteps := 300000) (disch := omega) only [gs, gs2, gs3, gs4, ↓reduceIte, Nat.reduceEqDiff, Int.reduceToNat, Nat.reduceMul, Nat.reduceAdd, Nat.reduceBEq, isLd, hk0, e0, e3, u0, u1, o0, o1, o2]
      have hord : ¬ ltArc (N.edges.getD ((k : Int) - 1).toNat z3) (N.edges.getD k z3) → ¬ GraOk N := fun hnl hn =>
        hnl (by have := hn.2.2.1 (k - 1) (by omega); rwa [show k - 1 + 1 = k by omega, show k - 1 = ((k : Int) - 1).toNat by omega] at this)
      have hgo : ltArc (N.edges.getD ((k : Int) - 1).toNat z3) (N.edges.getD k z3) → ∀ i, i + 1 < k + 1 → ltArc (N.edges.getD i z3) (N.edges.getD (i + 1) z3) := fun hl' i hi => by
        by_cases hik : i + 1 = k
        · rw [hik, show i = ((k : Int) - 1).toNat by omega]; exact hl'
        · exact hlt i (by omega)
      by_cases v1 : (N.edges.getD k z3).1 < (N.edges.getD ((k : Int) - 1).toNat z3).1
      · simp (maxSteps := 300000) (disch := omega) only [gs, gs2, gs3, gs4, ↓reduceIte, Nat.reduceEqDiff, Int.reduceToNat, Nat.reduceMul, Nat.reduceAdd, Nat.reduceBEq, isLd, v1, e0, e3, u0, u1, o0, o1, o2]
        exact hno (hord (by unfold ltArc; omega)) _ s4
      simp (maxSteps := 300000) (disch := omega) only [gs, gs2, gs3, gs4, ↓reduceIte, Nat.reduceEqDiff, Int.reduceToNat, Nat.reduceMul, Nat.reduceAdd, Nat.reduceBEq, isLd, v1, e0, e3, u0, u1, o0, o1, o2]
      by_cases v2 : (N.edges.getD ((k : Int) - 1).toNat z3).1 = (N.edges.getD k z3).1
      · rw [show decide ((N.edges.getD ((k : Int) - 1).toNat z3).1 = (N.edges.getD k z3).1) = true from decide_eq_true v2]
        simp (maxSteps := 300000) (disch := omega) only [gs, gs2, gs3, gs4, ↓reduceIte, Nat.reduceEqDiff, Int.reduceToNat, Nat.reduceMul, Nat.reduceAdd, Nat.reduceBEq, isLd, e0, e3, u0, u1, o0, o1, o2]
        by_cases v3 : (N.edges.getD k z3).2.1 ≤ (N.edges.getD ((k : Int) - 1).toNat z3).2.1
        · simp (maxSteps := 300000) (disch := omega) only [gs, gs2, gs3, gs4, ↓reduceIte, Nat.reduceEqDiff, Int.reduceToNat, Nat.reduceMul, Nat.reduceAdd, Nat.reduceBEq, isLd, v3, e0, e3, u0, u1, o0, o1, o2]
          exact hno (hord (by unfold ltArc; omega)) _ s4
        · simp (maxSteps := 300000) (disch := omega) only [gs, gs2, gs3, gs4, ↓reduceIte, Nat.reduceEqDiff, Int.reduceToNat, Nat.reduceMul, Nat.reduceAdd, Nat.reduceBEq, isLd, v3, e0, e3, u0, u1, o0, o1, o2]
          exact ⟨m - 1, by omega, _, s4, k + 1, rfl, by omega, by omega, rfl, hok', hgo (by unfold ltArc; omega)⟩
      · rw [show decide ((N.edges.getD ((k : Int) - 1).toNat z3).1 = (N.edges.getD k z3).1) = false from decide_eq_false v2]
        simp (maxSteps := 300000) (disch := omega) only [gs, gs2, gs3, gs4, ↓reduceIte, Nat.reduceEqDiff, Int.reduceToNat, Nat.reduceMul, Nat.reduceAdd, Nat.reduceBEq, isLd, e0, e3, u0, u1, o0, o1, o2]
        exact ⟨m - 1, by omega, _, s4, k + 1, rfl, by omega, by omega, rfl, hok', hgo (by unfold ltArc; omega)⟩
    · simp (maxSteps := 300000) (disch := omega) only [gs, gs2, gs3, gs4, ↓reduceIte, Nat.reduceEqDiff, Int.reduceToNat, Nat.reduceMul, Nat.reduceAdd, Nat.reduceBEq, isLd, hk0, e0, e3, u0, u1, o0, o1, o2]
      exact ⟨m - 1, by omega, _, s4, k + 1, rfl, by omega, by omega, rfl, hok', fun i hi => by omega⟩
  · simp (maxSteps := 300000) (disch := omega) only [gs, gs2, gs3, gs4, ↓reduceIte, Nat.reduceEqDiff, Int.reduceToNat, Nat.reduceMul, Nat.reduceAdd, Nat.reduceBEq, isLd, e0, e3, hkk, f1]
    refine ⟨G', Sub.refl _, hk _ ?_⟩
    rw [decide_eq_true_eq]
    exact ⟨fun hx => ⟨g1, fun i hi => hok i (by omega), fun i hi => hlt i (by omega), by omega⟩, fun hx => by have := hx.2.2.2; omega⟩
/-- a vector on a graph. -/
def VecOk (N : Gra) (xs : List Int) : Prop := (xs.length : Int) = N.n ∧ InB xs (-1000000) 1000000
open Classical in
/-- the first error of a graph and a vector. -/
noncomputable def askC (N : Gra) (xs : List Int) : Int := if GraOk N then if VecOk N xs then 0 else 2 else 1
theorem askC_zero {N : Gra} {xs : List Int} : askC N xs = 0 ↔ GraOk N ∧ VecOk N xs := by
  unfold askC; split
  · split <;> simp [*]
  · simp [*]
theorem spec_l16Vector_ok {G : GH} {q : Option Addr} {N : Gra} {A B : Option Addr} {c d : Nat} {xs : List Int} (h : GraP G q N A c) (hf : IntS G B d xs) (hl : xs.length < 2 ^ 40) {K : Value → GH → Prop}
    (hk : ∀ b : Bool, (b = true ↔ VecOk N xs) → K (.bool b) G) : GC Try.prog 199 [.pointer q, .slice B xs.length d] G K := by
  refine c_spec_l16Vector_i (by simp) ?_
  have hq := rd_some h.f0
  have f0 := h.f0
  have hsn := hf.sn
  have r := hf.rd
  simp (maxSteps := 300000) (disch := omega) only [gs, gs2, gs3, gs4, ↓reduceIte, Nat.reduceEqDiff, Int.reduceToNat, Nat.reduceMul, Nat.reduceAdd, Nat.reduceBEq, isLd]
  refine gLoop_intro (fun m T G' => ∃ k : Nat, T 0 = .pointer q ∧ T 1 = .slice B xs.length d ∧ T 5 = .int .i64 k ∧ m + k = xs.length ∧ k ≤ xs.length ∧ G' = G ∧ ∀ i, i < k → -1000000 ≤ xs.getD i 0 ∧ xs.getD i 0 ≤ 1000000) xs.length
    ⟨0, by simp (maxSteps := 300000) (disch := omega) only [gs, gs2, gs3, gs4, ↓reduceIte, Nat.reduceEqDiff, Int.reduceToNat, Nat.reduceMul, Nat.reduceAdd, Nat.reduceBEq, isLd], by simp (maxSteps := 300000) (disch := omega) only [gs, gs2, gs3, gs4, ↓reduceIte, Nat.reduceEqDiff, Int.reduceToNat, Nat.reduceMul, Nat.reduceAdd, Nat.reduceBEq, isLd], by simp (maxSteps := 300000) (disch := omega) only [gs, gs2, gs3, gs4, ↓reduceIte, Nat.reduceEqDiff, Int.reduceToNat, Nat.reduceMul, Nat.reduceAdd, Nat.reduceBEq, isLd] <;> rfl, by omega, by omega, rfl, fun i hi => by omega⟩ ?_
  rintro m T G' ⟨k, e0, e1, e5, hm, hkl, rfl, hin⟩
  simp (maxSteps := 300000) (disch := omega) only [gs, gs2, gs3, gs4, ↓reduceIte, Nat.reduceEqDiff, Int.reduceToNat, Nat.reduceMul, Nat.reduceAdd, Nat.reduceBEq, isLd, e0, e1, e5]
  by_cases hkk : (k : Int) < xs.length
  · simp (maxSteps := 300000) (disch := omega) only [gs, gs2, gs3, gs4, ↓reduceIte, Nat.reduceEqDiff, Int.reduceToNat, Nat.reduceMul, Nat.reduceAdd, Nat.reduceBEq, isLd, e0, e1, e5, hkk, r]
    refine spec_l00In_ok _ _ _ ?_
    simp (maxSteps := 300000) (disch := omega) only [gs, gs2, gs3, gs4, ↓reduceIte, Nat.reduceEqDiff, Int.reduceToNat, Nat.reduceMul, Nat.reduceAdd, Nat.reduceBEq, isLd, e0, e1, e5]
    cases g : decide (-1000000 ≤ xs.getD k 0 ∧ xs.getD k 0 ≤ 1000000)
    · simp (maxSteps := 300000) (disch := omega) only [gs, gs2, gs3, gs4, ↓reduceIte, Nat.reduceEqDiff, Int.reduceToNat, Nat.reduceMul, Nat.reduceAdd, Nat.reduceBEq, isLd, e0, e1, e5]
      have g := of_decide_eq_false g
      exact hk false (by simp; exact fun hx => g (hx.2 k (by omega)))
    · simp (maxSteps := 300000) (disch := omega) only [gs, gs2, gs3, gs4, ↓reduceIte, Nat.reduceEqDiff, Int.reduceToNat, Nat.reduceMul, Nat.reduceAdd, Nat.reduceBEq, isLd, e0, e1, e5]
      have g := of_decide_eq_true g
      refine ⟨m - 1, by omega, _, Sub.refl _, k + 1, rfl, by omega, by omega, rfl, fun i hi => ?_⟩
      by_cases hik : i = k
      · subst hik; exact g
      · exact hin i (by omega)
  · simp (maxSteps := 300000) (disch := omega) only [gs, gs2, gs3, gs4, ↓reduceIte, Nat.reduceEqDiff, Int.reduceToNat, Nat.reduceMul, Nat.reduceAdd, Nat.reduceBEq, isLd, e0, e1, e5, hkk, f0]
    refine hk _ ?_
    rw [decide_eq_true_eq]
    exact ⟨fun hx => ⟨hx, fun i hi => hin i (by omega)⟩, fun hx => hx.1⟩
theorem spec_l16Ask_ok {G : GH} {q : Option Addr} {N : Gra} {A B : Option Addr} {c d : Nat} {xs : List Int} (h : GraP G q N A c) (hf : IntS G B d xs) (hl : N.edges.length < 2 ^ 40) (hl' : xs.length < 2 ^ 40) {K : Value → GH → Prop}
    (hk : K (.int .i64 (askC N xs)) G) : GC Try.prog 100 [.pointer q, .slice B xs.length d] G K := by
  refine c_spec_l16Ask_i (by simp) ?_
  unfold askC at hk
  simp (maxSteps := 300000) (disch := omega) only [gs, gs2, gs3, gs4, ↓reduceIte, Nat.reduceEqDiff, Int.reduceToNat, Nat.reduceMul, Nat.reduceAdd, Nat.reduceBEq, isLd]
  refine spec_l16Ok_ok h hl fun b hb => ?_
  cases b
  · simp (maxSteps := 300000) (disch := omega) only [gs, gs2, gs3, gs4, ↓reduceIte, Nat.reduceEqDiff, Int.reduceToNat, Nat.reduceMul, Nat.reduceAdd, Nat.reduceBEq, isLd]
    rwa [if_neg (by simpa using hb)] at hk
  · rw [if_pos (hb.1 rfl)] at hk
    simp (maxSteps := 300000) (disch := omega) only [gs, gs2, gs3, gs4, ↓reduceIte, Nat.reduceEqDiff, Int.reduceToNat, Nat.reduceMul, Nat.reduceAdd, Nat.reduceBEq, isLd]
    refine spec_l16Vector_ok h hf hl' fun b' hb' => ?_
    cases b'
    · simp (maxSteps := 300000) (disch := omega) only [gs, gs2, gs3, gs4, ↓reduceIte, Nat.reduceEqDiff, Int.reduceToNat, Nat.reduceMul, Nat.reduceAdd, Nat.reduceBEq, isLd]
      rwa [if_neg (by simpa using hb')] at hk
    · rw [if_pos (hb'.1 rfl)] at hk
      simp (maxSteps := 300000) (disch := omega) only [gs, gs2, gs3, gs4, ↓reduceIte, Nat.reduceEqDiff, Int.reduceToNat, Nat.reduceMul, Nat.reduceAdd, Nat.reduceBEq, isLd]
      exact hk
theorem vec_get {N : Gra} {xs : List Int} (hx : VecOk N xs) {v : Int} (h : 0 ≤ v ∧ v < N.n) : -1000000 ≤ xs.getD v.toNat 0 ∧ xs.getD v.toNat 0 ≤ 1000000 := hx.2 _ (by have := hx.1; omega)
/-- what the first k arcs bring to a node, less what they take away. -/
def exc (es : List T3) (fl : List Int) (v : Int) : Nat → Int
  | 0 => 0
  | k + 1 => exc es fl v k + (if (es.getD k z3).2.1 = v then fl.getD k 0 else 0) - (if (es.getD k z3).1 = v then fl.getD k 0 else 0)
/-- the place of the arc from a to b, or -1. -/
def arcI (es : List T3) (a b : Int) : Int := match es.findIdx? (fun e => decide (e.1 = a ∧ e.2.1 = b)) with | some i => (i : Int) | none => -1
/-- arcs in order stand once. -/
theorem lt_trans' {es : List T3} (h : ∀ i, i + 1 < es.length → ltArc (es.getD i z3) (es.getD (i + 1) z3)) : ∀ (d i : Nat), i + d + 1 < es.length → ltArc (es.getD i z3) (es.getD (i + d + 1) z3)
  | 0, i, hi => h i hi
  | d + 1, i, hi => by
    have h1 := lt_trans' h d i (by omega)
    have h2 := h (i + d + 1) hi
    unfold ltArc at *
    rw [show i + (d + 1) + 1 = i + d + 1 + 1 by omega]
    omega
theorem arc_once {es : List T3} (h : ∀ i, i + 1 < es.length → ltArc (es.getD i z3) (es.getD (i + 1) z3)) {i j : Nat} (hi : i < es.length) (hj : j < es.length) (h1 : (es.getD i z3).1 = (es.getD j z3).1) (h2 : (es.getD i z3).2.1 = (es.getD j z3).2.1) : i = j := by
  have key : ∀ i j, i < j → j < es.length → (es.getD i z3).1 = (es.getD j z3).1 → (es.getD i z3).2.1 = (es.getD j z3).2.1 → False := fun i j hij hj h1 h2 => by
    have := lt_trans' h (j - i - 1) i (by omega)
    rw [show i + (j - i - 1) + 1 = j by omega] at this
    unfold ltArc at this
    omega
  rcases Nat.lt_trichotomy i j with hlt | rfl | hgt
  · exact (key i j hlt hj h1 h2).elim
  · rfl
  · exact (key j i hgt hi h1.symm h2.symm).elim
/-- what is sent from u to v: first back, then on. -/
def push (es : List T3) (fl : List Int) (u v a : Int) : List Int :=
  let m := if fl.getD (arcI es v u).toNat 0 < a then fl.getD (arcI es v u).toNat 0 else a
  let fl1 := if 0 ≤ arcI es v u then fl.set (arcI es v u).toNat (fl.getD (arcI es v u).toNat 0 - m) else fl
  let more := if 0 ≤ arcI es v u then a - m else a
  if 0 ≤ arcI es u v then fl1.set (arcI es u v).toNat (fl1.getD (arcI es u v).toNat 0 + more) else fl1
theorem mem_getD' {xs : List Int} {v : Int} : v ∈ xs ↔ ∃ i, i < xs.length ∧ xs.getD i 0 = v := by
  constructor
  · intro h
    obtain ⟨i, hi, rfl⟩ := List.getElem_of_mem h
    exact ⟨i, hi, by simp [List.getD, hi]⟩
  · rintro ⟨i, hi, rfl⟩
    simp [List.getD, hi]
/-- the nodes on the way back from v, without the source. -/
def path (b : Int → Int) (s : Int) : Nat → Int → List Int
  | 0, _ => []
  | f + 1, v => if v = s then [] else v :: path b s f (b v)
/-- the numbers below n. -/
def iota (n : Nat) : List Int := (List.range n).map fun i : Nat => (i : Int)
theorem New.cast {G G' : GH} {A : Option Addr} {c sz n : Nat} {cs cs' : List Value} (h : New G G' A c cs sz n) (e : cs = cs') {n' : Nat} (en : n = n') : New G G' A c cs' sz n' := e ▸ en ▸ h
theorem range_app_get {α : Type} {n : Nat} {f : Nat → α} {rest : List α} {i : Nat} (h : i < n) : ((List.range n).map f ++ rest)[i]? = some (f i) := by
  rw [List.getElem?_append_left (by simpa using h), range_get _ _ _ h]
theorem range_app_set {α : Type} {n : Nat} {f : Nat → α} {rest : List α} {i : Nat} {x : α} (h : i < n) : ((List.range n).map f ++ rest).set i x = (List.range n).map (fun v => if v = i then x else f v) ++ rest := by
  rw [List.set_append_left _ _ (by simpa using h), range_set]
theorem New.ints' {G G' : GH} {A : Option Addr} {c n : Nat} {xs : List Int} (h : New G G' A c (xs.map I64) 1 n) (hn : n = xs.length) : IntS G' A c xs := by subst hn; exact h.ints
/-- the cells of a function on the numbers below n. -/
def fcells (n : Nat) (b : Int → Int) : List Value := (List.range n).map fun v : Nat => I64 (b v)
theorem fcells_len (n : Nat) (b : Int → Int) : (fcells n b).length = n := by simp [fcells]
theorem fcells_get {n : Nat} {b : Int → Int} {rest : List Value} {v : Int} (h0 : 0 ≤ v) (h : v < n) : (fcells n b ++ rest)[v.toNat]? = some (.int .i64 (b v)) := by
  unfold fcells; rw [range_app_get (by omega)]; simp only [I64]; rw [Int.toNat_of_nonneg h0]
theorem fcells_set {n : Nat} {b : Int → Int} {rest : List Value} {v x : Int} (h0 : 0 ≤ v) (h : v < n) : (fcells n b ++ rest).set v.toNat (.int .i64 x) = fcells n (fun w => if w = v then x else b w) ++ rest := by
  unfold fcells
  rw [range_app_set (by omega)]
  congr 1
  exact range_cong fun w hw => by
    by_cases hwv : (w : Int) = v
    · rw [if_pos (by omega)]; simp only [if_pos hwv]; rfl
    · rw [if_neg (by omega)]; simp only [if_neg hwv]
def xg (x : List Int) (v : Int) : Int := x.getD v.toNat 0
theorem xg_bd {N : Gra} {x : List Int} (hx : VecOk N x) {v : Int} (h : 0 ≤ v ∧ v < N.n) : -1000000 ≤ xg x v ∧ xg x v ≤ 1000000 := vec_get hx h
def sumN (f : Int → Int) : Nat → Int
  | 0 => 0
  | k + 1 => sumN f k + f k
theorem sumN_add (f g : Int → Int) : ∀ n : Nat, sumN (fun i => f i + g i) n = sumN f n + sumN g n
  | 0 => rfl
  | n + 1 => by rw [sumN, sumN, sumN, sumN_add f g n]; omega
theorem sumN_zero : ∀ n : Nat, sumN (fun _ => 0) n = 0
  | 0 => rfl
  | n + 1 => by rw [sumN, sumN_zero n]; rfl
theorem sumN_one (v x : Int) (h0 : 0 ≤ v) : ∀ n : Nat, sumN (fun i => if i = v then x else 0) n = if v < n then x else 0
  | 0 => by rw [sumN, if_neg (by omega)]
  | n + 1 => by
    rw [sumN, sumN_one v x h0 n]
    (repeat' split) <;> omega
def updAt (f : Int → Int) (v x : Int) : Int → Int := fun w => if w = v then x else f w
def upd2 (f : Int → Int → Int) (i j x : Int) : Int → Int → Int := fun a b => if a = i ∧ b = j then x else f a b
/-- the matrix after k edges, as the program writes it. -/
def lapK (es : List T3) : Nat → Int → Int → Int
  | 0 => fun _ _ => 0
  | k + 1 => let e := es.getD k z3; let L := lapK es k
    let L1 := upd2 L e.1 e.1 (L e.1 e.1 + e.2.2)
    let L2 := upd2 L1 e.2.1 e.2.1 (L1 e.2.1 e.2.1 + e.2.2)
    upd2 (upd2 L2 e.1 e.2.1 (-e.2.2)) e.2.1 e.1 (-e.2.2)
def okE (es : List T3) : Prop := (∀ i, i < es.length → (es.getD i z3).1 < (es.getD i z3).2.1) ∧ ∀ i, i + 1 < es.length → ltArc (es.getD i z3) (es.getD (i + 1) z3)
theorem GraOk.okE {N : Gra} (h : GraOk N) : okE N.edges := ⟨fun i hi => (h.2.1 i hi).2.1, h.2.2.1⟩
/-- no edge between i and j among the first k. -/
theorem lapK_none {es : List T3} {i j : Int} (hij : i ≠ j) : ∀ k : Nat, (∀ m, m < k → ¬ (((es.getD m z3).1 = i ∧ (es.getD m z3).2.1 = j) ∨ ((es.getD m z3).1 = j ∧ (es.getD m z3).2.1 = i))) → lapK es k i j = 0
  | 0, _ => rfl
  | k + 1, h => by
    have ih := lapK_none hij k fun m hm => h m (by omega)
    have hk := h k (by omega)
    unfold lapK upd2
    dsimp only
    rw [if_neg (by omega), if_neg (by omega), if_neg (by omega), if_neg (by omega)]
    exact ih
theorem lap_new {es : List T3} (h : okE es) {k : Nat} (hk : k < es.length) : lapK es k (es.getD k z3).1 (es.getD k z3).2.1 = 0 ∧ lapK es k (es.getD k z3).2.1 (es.getD k z3).1 = 0 := by
  have hlt := h.1 k hk
  have key : ∀ m, m < k → ¬ ((es.getD m z3).1 = (es.getD k z3).1 ∧ (es.getD m z3).2.1 = (es.getD k z3).2.1) ∧ ¬ ((es.getD m z3).1 = (es.getD k z3).2.1 ∧ (es.getD m z3).2.1 = (es.getD k z3).1) := fun m hm => by
    refine ⟨fun e => ?_, fun e => ?_⟩
    · have := arc_once h.2 (by omega) hk e.1 e.2; omega
    · have := h.1 m (by omega); omega
  exact ⟨lapK_none (by omega) k fun m hm => by have := key m hm; omega, lapK_none (by omega) k fun m hm => by have := key m hm; omega⟩
/-- one step of the matrix, as a sum. -/
theorem lapK_step {es : List T3} (h : okE es) {k : Nat} (hk : k < es.length) (i j : Int) : lapK es (k + 1) i j = lapK es k i j + (if i = (es.getD k z3).1 then (if j = (es.getD k z3).1 then (es.getD k z3).2.2 else 0) + (if j = (es.getD k z3).2.1 then -(es.getD k z3).2.2 else 0) else 0) + (if i = (es.getD k z3).2.1 then (if j = (es.getD k z3).2.1 then (es.getD k z3).2.2 else 0) + (if j = (es.getD k z3).1 then -(es.getD k z3).2.2 else 0) else 0) := by
  have hlt := h.1 k hk
  obtain ⟨n1, n2⟩ := lap_new h hk
  rw [lapK]
  simp only [upd2]
  generalize (es.getD k z3).2.2 = w at *
  generalize (es.getD k z3).1 = u at *
  generalize (es.getD k z3).2.1 = v at *
  by_cases a1 : i = u
  · subst a1
    by_cases b1 : j = i
    · subst b1
      rw [if_neg (by omega), if_neg (by omega), if_neg (by omega), if_pos ⟨rfl, rfl⟩, if_pos rfl, if_pos rfl, if_neg (by omega), if_neg (by omega)]; omega
    · by_cases b2 : j = v
      · subst b2
        rw [if_neg (by omega), if_pos ⟨rfl, rfl⟩, if_pos rfl, if_neg b1, if_pos rfl, if_neg (by omega), n1]; omega
      · rw [if_neg (by omega), if_neg (by omega), if_neg (by omega), if_neg (by omega), if_pos rfl, if_neg b1, if_neg b2, if_neg (by omega)]; omega
  · by_cases a2 : i = v
    · subst a2
      by_cases b1 : j = i
      · subst b1
        rw [if_neg (by omega), if_neg (by omega), if_pos ⟨rfl, rfl⟩, if_neg (by omega), if_neg a1, if_pos rfl, if_pos rfl, if_neg a1]; omega
      · by_cases b2 : j = u
        · subst b2
          rw [if_pos ⟨rfl, rfl⟩, if_neg a1, if_pos rfl, if_neg b1, if_pos rfl, n2]; omega
        · rw [if_neg (by omega), if_neg (by omega), if_neg (by omega), if_neg (by omega), if_neg a1, if_pos rfl, if_neg b1, if_neg b2]; omega
    · rw [if_neg (by omega), if_neg (by omega), if_neg (by omega), if_neg (by omega), if_neg a1, if_neg a2]; omega
/-- the product with a vector, as the reference takes it. -/
def apK (es : List T3) (x : List Int) : Nat → Int → Int
  | 0 => fun _ => 0
  | k + 1 => let e := es.getD k z3; let d := e.2.2 * (xg x e.1 - xg x e.2.1); let f := apK es x k
    let f1 := updAt f e.1 (f e.1 + d)
    updAt f1 e.2.1 (f1 e.2.1 - d)
theorem apK_step {es : List T3} (h : okE es) (x : List Int) {k : Nat} (hk : k < es.length) (i : Int) : apK es x (k + 1) i = apK es x k i + (if i = (es.getD k z3).1 then (es.getD k z3).2.2 * (xg x (es.getD k z3).1 - xg x (es.getD k z3).2.1) else 0) - (if i = (es.getD k z3).2.1 then (es.getD k z3).2.2 * (xg x (es.getD k z3).1 - xg x (es.getD k z3).2.1) else 0) := by
  have hlt := h.1 k hk
  rw [apK]
  simp only [updAt]
  by_cases a1 : i = (es.getD k z3).2.1
  · rw [if_pos a1, if_neg (by omega), if_neg (by omega), if_pos a1, a1]; omega
  · rw [if_neg a1, if_neg a1]
    by_cases a2 : i = (es.getD k z3).1
    · rw [if_pos a2, if_pos a2, a2]; omega
    · rw [if_neg a2, if_neg a2]; omega
/-- the row of the matrix times the vector is what the reference takes. -/
theorem lap_mul {es : List T3} (h : okE es) (x : List Int) {n : Nat} (hn : ∀ i, i < es.length → 0 ≤ (es.getD i z3).1 ∧ (es.getD i z3).2.1 < n) (i : Int) : ∀ k : Nat, k ≤ es.length → sumN (fun j => lapK es k i j * xg x j) n = apK es x k i
  | 0, _ => by
    simp only [lapK, apK, Int.zero_mul]; exact sumN_zero n
  | k + 1, hk => by
    have ih := lap_mul h x hn i k (by omega)
    have hlt := h.1 k (by omega)
    have hr := hn k (by omega)
    rw [apK_step h x (by omega), ← ih]
    rw [show (fun j => lapK es (k + 1) i j * xg x j) = fun j => (lapK es k i j * xg x j + ((if j = (es.getD k z3).1 then (if i = (es.getD k z3).1 then (es.getD k z3).2.2 * xg x (es.getD k z3).1 else 0) - (if i = (es.getD k z3).2.1 then (es.getD k z3).2.2 * xg x (es.getD k z3).1 else 0) else 0) + (if j = (es.getD k z3).2.1 then (if i = (es.getD k z3).2.1 then (es.getD k z3).2.2 * xg x (es.getD k z3).2.1 else 0) - (if i = (es.getD k z3).1 then (es.getD k z3).2.2 * xg x (es.getD k z3).2.1 else 0) else 0))) from funext fun j => by
      rw [lapK_step h (by omega)]
      by_cases b1 : j = (es.getD k z3).1
      · rw [if_pos b1, if_pos b1, if_neg (show ¬ j = (es.getD k z3).2.1 by omega), if_neg (show ¬ j = (es.getD k z3).2.1 by omega), if_neg (show ¬ j = (es.getD k z3).2.1 by omega), if_pos b1, ← b1]
        by_cases c1 : i = j
        · rw [if_pos c1, if_neg (by omega), if_pos c1, if_neg (by omega)]; simp only [Int.add_zero, Int.sub_zero, Int.add_mul]
        · by_cases c2 : i = (es.getD k z3).2.1
          · rw [if_neg c1, if_pos c2, if_neg c1, if_pos c2]; simp only [Int.add_zero, Int.zero_add, Int.add_mul, Int.neg_mul]; omega
          · rw [if_neg c1, if_neg c2, if_neg c1, if_neg c2]; simp
      · by_cases b2 : j = (es.getD k z3).2.1
        · rw [if_neg b1, if_neg b1, if_neg b1, if_pos b2, if_pos b2, if_pos b2, ← b2]
          by_cases c1 : i = j
          · rw [if_neg (show ¬ i = (es.getD k z3).1 by omega), if_pos c1, if_pos c1, if_neg (show ¬ i = (es.getD k z3).1 by omega)]; simp only [Int.add_zero, Int.zero_add, Int.sub_zero, Int.add_mul]
          · by_cases c2 : i = (es.getD k z3).1
            · rw [if_pos c2, if_neg c1, if_neg c1, if_pos c2]; simp only [Int.add_zero, Int.zero_add, Int.add_mul, Int.neg_mul]; omega
            · rw [if_neg c2, if_neg c1, if_neg c1, if_neg c2]; simp
        · rw [if_neg b1, if_neg b1, if_neg b1, if_neg b2, if_neg b2, if_neg b2]; simp]
    rw [sumN_add, sumN_add, sumN_one _ _ hr.1, sumN_one _ _ (by omega), if_pos (by omega), if_pos hr.2]
    have e1 := Int.mul_sub (es.getD k z3).2.2 (xg x (es.getD k z3).1) (xg x (es.getD k z3).2.1)
    rw [e1]
    (repeat' split) <;> omega
/-- two lists of integers, compared place by place. -/
def lexC : List Int → List Int → Int
  | [], [] => 0
  | [], _ :: _ => -1
  | _ :: _, [] => 1
  | x :: xs, y :: ys => if cmp3 x y = 0 then lexC xs ys else cmp3 x y
theorem drop_cons {xs : List Int} {k : Nat} (h : k < xs.length) : xs.drop k = xs.getD k 0 :: xs.drop (k + 1) := by
  rw [List.drop_eq_getElem_cons h]; simp [List.getD, h]
theorem lexC_drop {xs ys : List Int} : ∀ k : Nat, k ≤ xs.length → k ≤ ys.length → (∀ i, i < k → xs.getD i 0 = ys.getD i 0) → lexC xs ys = lexC (xs.drop k) (ys.drop k)
  | 0, _, _, _ => by simp
  | k + 1, h1, h2, h => by
    rw [lexC_drop k (by omega) (by omega) fun i hi => h i (by omega), drop_cons (show k < xs.length by omega), drop_cons (show k < ys.length by omega)]
    have := h k (by omega)
    rw [lexC, if_pos (by rw [this]; simp [cmp3])]
theorem lexC_at {xs ys : List Int} {k : Nat} (h1 : k < xs.length) (h2 : k < ys.length) (h : ∀ i, i < k → xs.getD i 0 = ys.getD i 0) (hne : cmp3 (xs.getD k 0) (ys.getD k 0) ≠ 0) : lexC xs ys = cmp3 (xs.getD k 0) (ys.getD k 0) := by
  rw [lexC_drop k (by omega) (by omega) h, drop_cons h1, drop_cons h2, lexC, if_neg hne]
theorem lexC_end {xs ys : List Int} (h : xs.length ≤ ys.length) (he : ∀ i, i < xs.length → xs.getD i 0 = ys.getD i 0) : lexC xs ys = if xs.length < ys.length then -1 else 0 := by
  rw [lexC_drop xs.length (by omega) h he, List.drop_length]
  by_cases hl : xs.length < ys.length
  · rw [drop_cons hl, lexC, if_pos hl]
  · rw [List.drop_eq_nil_of_le (show ys.length ≤ xs.length by omega), lexC, if_neg hl]
theorem lexC_long {xs ys : List Int} (h : ys.length < xs.length) (he : ∀ i, i < ys.length → xs.getD i 0 = ys.getD i 0) : lexC xs ys = 1 := by
  rw [lexC_drop ys.length (by omega) (by omega) he, List.drop_length, drop_cons h, lexC]
theorem cmp3_zero {a b : Int} : cmp3 a b = 0 ↔ a = b := by unfold cmp3; split <;> (try split) <;> omega
theorem slices_Compare_ok {G : GH} {A B : Option Addr} {c d : Nat} {xs ys : List Int} (h : IntS G A c xs) (h' : IntS G B d ys) (hl : xs.length < 2 ^ 40) (hl' : ys.length < 2 ^ 40) {K : Value → GH → Prop}
    (hk : K (.int .i64 (lexC xs ys)) G) : GC Try.prog 144 [.slice A xs.length c, .slice B ys.length d] G K := by
  refine c_slices_Compare_int64_int64_i (by simp) ?_
  have hsn := h.sn
  have r := h.rd
  have hsn' := h'.sn
  have r' := h'.rd
  simp (maxSteps := 300000) (disch := omega) only [gs, gs2, gs3, gs4, ↓reduceIte, Nat.reduceEqDiff, Int.reduceToNat, Nat.reduceMul, Nat.reduceAdd, Nat.reduceBEq, isLd]
  refine gLoop_intro (fun m T G' => ∃ k : Nat, T 0 = .slice A xs.length c ∧ T 1 = .slice B ys.length d ∧ T 9 = .slice A xs.length c ∧ T 10 = .int .i64 xs.length ∧ T 11 = .int .i64 k ∧ m + k = xs.length ∧ k ≤ xs.length ∧ k ≤ ys.length ∧ G' = G ∧ ∀ i, i < k → xs.getD i 0 = ys.getD i 0) xs.length
    ⟨0, by simp (maxSteps := 300000) (disch := omega) only [gs, gs2, gs3, gs4, ↓reduceIte, Nat.reduceEqDiff, Int.reduceToNat, Nat.reduceMul, Nat.reduceAdd, Nat.reduceBEq, isLd], by simp (maxSteps := 300000) (disch := omega) only [gs, gs2, gs3, gs4, ↓reduceIte, Nat.reduceEqDiff, Int.reduceToNat, Nat.reduceMul, Nat.reduceAdd, Nat.reduceBEq, isLd], by simp (maxSteps := 300000) (disch := omega) only [gs, gs2, gs3, gs4, ↓reduceIte, Nat.reduceEqDiff, Int.reduceToNat, Nat.reduceMul, Nat.reduceAdd, Nat.reduceBEq, isLd], by simp (maxSteps := 300000) (disch := omega) only [gs, gs2, gs3, gs4, ↓reduceIte, Nat.reduceEqDiff, Int.reduceToNat, Nat.reduceMul, Nat.reduceAdd, Nat.reduceBEq, isLd], by simp (maxSteps := 300000) (disch := omega) only [gs, gs2, gs3, gs4, ↓reduceIte, Nat.reduceEqDiff, Int.reduceToNat, Nat.reduceMul, Nat.reduceAdd, Nat.reduceBEq, isLd] <;> rfl, by omega, by omega, by omega, rfl, fun i hi => by omega⟩ ?_
  rintro m T G' ⟨k, e0, e1, e9, e10, e11, hm, hkl, hky, rfl, hin⟩
  simp (maxSteps := 300000) (disch := omega) only [gs, gs2, gs3, gs4, ↓reduceIte, Nat.reduceEqDiff, Int.reduceToNat, Nat.reduceMul, Nat.reduceAdd, Nat.reduceBEq, isLd, e0, e1, e9, e10, e11]
  by_cases hkk : (k : Int) < xs.length
  · simp (maxSteps := 300000) (disch := omega) only [gs, gs2, gs3, gs4, ↓reduceIte, Nat.reduceEqDiff, Int.reduceToNat, Nat.reduceMul, Nat.reduceAdd, Nat.reduceBEq, isLd, e0, e1, e9, e10, e11, hkk, r]
    by_cases hy : (ys.length : Int) ≤ k
    · simp (maxSteps := 300000) (disch := omega) only [gs, gs2, gs3, gs4, ↓reduceIte, Nat.reduceEqDiff, Int.reduceToNat, Nat.reduceMul, Nat.reduceAdd, Nat.reduceBEq, isLd, hy, e0, e1, e9, e10, e11]
      rw [lexC_long (by omega) fun i hi => hin i (by omega)] at hk
      exact hk
    · simp (maxSteps := 300000) (disch := omega) only [gs, gs2, gs3, gs4, ↓reduceIte, Nat.reduceEqDiff, Int.reduceToNat, Nat.reduceMul, Nat.reduceAdd, Nat.reduceBEq, isLd, hy, e0, e1, e9, e10, e11, r']
      refine cmp_Compare_ok _ _ ?_
      simp (maxSteps := 300000) (disch := omega) only [gs, gs2, gs3, gs4, ↓reduceIte, Nat.reduceEqDiff, Int.reduceToNat, Nat.reduceMul, Nat.reduceAdd, Nat.reduceBEq, isLd, e0, e1, e9, e10, e11]
      by_cases hc : cmp3 (xs.getD k 0) (ys.getD k 0) = 0
      · simp (maxSteps := 300000) (disch := omega) only [gs, gs2, gs3, gs4, ↓reduceIte, Nat.reduceEqDiff, Int.reduceToNat, Nat.reduceMul, Nat.reduceAdd, Nat.reduceBEq, isLd, eq_true hc, e0, e1, e9, e10, e11]
        refine ⟨m - 1, by omega, _, Sub.refl _, k + 1, rfl, by omega, by omega, by omega, rfl, fun i hi => ?_⟩
        by_cases hik : i = k
        · subst hik; exact cmp3_zero.1 hc
        · exact hin i (by omega)
      · simp (maxSteps := 300000) (disch := omega) only [gs, gs2, gs3, gs4, ↓reduceIte, Nat.reduceEqDiff, Int.reduceToNat, Nat.reduceMul, Nat.reduceAdd, Nat.reduceBEq, isLd, eq_false hc, e0, e1, e9, e10, e11]
        rw [lexC_at (by omega) (by omega) hin hc] at hk
        exact hk
  · simp (maxSteps := 300000) (disch := omega) only [gs, gs2, gs3, gs4, ↓reduceIte, Nat.reduceEqDiff, Int.reduceToNat, Nat.reduceMul, Nat.reduceAdd, Nat.reduceBEq, isLd, e0, e1, e9, e10, e11, hkk]
    rw [lexC_end (by omega) fun i hi => hin i (by omega)] at hk
    by_cases hlt : (xs.length : Int) < ys.length
    · simp (maxSteps := 300000) (disch := omega) only [gs, gs2, gs3, gs4, ↓reduceIte, Nat.reduceEqDiff, Int.reduceToNat, Nat.reduceMul, Nat.reduceAdd, Nat.reduceBEq, isLd, hlt]
      rwa [if_pos (by omega)] at hk
    · simp (maxSteps := 300000) (disch := omega) only [gs, gs2, gs3, gs4, ↓reduceIte, Nat.reduceEqDiff, Int.reduceToNat, Nat.reduceMul, Nat.reduceAdd, Nat.reduceBEq, isLd, hlt]
      rwa [if_neg (by omega)] at hk
abbrev offE (xs : List Int) (e : T3) : Prop := ¬ (e.1 ∈ xs ↔ e.2.1 ∈ xs)
def cwK (es : List T3) (xs : List Int) : Nat → Int
  | 0 => 0
  | k + 1 => if offE xs (es.getD k z3) then cwK es xs k + (es.getD k z3).2.2 else cwK es xs k
theorem cw_bd {N : Gra} (hn : GraOk N) (xs : List Int) : ∀ k : Nat, k ≤ N.edges.length → 0 ≤ cwK N.edges xs k ∧ cwK N.edges xs k ≤ 9 * k
  | 0, _ => by simp [cwK]
  | k + 1, hk => by
    have ih := cw_bd hn xs k (by omega)
    obtain ⟨o1, o2, o3, o4⟩ := hn.2.1 k (by omega)
    unfold cwK
    split <;> omega
/-- the places below k of the bits of a number. -/
def bitsL (s : Nat) (k : Nat) : List Int := ((List.range k).filter fun y => s.testBit y).map fun y : Nat => (y : Int)
theorem bitsL_succ (s k : Nat) : bitsL s (k + 1) = if s.testBit k = true then bitsL s k ++ [(k : Int)] else bitsL s k := by
  unfold bitsL
  rw [List.range_succ, List.filter_append, List.map_append]
  by_cases h : s.testBit k = true
  · rw [if_pos h]; simp [h]
  · rw [if_neg h]; simp [h]
theorem bitsL_len (s k : Nat) : (bitsL s k).length ≤ k := by
  unfold bitsL
  rw [List.length_map]
  exact Nat.le_trans (List.length_filter_le _ _) (by simp)
/-- beyond its bits a number has no more places. -/
theorem bitsL_end {s k : Nat} (h : s < 2 ^ k) : ∀ d : Nat, bitsL s (k + d) = bitsL s k
  | 0 => rfl
  | d + 1 => by
    have : s.testBit (k + d) = false := Nat.testBit_lt_two_pow (Nat.lt_of_lt_of_le h (Nat.pow_le_pow_right (by omega) (by omega)))
    rw [show k + (d + 1) = k + d + 1 by omega, bitsL_succ, this, if_neg (by simp), bitsL_end h d]
theorem bitsL_one (b : Nat) : bitsL (2 * b + 1) 1 = [0] := by
  rw [bitsL_succ, show (2 * b + 1).testBit 0 = true by simp [Nat.testBit_zero], if_pos rfl]; rfl
theorem bits_odd (b i : Nat) : (2 * b + 1).testBit (i + 1) = b.testBit i := by rw [Nat.testBit_succ]; congr 1; omega
/-- the lightest cut of the first k sets, and its weight. -/
def ltK (es : List T3) (n : Nat) : Nat → Option (List Int × Int)
  | 0 => none
  | b + 1 => let L := bitsL (2 * b + 1) n; let w := cwK es L es.length
    match ltK es n b with
    | none => some (L, w)
    | some (B, m) => if w < m ∨ w = m ∧ lexC L B < 0 then some (L, w) else some (B, m)
theorem ltK_some (es : List T3) (n : Nat) : ∀ k : Nat, 0 < k → ∃ b, b < k ∧ ltK es n k = some (bitsL (2 * b + 1) n, cwK es (bitsL (2 * b + 1) n) es.length) ∧ ∀ c, c < k → cwK es (bitsL (2 * b + 1) n) es.length ≤ cwK es (bitsL (2 * c + 1) n) es.length
  | 0, h => by omega
  | k + 1, _ => by
    by_cases hk : 0 < k
    · obtain ⟨b, hb, e, hm⟩ := ltK_some es n k hk
      unfold ltK
      rw [e]
      dsimp only
      split
      · rename_i hc
        refine ⟨k, by omega, rfl, fun c hck => ?_⟩
        by_cases hcc : c = k
        · subst hcc; exact Int.le_refl _
        · have := hm c (by omega); omega
      · rename_i hc
        refine ⟨b, by omega, rfl, fun c hck => ?_⟩
        by_cases hcc : c = k
        · subst hcc; omega
        · exact hm c (by omega)
    · obtain rfl : k = 0 := by omega
      exact ⟨0, by omega, rfl, fun c hc => by
        have h0 : c = 0 := by omega
        rw [h0]; exact Int.le_refl _⟩
def ltV (N : Gra) : List Int × Int := (ltK N.edges N.n.toNat (2 ^ (N.n.toNat - 1) - 1)).getD ([], 0)
theorem Own.t3 {G : GH} {A : Option Addr} {c : Nat} {es : List T3} (h : Own G A c (flat3 es) 3 es.length) : T3S G A c es := h.cells.t3 h.cap
theorem Own.mk {G : GH} {A : Option Addr} {c n : Nat} {k : Int} (h : Own G A c ((marks k n).map I64) 1 n) : IntS G A c (marks k n) := ⟨by rw [marks_len]; exact h.cap, cells_int' h.cells⟩
theorem Own.len {G : GH} {A : Option Addr} {c sz n : Nat} {cs : List Value} (h : Own G A c cs sz n) : cs.length = n * sz := by
  rcases h with ⟨_, _, rfl, rfl⟩ | ⟨b, r, _, _, h, _⟩
  · simp
  · exact h
theorem ap_own {G : GH} {A B : Option Addr} {c n m d sz bytes : Nat} {z cs news : List Value} {K : Value → GH → Prop} (h : Own G A c cs sz n) (hnews : Cells G B news) (hm : news.length = m * sz) (h1 : ∀ v ∈ news, oneB v = true)
    (hz : z.length = sz) (hsz : 0 < sz) (hb : bytes ≤ 4096) (hlen : n + m < 2 ^ 33) (hk : ∀ G' A' c', Own G' A' c' (cs ++ news) sz (n + m) → (∀ H, Sub H G → Off H A → Sub H G' ∧ Off H A') → K (.slice A' (n + m) c') G') :
    gAp sz bytes z (.slice A n c) (.slice B m d) G K := by
  refine ⟨A, n, c, B, m, d, cs, news, rfl, rfl, h.len, fun j v hj => h.cells j v hj, hm, hnews, h1, ?_, by omega, fun hle => ?_, fun hlt b c' hb hc => ?_⟩
  · have : 2 * (n + m) * bytes ≤ 2 * 2 ^ 33 * 4096 := Nat.mul_le_mul (by omega) hb
    omega
  · rcases h with ⟨rfl, rfl, rfl, rfl⟩ | ⟨b, rest, rfl, hb, hcs, hrest, hnc⟩
    · obtain rfl : m = 0 := by omega
      have hn : news = [] := by simpa using hm
      subst hn
      exact .inl ⟨rfl, G, Sub.refl _, hk G none 0 (.inl ⟨rfl, rfl, rfl, rfl⟩) fun H s o => ⟨s, o⟩⟩
    · have hfit : (n + m) * sz ≤ c * sz := Nat.mul_le_mul_right _ hle
      rw [List.length_append] at hrest
      have hfit' := hfit
      rw [Nat.add_mul] at hfit'
      have ho : over (cs ++ rest) (0 + n * sz) news = cs ++ news ++ rest.drop news.length := by
        have := over_app news cs rest
        rw [if_pos (by omega)] at this
        rw [Nat.zero_add, ← hcs]; exact this
      refine .inr ⟨b, 0, cs ++ rest, rfl, hb, by rw [List.length_append]; omega, _, Sub.refl _, hk _ _ _ (.inr ⟨b, rest.drop news.length, rfl, by rw [put_same, ho], by simp [hcs, hm, Nat.add_mul], ?_, hle⟩) fun H s o => ⟨s.skip (o _ rfl), o⟩⟩
      simp only [List.length_append, List.length_drop]
      omega
  · have hcs := h.len
    refine ⟨_, Sub.refl _, hk _ _ _ (.inr ⟨b, zc z (c' - (n + m)), rfl, put_same _ _ _, by simp [hcs, hm, Nat.add_mul], ?_, hc⟩) fun H s o => ⟨s.skip (s.none hb), fun a ha => by cases ha; exact s.none hb⟩⟩
    have e1 : (zc z (c' - (n + m))).length = (c' - (n + m)) * sz := by simp [zc, hz]
    rw [List.length_append, e1, List.length_append, hcs, hm, ← Nat.add_mul, ← Nat.add_mul]
    congr 1; omega
theorem New.low {G H G' : GH} {A : Option Addr} {c sz n : Nat} {cs : List Value} (h : New G G' A c cs sz n) (s : Sub H G) : ∃ G'', Sub G'' G' ∧ New H G'' A c cs sz n := by
  rcases h with ⟨h1, h2, h3, h4, rfl⟩ | ⟨b, r, h1, h2, rfl, h3⟩
  · exact ⟨H, s, .inl ⟨h1, h2, h3, h4, rfl⟩⟩
  · exact ⟨put H b ⟨cs ++ r, true⟩, Sub.both s, .inr ⟨b, r, h1, s.none h2, rfl, h3⟩⟩
theorem Own.new {G H : GH} {A : Option Addr} {c sz n : Nat} {cs : List Value} (h : Own G A c cs sz n) (s : Sub H G) (o : Off H A) : ∃ G'', Sub G'' G ∧ New H G'' A c cs sz n := by
  rcases h with ⟨h1, h2, h3, h4⟩ | ⟨b, r, h1, h2, h3⟩
  · exact ⟨H, s, .inl ⟨h1, h2, h3, h4, rfl⟩⟩
  · exact ⟨put H b ⟨cs ++ r, true⟩, Sub.of_put s h2, .inr ⟨b, r, h1, o _ h1, rfl, h3⟩⟩
theorem Own.blk {G : GH} {b : Nat} {cs : List Value} {sz n : Nat} (h : G b = some ⟨cs, true⟩) (hl : cs.length = n * sz) : Own G (some ⟨b, 0, none⟩) n cs sz n :=
  .inr ⟨b, [], rfl, by simpa using h, hl, by simpa using hl, Nat.le_refl _⟩
theorem New.fresh {G G' : GH} {A : Option Addr} {c sz n : Nat} {cs : List Value} (h : New G G' A c cs sz n) : Own G' A c cs sz n := h.own.sub (Sub.rest _ _)
theorem blk_ne {G : GH} {a b : Nat} {e : Ent} (h : G a = some e) (k : G b = none) : a ≠ b := fun x => by rw [x, k] at h; cases h
theorem Own.ints' {G : GH} {A : Option Addr} {c n : Nat} {xs : List Int} (h : Own G A c (xs.map I64) 1 n) (hn : n = xs.length) : IntS G A c xs := by subst hn; exact h.ints
theorem Off.nil (H : GH) : Off H none := fun a ha => by cases ha
theorem Own.cast {G : GH} {A : Option Addr} {c sz n : Nat} {cs cs' : List Value} (h : Own G A c cs sz n) (e : cs = cs') {n' : Nat} (en : n = n') : Own G A c cs' sz n' := e ▸ en ▸ h
theorem Own.nil (G : GH) (sz : Nat) : Own G none 0 [] sz 0 := .inl ⟨rfl, rfl, rfl, rfl⟩
theorem New.sn {G G' : GH} {A : Option Addr} {c sz n : Nat} {cs : List Value} (h : New G G' A c cs sz n) (hn : 0 < n) : 0 < Gh.sn A := by
  rcases h with ⟨_, _, h0, _, _⟩ | ⟨b, r, rfl, _⟩
  · omega
  · simp [Gh.sn]
/-- a cell of a new list is written. -/
theorem New.store {G G' : GH} {A : Option Addr} {c n : Nat} {cs : List Value} (h : New G G' A c cs 1 n) {k : Nat} {v : Value} {K : Value → GH → Prop} (hk : k < n) (hv : oneB v = true) (hK : ∀ G'', New G G'' A c (cs.set k v) 1 n → K undef G'') : gSt 1 (.pointer (pa A k)) v G' K := by
  rcases h with ⟨_, _, h0, _, _⟩ | ⟨b, r, rfl, h2, rfl, h3, h4, h5⟩
  · omega
  · rw [pa_mk, Nat.zero_add]
    refine st_one (put_same _ _ _) (by rw [h4]; omega) hv ?_
    rw [put_put', List.set_append_left _ _ (by omega)]
    exact hK _ (.inr ⟨b, r, rfl, h2, rfl, by simpa using h3, by simpa using h4, h5⟩)
/-- the result of a function that returns a list and a code. -/
abbrev LI (v : List Int × Int) (K : Value → GH → Prop) (G : GH) : Prop := ∀ G' A c, New G G' A c (v.1.map I64) 1 v.1.length → K (.tuple [.slice A v.1.length c, .int .i64 v.2].toArray) G'
theorem LI.err {K : Value → GH → Prop} {G : GH} {v : List Int × Int} {code : Int} (hk : LI v K G) (h : v = ([], code)) : K (.tuple [.slice none 0 0, .int .i64 code].toArray) G := by
  subst h; exact hk G none 0 (New.nil _ _)
theorem IntS.cells {G : GH} {A : Option Addr} {c : Nat} {xs : List Int} (h : IntS G A c xs) : Cells G A (xs.map I64) := fun i v hv => by
  rw [List.getElem?_map] at hv
  obtain ⟨x, hx, rfl⟩ := Option.map_eq_some_iff.1 hv
  have hi := (List.getElem?_eq_some_iff.1 hx).1
  rw [h.rd i hi]
  simp [List.getD, hx, I64]
theorem map_one (xs : List Int) : ∀ v ∈ xs.map I64, oneB v = true := by
  intro v hv
  obtain ⟨x, _, rfl⟩ := List.mem_map.1 hv
  rfl
theorem slices_Clone_ok {G : GH} {A : Option Addr} {c : Nat} {xs : List Int} (h : IntS G A c xs) (hl : xs.length < 2 ^ 30) {K : Value → GH → Prop}
    (hk : ∀ G' A' c', New G G' A' c' (xs.map I64) 1 xs.length → K (.slice A' xs.length c') G') : GC Try.prog 123 [.slice A xs.length c] G K := by
  refine c_slices_Clone_int64_int64_i (by simp) ?_
  cases A with
  | none =>
    have h0 : xs.length = 0 := by
      rcases Nat.eq_zero_or_pos xs.length with h0 | h0
      · exact h0
      · have := h.sn h0; simp [sn] at this
    obtain rfl : xs = [] := List.length_eq_zero_iff.1 h0
    simp (maxSteps := 300000) (disch := omega) only [gs, gs2, gs3, gs4, ↓reduceIte, Nat.reduceEqDiff, Int.reduceToNat, Nat.reduceMul, Nat.reduceAdd, Nat.reduceBEq, isLd, Option.isNone_none]
    exact hk G none 0 (New.nil _ _)
  | some a =>
    simp (maxSteps := 300000) (disch := omega) only [gs, gs2, gs3, gs4, ↓reduceIte, Nat.reduceEqDiff, Int.reduceToNat, Nat.reduceMul, Nat.reduceAdd, Nat.reduceBEq, isLd, Option.isNone_some, gBs]
    refine ⟨by intro v hv; simp at hv, fun b hb => ?_⟩
    refine ap_new (New.mk hb [] 1 0 rfl) (Sub.refl _) (h.sub (Sub.put hb _)).cells (by simp) (map_one xs) rfl (by omega) (by omega) (by omega) fun G'' A' c' hN => ?_
    simp (maxSteps := 300000) (disch := omega) only [gs, gs2, gs3, gs4, ↓reduceIte, Nat.reduceEqDiff, Int.reduceToNat, Nat.reduceMul, Nat.reduceAdd, Nat.reduceBEq, isLd]
    simpa using hk _ _ _ (hN.cast (by simp) (by simp))
/-- the first k values of a function on the numbers. -/
def mapR (f : Int → Int) (k : Nat) : List Int := (List.range k).map fun v : Nat => f v
theorem mapR_len (f : Int → Int) (k : Nat) : (mapR f k).length = k := by simp [mapR]
def SetOk (N : Gra) (xs : List Int) : Prop := InB xs 0 (N.n - 1) ∧ Rise xs
theorem impl_isSet_ok {G : GH} {N : Gra} {A B : Option Addr} {c d : Nat} {xs : List Int} (hf : IntS G B d xs) (hn : GraOk N) (hl : xs.length < 2 ^ 40) {K : Value → GH → Prop}
    (hk : ∀ b : Bool, (b = true ↔ SetOk N xs) → K (.bool b) G) : GC Try.prog 135 [graV N A c, .slice B xs.length d] G K := by
  refine GC_drop (c_impl_isSet_i (by simp) ?_)
  have hn1 := hn.1
  unfold graV graC
  simp (maxSteps := 300000) (disch := omega) only [gs, gs2, gs3, gs4, ↓reduceIte, Nat.reduceEqDiff, Int.reduceToNat, Nat.reduceMul, Nat.reduceAdd, Nat.reduceBEq, isLd]
  intro b2 hb2
  have s1 := Sub.put hb2 ⟨[.int .i64 N.n, .slice A N.edges.length c], true⟩
  simp (maxSteps := 300000) (disch := omega) only [gs, gs2, gs3, gs4, ↓reduceIte, Nat.reduceEqDiff, Int.reduceToNat, Nat.reduceMul, Nat.reduceAdd, Nat.reduceBEq, isLd]
  refine impl_isRising_ok (hf.sub s1) hl fun b hb => ?_
  cases b
  · simp (maxSteps := 300000) (disch := omega) only [gs, gs2, gs3, gs4, ↓reduceIte, Nat.reduceEqDiff, Int.reduceToNat, Nat.reduceMul, Nat.reduceAdd, Nat.reduceBEq, isLd]
    exact ⟨G, s1, hk false (by simp only [Bool.false_eq_true, false_iff] at hb ⊢; exact fun x => hb x.2)⟩
  · simp (maxSteps := 300000) (disch := omega) only [gs, gs2, gs3, gs4, ↓reduceIte, Nat.reduceEqDiff, Int.reduceToNat, Nat.reduceMul, Nat.reduceAdd, Nat.reduceBEq, isLd]
    refine impl_areElements_ok (hf.sub s1) hl fun b' hb' => ?_
    simp (maxSteps := 300000) (disch := omega) only [gs, gs2, gs3, gs4, ↓reduceIte, Nat.reduceEqDiff, Int.reduceToNat, Nat.reduceMul, Nat.reduceAdd, Nat.reduceBEq, isLd]
    have hw : IntKind.i64.wrap (N.n - 1) = N.n - 1 := w64 _ (by omega) (by omega)
    rw [hw] at hb'
    exact ⟨G, s1, hk b' (by rw [hb']; exact ⟨fun x => ⟨x, hb.1 rfl⟩, fun x => x.1⟩)⟩
/-- what can still be sent. -/
def left (es : List T3) (t : Int) (fl : List Int) : Nat := (24000000 - exc es fl t es.length).toNat
theorem mulB {a b : Int} {A B : Nat} (ha : -(A : Int) ≤ a ∧ a ≤ A) (hb : -(B : Int) ≤ b ∧ b ≤ B) : -((A * B : Nat) : Int) ≤ a * b ∧ a * b ≤ ((A * B : Nat) : Int) := by
  have h1 : a.natAbs ≤ A := by omega
  have h2 : b.natAbs ≤ B := by omega
  have h3 : (a * b).natAbs ≤ A * B := by rw [Int.natAbs_mul]; exact Nat.mul_le_mul h1 h2
  omega
theorem xg_rd {G : GH} {B : Option Addr} {d : Nat} {x : List Int} (hf : IntS G B d x) {v : Int} (h : v.toNat < x.length) : rd G (pa B v.toNat) = some (.int .i64 (xg x v)) := hf.rd _ h
theorem d_bd {N : Gra} {x : List Int} (hn : GraOk N) (hx : VecOk N x) {k : Nat} (hk : k < N.edges.length) : -18000000 ≤ (N.edges.getD k z3).2.2 * (xg x (N.edges.getD k z3).1 - xg x (N.edges.getD k z3).2.1) ∧ (N.edges.getD k z3).2.2 * (xg x (N.edges.getD k z3).1 - xg x (N.edges.getD k z3).2.1) ≤ 18000000 := by
  obtain ⟨e1, e2, e3, e4⟩ := hn.2.1 k hk
  have b1 := xg_bd hx (v := (N.edges.getD k z3).1) ⟨by omega, by omega⟩
  have b2 := xg_bd hx (v := (N.edges.getD k z3).2.1) ⟨by omega, by omega⟩
  exact mulB (A := 9) (B := 2000000) (by omega) (by omega)
theorem apK_bd {N : Gra} {x : List Int} (hn : GraOk N) (hx : VecOk N x) (i : Int) : ∀ k : Nat, k ≤ N.edges.length → -(18000000 * k) ≤ apK N.edges x k i ∧ apK N.edges x k i ≤ 18000000 * k
  | 0, _ => by simp [apK]
  | k + 1, hk => by
    have ih := apK_bd hn hx i k (by omega)
    have hd := d_bd hn hx (k := k) (by omega)
    obtain ⟨e1, e2, e3, e4⟩ := hn.2.1 k (by omega)
    rw [apK_step hn.okE x (by omega)]
    split <;> split <;> omega
/-- one cell of one's own block is written: all else stays. -/
def Keep (b : Nat) (G G' : GH) : Prop := ∀ x, x ≠ b → G' x = G x
theorem rd_fcells {G : GH} {b n : Nat} {f : Int → Int} (h : G b = some ⟨fcells n f, true⟩) {v : Int} (h0 : 0 ≤ v) (h1 : v < n) : rd G (some ⟨b, v.toNat, none⟩) = some (.int .i64 (f v)) := by
  simp only [rd, h, Option.bind_some]
  have := fcells_get (b := f) (rest := []) h0 h1
  rw [List.append_nil] at this; exact this
theorem st_fcells {G : GH} {b n : Nat} {f : Int → Int} (h : G b = some ⟨fcells n f, true⟩) {v x : Int} (h0 : 0 ≤ v) (h1 : v < n) {K : Value → GH → Prop} (hk : ∀ G', G' b = some ⟨fcells n (updAt f v x), true⟩ → Keep b G G' → K undef G') : gSt 1 (.pointer (some ⟨b, v.toNat, none⟩)) (.int .i64 x) G K := by
  refine st_one h (by rw [fcells_len]; omega) rfl (hk _ ?_ fun y hy => put_ne _ _ hy)
  rw [put_same]
  have := fcells_set (b := f) (rest := []) (x := x) h0 h1
  rw [List.append_nil, List.append_nil] at this
  rw [this]; rfl
theorem rd_keep {b : Nat} {G G' : GH} (h : Keep b G G') {y o : Nat} {v : Value} (hy : y ≠ b) (hr : rd G (some ⟨y, o, none⟩) = some v) : rd G' (some ⟨y, o, none⟩) = some v := by
  simp only [rd] at hr ⊢; rw [h y hy]; exact hr
theorem sub_keep {b : Nat} {G G' H : GH} (h : Keep b G G') (hb : H b = none) (s : Sub H G) : Sub H G' := fun x e hx => by
  have : x ≠ b := fun e' => by rw [e', hb] at hx; cases hx
  rw [h x this]; exact s x e hx
theorem spec_l16Apply_ok {G : GH} {q : Option Addr} {N : Gra} {A B : Option Addr} {c d : Nat} {x : List Int} (h : GraP G q N A c) (hf : IntS G B d x) (hn : GraOk N) (hx : VecOk N x) {K : Value → GH → Prop}
    (hk : ∀ G' b, G b = none → Sub G G' → G' b = some ⟨fcells N.n.toNat (apK N.edges x N.edges.length), true⟩ → K (.slice (some ⟨b, 0, none⟩) N.n.toNat N.n.toNat) G') : GC Try.prog 133 [.pointer q, .slice B x.length d] G K := by
  refine c_spec_l16Apply_i (by simp) ?_
  have hq := rd_some h.f0
  have f0 := h.f0
  have f1 := h.f1
  have hn1 := hn.1
  have hn4 := hn.2.2.2
  have hx1 := hx.1
  simp (maxSteps := 300000) (disch := omega) only [gs, gs2, gs3, gs4, ↓reduceIte, Nat.reduceEqDiff, Int.reduceToNat, Nat.reduceMul, Nat.reduceAdd, Nat.reduceBEq, isLd, f0]
  refine ⟨N.n.toNat, N.n.toNat, by rw [Int.toNat_of_nonneg (by omega)], by rw [Int.toNat_of_nonneg (by omega)], Nat.le_refl _, by omega, by omega, fun b5 hb5 => ?_⟩
  have hz : zc [.int .i64 0] N.n.toNat = fcells N.n.toNat (apK N.edges x 0) := by rw [zc_one, rep_range]; rfl
  rw [hz]
  have hS0 := Sub.put hb5 ⟨fcells N.n.toNat (apK N.edges x 0), true⟩
  have hF0 := put_same G b5 ⟨fcells N.n.toNat (apK N.edges x 0), true⟩
  revert hS0 hF0
  generalize put G b5 ⟨fcells N.n.toNat (apK N.edges x 0), true⟩ = G1
  intro hS0 hF0
  simp (maxSteps := 300000) (disch := omega) only [gs, gs2, gs3, gs4, ↓reduceIte, Nat.reduceEqDiff, Int.reduceToNat, Nat.reduceMul, Nat.reduceAdd, Nat.reduceBEq, isLd]
  refine gLoop_intro (fun m T G' => ∃ k : Nat, T 0 = .pointer q ∧ T 1 = .slice B x.length d ∧ T 5 = .slice (some ⟨b5, 0, none⟩) N.n.toNat N.n.toNat ∧ T 6 = .int .i64 k ∧ m + k = N.edges.length ∧ k ≤ N.edges.length ∧ Sub G G' ∧ G' b5 = some ⟨fcells N.n.toNat (apK N.edges x k), true⟩)
    N.edges.length ⟨0, by simp (maxSteps := 300000) (disch := omega) only [gs, gs2, gs3, gs4, ↓reduceIte, Nat.reduceEqDiff, Int.reduceToNat, Nat.reduceMul, Nat.reduceAdd, Nat.reduceBEq, isLd], by simp (maxSteps := 300000) (disch := omega) only [gs, gs2, gs3, gs4, ↓reduceIte, Nat.reduceEqDiff, Int.reduceToNat, Nat.reduceMul, Nat.reduceAdd, Nat.reduceBEq, isLd], by simp (maxSteps := 300000) (disch := omega) only [gs, gs2, gs3, gs4, ↓reduceIte, Nat.reduceEqDiff, Int.reduceToNat, Nat.reduceMul, Nat.reduceAdd, Nat.reduceBEq, isLd], by simp (maxSteps := 300000) (disch := omega) only [gs, gs2, gs3, gs4, ↓reduceIte, Nat.reduceEqDiff, Int.reduceToNat, Nat.reduceMul, Nat.reduceAdd, Nat.reduceBEq, isLd] <;> rfl, by omega, by omega, hS0, hF0⟩ ?_
  clear hS0 hF0
  rintro m T G' ⟨k, e0, e1, e5, e6, hm, hkl, s, hF⟩
  have g0 := rd_sub s f0
  have g1 := rd_sub s f1
  have hh := h.edges.sub s
  have hsn := hh.sn
  have p0 := hh.r0
  have p1 := hh.r1
  have p2 := hh.r2
  simp (maxSteps := 300000) (disch := omega) only [gs, gs2, gs3, gs4, ↓reduceIte, Nat.reduceEqDiff, Int.reduceToNat, Nat.reduceMul, Nat.reduceAdd, Nat.reduceBEq, isLd, e0, e1, e5, e6, g1]
  by_cases hkk : (k : Int) < N.edges.length
  · simp (maxSteps := 300000) (disch := omega) only [gs, gs2, gs3, gs4, ↓reduceIte, Nat.reduceEqDiff, Int.reduceToNat, Nat.reduceMul, Nat.reduceAdd, Nat.reduceBEq, isLd, e0, e1, e5, e6, g1, hkk, p0, p1, p2]
    intro b7 hb7
    simp (maxSteps := 300000) (disch := omega) only [gs, gs2, gs3, gs4, ↓reduceIte, Nat.reduceEqDiff, Int.reduceToNat, Nat.reduceMul, Nat.reduceAdd, Nat.reduceBEq, isLd, e0, e1, e5, e6]
    refine st_fresh (vs := c3 (N.edges.getD k z3)) rfl rfl rfl (c3_one _) ?_
    have s7 := Sub.put hb7 ⟨c3 (N.edges.getD k z3), true⟩
    obtain ⟨o1, o2, o3, o4⟩ := hn.2.1 k (by omega)
    have hd := d_bd hn hx (k := k) (by omega)
    have hx0 := xg_rd (v := (N.edges.getD k z3).1) ((hf.sub s).sub s7) (by omega)
    have hx2 := xg_rd (v := (N.edges.getD k z3).2.1) ((hf.sub s).sub s7) (by omega)
    have xb1 := xg_bd hx (v := (N.edges.getD k z3).1) ⟨by omega, by omega⟩
    have xb2 := xg_bd hx (v := (N.edges.getD k z3).2.1) ⟨by omega, by omega⟩
    have hsB : 0 < sn B := hf.sn (by omega)
    have hap : apK N.edges x (k + 1) = updAt (updAt (apK N.edges x k) (N.edges.getD k z3).1 (apK N.edges x k (N.edges.getD k z3).1 + (N.edges.getD k z3).2.2 * (xg x (N.edges.getD k z3).1 - xg x (N.edges.getD k z3).2.1))) (N.edges.getD k z3).2.1 (updAt (apK N.edges x k) (N.edges.getD k z3).1 (apK N.edges x k (N.edges.getD k z3).1 + (N.edges.getD k z3).2.2 * (xg x (N.edges.getD k z3).1 - xg x (N.edges.getD k z3).2.1)) (N.edges.getD k z3).2.1 - (N.edges.getD k z3).2.2 * (xg x (N.edges.getD k z3).1 - xg x (N.edges.getD k z3).2.1)) := rfl
    have ab1 := apK_bd hn hx (N.edges.getD k z3).1 k hkl
    have ab2 := apK_bd hn hx (N.edges.getD k z3).2.1 k hkl
    have q0 : rd (put G' b7 ⟨c3 (N.edges.getD k z3), true⟩) (some ⟨b7, 0, none⟩) = some (.int .i64 (N.edges.getD k z3).1) := rd_box _ _ _ 0 _ rfl
    have q1 : rd (put G' b7 ⟨c3 (N.edges.getD k z3), true⟩) (some ⟨b7, 1, none⟩) = some (.int .i64 (N.edges.getD k z3).2.1) := rd_box _ _ _ 1 _ rfl
    have q2 : rd (put G' b7 ⟨c3 (N.edges.getD k z3), true⟩) (some ⟨b7, 2, none⟩) = some (.int .i64 (N.edges.getD k z3).2.2) := rd_box _ _ _ 2 _ rfl
    have hF7 := s7 _ _ hF
    have hne : b7 ≠ b5 := (blk_ne hF hb7).symm
    have sG := s.trans s7
    revert hx0 hx2 q0 q1 q2 hF7 sG
    clear hh hsn p0 p1 p2 s7
    generalize put G' b7 ⟨c3 (N.edges.getD k z3), true⟩ = H
    intro hx0 hx2 q0 q1 q2 hF7 sG
    generalize (N.edges.getD k z3).1 = u at *
    generalize (N.edges.getD k z3).2.1 = w at *
    generalize (N.edges.getD k z3).2.2 = z at *
    have mb := mulB (a := z) (b := xg x u - xg x w) (A := 9) (B := 2000000) (by omega) (by omega)
    have hmw := w64 (z * (xg x u - xg x w)) (by omega) (by omega)
    obtain ⟨dd, hdd⟩ : ∃ dd, dd = z * (xg x u - xg x w) := ⟨_, rfl⟩
    rw [← hdd] at mb hap hd
    rw [show z * (xg x u - xg x w) = dd from hdd.symm] at hmw
    have hmw2 : IntKind.i64.wrap (z * (xg x u - xg x w)) = dd := by rw [← hdd]; exact hmw
    have hy0 := rd_fcells hF7 (v := u) (by omega) (by omega)
    simp (maxSteps := 300000) (disch := omega) only [gs, gs2, gs3, gs4, ↓reduceIte, Nat.reduceEqDiff, Int.reduceToNat, Nat.reduceMul, Nat.reduceAdd, Nat.reduceBEq, isLd, e0, e1, e5, e6, q0, q1, q2, hx0, hx2, hmw2, hy0]
    refine st_fcells hF7 (by omega) (by omega) fun H2 hF8 hG8 => ?_
    have q0 := rd_keep hG8 hne q0
    have q1 := rd_keep hG8 hne q1
    have q2 := rd_keep hG8 hne q2
    have sG2 := sub_keep hG8 hb5 sG
    have hy1 := rd_fcells hF8 (v := w) (by omega) (by omega)
    rw [show updAt (apK N.edges x k) u (apK N.edges x k u + dd) w = apK N.edges x k w from if_neg (by omega)] at hy1
    simp (maxSteps := 300000) (disch := omega) only [gs, gs2, gs3, gs4, ↓reduceIte, Nat.reduceEqDiff, Int.reduceToNat, Nat.reduceMul, Nat.reduceAdd, Nat.reduceBEq, isLd, e0, e1, e5, e6, q0, q1, q2, hy1]
    refine st_fcells hF8 (by omega) (by omega) fun H3 hF9 hG9 => ?_
    have sG3 := sub_keep hG9 hb5 sG2
    simp (maxSteps := 300000) (disch := omega) only [gs, gs2, gs3, gs4, ↓reduceIte, Nat.reduceEqDiff, Int.reduceToNat, Nat.reduceMul, Nat.reduceAdd, Nat.reduceBEq, isLd, e0, e1, e5, e6]
    refine ⟨m - 1, by omega, H3, Sub.refl _, k + 1, rfl, by omega, by omega, sG3, ?_⟩
    rw [hap, show updAt (apK N.edges x k) u (apK N.edges x k u + dd) w = apK N.edges x k w from if_neg (by omega)]
    exact hF9
  · simp (maxSteps := 300000) (disch := omega) only [gs, gs2, gs3, gs4, ↓reduceIte, Nat.reduceEqDiff, Int.reduceToNat, Nat.reduceMul, Nat.reduceAdd, Nat.reduceBEq, isLd, e0, e1, e5, e6, g1, hkk]
    obtain rfl : k = N.edges.length := by omega
    exact hk _ _ hb5 s hF
/-- neighbours change places. -/
def sw (ys : List Int) (j : Nat) : List Int := (ys.set j (ys.getD (j - 1) 0)).set (j - 1) (ys.getD j 0)
def del (G : GH) (b : Nat) : GH := fun x => if x = b then none else G x
theorem del_none (G : GH) (b : Nat) : del G b b = none := if_pos rfl
theorem Sub.del (G : GH) (b : Nat) : Sub (Gh.del G b) G := fun x e h => by
  unfold Gh.del at h; split at h
  · cases h
  · exact h
theorem Sub.in_del {K G : GH} {b : Nat} (s : Sub K G) (h : K b = Option.none) : Sub K (Gh.del G b) := fun x e hx => by
  have hxb : x ≠ b := fun e' => by rw [e', h] at hx; cases hx
  unfold Gh.del; rw [if_neg hxb]; exact s x e hx
theorem del_ne (G : GH) {b x : Nat} (h : x ≠ b) : del G b x = G x := if_neg h
/-- the result of a function that returns a list, a number and a code. -/
abbrev LII (v : List Int × Int × Int) (K : Value → GH → Prop) (G : GH) : Prop := ∀ G' A c, New G G' A c (v.1.map I64) 1 v.1.length → K (.tuple [.slice A v.1.length c, .int .i64 v.2.1, .int .i64 v.2.2].toArray) G'
theorem LII.err {K : Value → GH → Prop} {G : GH} {v : List Int × Int × Int} {code : Int} (hk : LII v K G) (h : v = ([], 0, code)) : K (.tuple [.slice none 0 0, .int .i64 0, .int .i64 code].toArray) G := by
  subst h; exact hk G none 0 (New.nil _ _)
theorem bv_nat {a : Nat} (ha : a < 2 ^ 63) : (BitVec.ofInt 64 (a : Int)).toNat = a := by
  rw [BitVec.ofInt_natCast, BitVec.toNat_ofNat]; exact Nat.mod_eq_of_lt (by omega)
theorem and_nat {a b : Nat} (ha : a < 2 ^ 63) (hb : b < 2 ^ 63) : binV .and (.int .i64 (a : Int)) (.int .i64 (b : Int)) = some (.int .i64 ((a &&& b : Nat) : Int)) := by
  have h1 : (a &&& b) ≤ a := Nat.and_le_left
  have h2 : binV .and (.int .i64 (a : Int)) (.int .i64 (b : Int)) = some (.int .i64 (IntKind.i64.wrap ((BitVec.ofInt 64 (a : Int) &&& BitVec.ofInt 64 (b : Int)).toNat : Nat))) := rfl
  rw [h2, BitVec.toNat_and, bv_nat ha, bv_nat hb, w64 _ (by omega) (by omega)]
theorem shl_nat {j : Nat} (hj : j ≤ 12) {y : Int} (hy : y = j) : binV .shl (.int .i64 1) (.int .i64 y) = some (.int .i64 ((2 ^ j : Nat) : Int)) := by
  subst hy
  have h1 : (2 : Nat) ^ j ≤ 2 ^ 12 := Nat.pow_le_pow_right (by omega) hj
  have h2 : binV .shl (.int .i64 1) (.int .i64 (j : Int)) = some (.int .i64 (IntKind.i64.wrap (2 ^ j))) := by
    simp [binV, binOp, Op.shift, pureOf, pure, IntKind.bits, show min j 64 = j by omega]
    try omega
  rw [h2]
  have h3 : ((2 ^ j : Nat) : Int) = (2 : Int) ^ j := by simp
  have h4 : ((2 ^ j : Nat) : Int) ≤ ((2 ^ 12 : Nat) : Int) := Int.ofNat_le.2 h1
  have h5 : (0 : Int) ≤ ((2 ^ j : Nat) : Int) := Int.natCast_nonneg _
  rw [← h3]
  generalize ((2 ^ j : Nat) : Int) = z at *
  rw [w64 z (by omega) (by omega)]
theorem shr_nat {a j : Nat} (hj : j ≤ 62) : binV .shr (.int .i64 (a : Int)) (.int .i64 (j : Int)) = some (.int .i64 ((a / 2 ^ j : Nat) : Int)) := by
  have h2 : binV .shr (.int .i64 (a : Int)) (.int .i64 (j : Int)) = some (.int .i64 ((a : Int).fdiv (2 ^ j))) := by
    simp [binV, binOp, Op.shift, pureOf, pure, IntKind.bits, show min j 64 = j by omega]
    exact (Int.fdiv_eq_ediv_of_nonneg _ (Int.pow_nonneg (by omega))).symm
  rw [h2]
  have h3 : ((2 ^ j : Nat) : Int) = (2 : Int) ^ j := by simp
  rw [← h3, ← Int.ofNat_fdiv]
/-- places beyond the highest bit do not matter. -/
theorem bitsL_12 {s n : Nat} (h : s < 2 ^ n) (hn : n ≤ 12) : bitsL s 12 = bitsL s n := by
  have := bitsL_end h (12 - n)
  rwa [show n + (12 - n) = 12 by omega] at this
theorem shr_pos {s k : Nat} : 0 < s / 2 ^ k ↔ ¬ s < 2 ^ k := by
  have := Nat.pow_pos (n := k) (show 0 < 2 by omega)
  rw [Nat.not_lt]
  exact ⟨fun h => by
    rcases Nat.lt_or_ge s (2 ^ k) with h1 | h1
    · rw [Nat.div_eq_of_lt h1] at h; omega
    · exact h1, fun h => Nat.div_pos h this⟩
theorem bit_and1 {s k : Nat} (hs : s < 2 ^ 63) : binV .and (.int .i64 ((s / 2 ^ k : Nat) : Int)) (.int .i64 1) = some (.int .i64 (if s.testBit k = true then 1 else 0)) := by
  have hle : s / 2 ^ k ≤ s := Nat.div_le_self _ _
  have := and_nat (a := s / 2 ^ k) (b := 1) (by omega) (by omega)
  rw [show ((1 : Nat) : Int) = 1 from rfl] at this
  rw [this, Nat.and_one_is_mod]
  have e : s.testBit k = decide (s / 2 ^ k % 2 = 1) := Nat.testBit_eq_decide_div_mod_eq
  rw [e]
  by_cases h : s / 2 ^ k % 2 = 1
  · simp [h]
  · have : s / 2 ^ k % 2 = 0 := by omega
    simp [this]
theorem impl_members_ok {G : GH} {s : Nat} (hs : s < 2 ^ 12) {K : Value → GH → Prop}
    (hk : ∀ G' A c, New G G' A c ((bitsL s 12).map I64) 1 (bitsL s 12).length → K (.slice A (bitsL s 12).length c) G') : GC Try.prog 142 [.int .i64 s] G K := by
  refine c_impl_members_i (by simp) ?_
  simp (maxSteps := 300000) (disch := omega) only [gs, gs2, gs3, gs4, ↓reduceIte, Nat.reduceEqDiff, Int.reduceToNat, Nat.reduceMul, Nat.reduceAdd, Nat.reduceBEq, isLd]
  refine gLoop_intro (fun m T G' => ∃ (k : Nat) (A : Option Addr) (c : Nat), T 0 = .int .i64 s ∧ T 3 = .slice A (bitsL s k).length c ∧ T 4 = .int .i64 k ∧ m + k = 12 ∧ k ≤ 12 ∧ New G G' A c ((bitsL s k).map I64) 1 (bitsL s k).length)
    12 ⟨0, none, 0, by simp (maxSteps := 300000) (disch := omega) only [gs, gs2, gs3, gs4, ↓reduceIte, Nat.reduceEqDiff, Int.reduceToNat, Nat.reduceMul, Nat.reduceAdd, Nat.reduceBEq, isLd], by simp (maxSteps := 300000) (disch := omega) only [gs, gs2, gs3, gs4, ↓reduceIte, Nat.reduceEqDiff, Int.reduceToNat, Nat.reduceMul, Nat.reduceAdd, Nat.reduceBEq, isLd] <;> rfl, by simp (maxSteps := 300000) (disch := omega) only [gs, gs2, gs3, gs4, ↓reduceIte, Nat.reduceEqDiff, Int.reduceToNat, Nat.reduceMul, Nat.reduceAdd, Nat.reduceBEq, isLd] <;> rfl, by omega, by omega, New.nil _ _⟩ ?_
  rintro m T G' ⟨k, A, c, e0, e3, e4, hm, hkm, hN⟩
  have h1 := shr_nat (a := s) (j := k) (by omega)
  have h2 := bit_and1 (s := s) (k := k) (by omega)
  have hlen := bitsL_len s k
  simp (maxSteps := 300000) (disch := omega) only [gs, gs2, gs3, gs4, ↓reduceIte, Nat.reduceEqDiff, Int.reduceToNat, Nat.reduceMul, Nat.reduceAdd, Nat.reduceBEq, isLd, e0, e3, e4, h1]
  by_cases hp : s < 2 ^ k
  · have hz : s / 2 ^ k = 0 := Nat.div_eq_of_lt hp
    rw [hz]
    simp (maxSteps := 300000) (disch := omega) only [gs, gs2, gs3, gs4, ↓reduceIte, Nat.reduceEqDiff, Int.reduceToNat, Nat.reduceMul, Nat.reduceAdd, Nat.reduceBEq, isLd, show ((0 : Int) < ((0 : Nat) : Int)) = False from eq_false (by omega), e0, e3, e4]
    have he := bitsL_end hp (12 - k)
    rw [show k + (12 - k) = 12 by omega] at he
    rw [he] at hk
    exact hk _ _ _ hN
  · have hpos : ((0 : Int) < ((s / 2 ^ k : Nat) : Int)) := by have := shr_pos.2 hp; omega
    have hk12 : k < 12 := by
      rcases Nat.lt_or_ge k 12 with h | h
      · exact h
      · obtain rfl : k = 12 := by omega
        exact absurd hs hp
    simp (maxSteps := 300000) (disch := omega) only [gs, gs2, gs3, gs4, ↓reduceIte, Nat.reduceEqDiff, Int.reduceToNat, Nat.reduceMul, Nat.reduceAdd, Nat.reduceBEq, isLd, eq_true hpos, e0, e3, e4, h1]
    have hsu := bitsL_succ s k
    by_cases ht : s.testBit k = true
    · rw [if_pos ht] at hsu
      rw [if_pos ht] at h2
      simp (maxSteps := 300000) (disch := omega) only [gs, gs2, gs3, gs4, ↓reduceIte, Nat.reduceEqDiff, Int.reduceToNat, Nat.reduceMul, Nat.reduceAdd, Nat.reduceBEq, isLd, eq_true (show (1 : Int) = 1 from rfl), e0, e3, e4, h1, h2, gBs]
      refine ⟨by intro v hv; simp at hv; subst hv; rfl, fun b9 hb9 => ?_⟩
      refine ap_new hN (Sub.put hb9 _) (cells_one [.int .i64 (k : Int)] true) (by rfl) (by intro v hv; simp at hv; subst hv; rfl) rfl (by omega) (by omega) (by omega) fun G'' A' c' hN' => ?_
      simp (maxSteps := 300000) (disch := omega) only [gs, gs2, gs3, gs4, ↓reduceIte, Nat.reduceEqDiff, Int.reduceToNat, Nat.reduceMul, Nat.reduceAdd, Nat.reduceBEq, isLd, e0, e3, e4]
      exact ⟨m - 1, by omega, _, Sub.refl _, k + 1, A', c', by rw [hsu]; simp, rfl, by omega, by omega, by rw [hsu]; exact hN'.cast (by simp [I64]) (by simp)⟩
    · rw [if_neg ht] at hsu
      rw [if_neg ht] at h2
      simp (maxSteps := 300000) (disch := omega) only [gs, gs2, gs3, gs4, ↓reduceIte, Nat.reduceEqDiff, Int.reduceToNat, Nat.reduceMul, Nat.reduceAdd, Nat.reduceBEq, isLd, show ((0 : Int) = 1) = False from eq_false (by omega), e0, e3, e4, h1, h2]
      exact ⟨m - 1, by omega, _, Sub.refl _, k + 1, A, c, by rw [hsu], rfl, by omega, by omega, by rw [hsu]; exact hN⟩
theorem cw_yes {es : List T3} {xs : List Int} {k : Nat} (h : offE xs (es.getD k z3)) : cwK es xs (k + 1) = cwK es xs k + (es.getD k z3).2.2 := by rw [cwK, if_pos h]
theorem cw_no {es : List T3} {xs : List Int} {k : Nat} (h : ¬ offE xs (es.getD k z3)) : cwK es xs (k + 1) = cwK es xs k := by rw [cwK, if_neg h]
theorem impl_cutWeight_ok {G : GH} {N : Gra} {A B : Option Addr} {c d : Nat} {xs : List Int} (h : T3S G A c N.edges) (hf : IntS G B d xs) (hn : GraOk N) (hl : xs.length < 2 ^ 40) {K : Value → GH → Prop}
    (hk : K (.int .i64 (cwK N.edges xs N.edges.length)) G) : GC Try.prog 143 [graV N A c, .slice B xs.length d] G K := by
  refine GC_drop (c_impl_cutWeight_i (by simp) ?_)
  have hn4 := hn.2.2.2
  unfold graV graC
  simp (maxSteps := 300000) (disch := omega) only [gs, gs2, gs3, gs4, ↓reduceIte, Nat.reduceEqDiff, Int.reduceToNat, Nat.reduceMul, Nat.reduceAdd, Nat.reduceBEq, isLd]
  intro b1 hb1
  have s1 := Sub.put hb1 ⟨[.int .i64 N.n, .slice A N.edges.length c], true⟩
  have f1 : rd (put G b1 ⟨[.int .i64 N.n, .slice A N.edges.length c], true⟩) (some ⟨b1, 1, none⟩) = some (.slice A N.edges.length c) := rd_box _ _ _ 1 _ rfl
  revert s1 f1
  generalize put G b1 ⟨[.int .i64 N.n, .slice A N.edges.length c], true⟩ = G1
  intro s1 f1
  simp (maxSteps := 300000) (disch := omega) only [gs, gs2, gs3, gs4, ↓reduceIte, Nat.reduceEqDiff, Int.reduceToNat, Nat.reduceMul, Nat.reduceAdd, Nat.reduceBEq, isLd, f1]
  refine gLoop_intro (fun m T G' => ∃ k : Nat, T 1 = .slice B xs.length d ∧ T 5 = .int .i64 (cwK N.edges xs k) ∧ T 9 = .slice A N.edges.length c ∧ T 10 = .int .i64 N.edges.length ∧ T 11 = .int .i64 k ∧ m + k = N.edges.length ∧ k ≤ N.edges.length ∧ G' = G1)
    N.edges.length ⟨0, by simp (maxSteps := 300000) (disch := omega) only [gs, gs2, gs3, gs4, ↓reduceIte, Nat.reduceEqDiff, Int.reduceToNat, Nat.reduceMul, Nat.reduceAdd, Nat.reduceBEq, isLd], by simp (maxSteps := 300000) (disch := omega) only [gs, gs2, gs3, gs4, ↓reduceIte, Nat.reduceEqDiff, Int.reduceToNat, Nat.reduceMul, Nat.reduceAdd, Nat.reduceBEq, isLd] <;> rfl, by simp (maxSteps := 300000) (disch := omega) only [gs, gs2, gs3, gs4, ↓reduceIte, Nat.reduceEqDiff, Int.reduceToNat, Nat.reduceMul, Nat.reduceAdd, Nat.reduceBEq, isLd], by simp (maxSteps := 300000) (disch := omega) only [gs, gs2, gs3, gs4, ↓reduceIte, Nat.reduceEqDiff, Int.reduceToNat, Nat.reduceMul, Nat.reduceAdd, Nat.reduceBEq, isLd], by simp (maxSteps := 300000) (disch := omega) only [gs, gs2, gs3, gs4, ↓reduceIte, Nat.reduceEqDiff, Int.reduceToNat, Nat.reduceMul, Nat.reduceAdd, Nat.reduceBEq, isLd] <;> rfl, by omega, by omega, rfl⟩ ?_
  rintro m T G' ⟨k, e1, e5, e9, e10, e11, hm, hkl, rfl⟩
  have hh := h.sub s1
  have hsn := hh.sn
  have p0 := hh.r0
  have p1 := hh.r1
  have p2 := hh.r2
  simp (maxSteps := 300000) (disch := omega) only [gs, gs2, gs3, gs4, ↓reduceIte, Nat.reduceEqDiff, Int.reduceToNat, Nat.reduceMul, Nat.reduceAdd, Nat.reduceBEq, isLd, e1, e5, e9, e10, e11]
  by_cases hkk : (k : Int) < N.edges.length
  · simp (maxSteps := 300000) (disch := omega) only [gs, gs2, gs3, gs4, ↓reduceIte, Nat.reduceEqDiff, Int.reduceToNat, Nat.reduceMul, Nat.reduceAdd, Nat.reduceBEq, isLd, e1, e5, e9, e10, e11, hkk, p0, p1, p2]
    intro b7 hb7
    simp (maxSteps := 300000) (disch := omega) only [gs, gs2, gs3, gs4, ↓reduceIte, Nat.reduceEqDiff, Int.reduceToNat, Nat.reduceMul, Nat.reduceAdd, Nat.reduceBEq, isLd, e1, e5, e9, e10, e11]
    refine st_fresh (vs := c3 (N.edges.getD k z3)) rfl rfl rfl (c3_one _) ?_
    have s7 := Sub.put hb7 ⟨c3 (N.edges.getD k z3), true⟩
    have q0 : rd (put G' b7 ⟨c3 (N.edges.getD k z3), true⟩) (some ⟨b7, 0, none⟩) = some (.int .i64 (N.edges.getD k z3).1) := rd_box _ _ _ 0 _ rfl
    have q1 : rd (put G' b7 ⟨c3 (N.edges.getD k z3), true⟩) (some ⟨b7, 1, none⟩) = some (.int .i64 (N.edges.getD k z3).2.1) := rd_box _ _ _ 1 _ rfl
    have q2 : rd (put G' b7 ⟨c3 (N.edges.getD k z3), true⟩) (some ⟨b7, 2, none⟩) = some (.int .i64 (N.edges.getD k z3).2.2) := rd_box _ _ _ 2 _ rfl
    have hf7 := (hf.sub s1).sub s7
    have cb := cw_bd hn xs k hkl
    obtain ⟨o1, o2, o3, o4⟩ := hn.2.1 k (by omega)
    have hyes := cw_yes (es := N.edges) (xs := xs) (k := k)
    have hno := cw_no (es := N.edges) (xs := xs) (k := k)
    unfold offE at hyes hno
    revert q0 q1 q2 s7 hf7
    generalize put G' b7 ⟨c3 (N.edges.getD k z3), true⟩ = H
    intro s7 q0 q1 q2 hf7
    simp (maxSteps := 300000) (disch := omega) only [gs, gs2, gs3, gs4, ↓reduceIte, Nat.reduceEqDiff, Int.reduceToNat, Nat.reduceMul, Nat.reduceAdd, Nat.reduceBEq, isLd, e1, e5, e9, e10, e11, q0, q1, q2]
    refine slices_Contains_ok hf7 hl fun c1 h1 => ?_
    simp (maxSteps := 300000) (disch := omega) only [gs, gs2, gs3, gs4, ↓reduceIte, Nat.reduceEqDiff, Int.reduceToNat, Nat.reduceMul, Nat.reduceAdd, Nat.reduceBEq, isLd, e1, e5, e9, e10, e11, q0, q1, q2]
    refine slices_Contains_ok hf7 hl fun c2 h2 => ?_
    cases c1 <;> cases c2
    · simp (maxSteps := 300000) (disch := omega) only [gs, gs2, gs3, gs4, ↓reduceIte, Nat.reduceEqDiff, Int.reduceToNat, Nat.reduceMul, Nat.reduceAdd, Nat.reduceBEq, isLd, e1, e5, e9, e10, e11, q0, q1, q2]
      exact ⟨m - 1, by omega, G', s7, k + 1, by rw [hno (fun y => y (by rw [← h1, ← h2]))], rfl, by omega, by omega, rfl⟩
    · have hy := hyes (by rw [← h1, ← h2]; simp)
      simp (maxSteps := 300000) (disch := omega) only [gs, gs2, gs3, gs4, ↓reduceIte, Nat.reduceEqDiff, Int.reduceToNat, Nat.reduceMul, Nat.reduceAdd, Nat.reduceBEq, isLd, show ((true : Bool) = false) = False from eq_false (by simp), e1, e5, e9, e10, e11, q0, q1, q2]
      exact ⟨m - 1, by omega, G', s7, k + 1, by rw [hy], rfl, by omega, by omega, rfl⟩
    · have hy := hyes (by rw [← h1, ← h2]; simp)
      simp (maxSteps := 300000) (disch := omega) only [gs, gs2, gs3, gs4, ↓reduceIte, Nat.reduceEqDiff, Int.reduceToNat, Nat.reduceMul, Nat.reduceAdd, Nat.reduceBEq, isLd, show ((true : Bool) = false) = False from eq_false (by simp), e1, e5, e9, e10, e11, q0, q1, q2]
      exact ⟨m - 1, by omega, G', s7, k + 1, by rw [hy], rfl, by omega, by omega, rfl⟩
    · simp (maxSteps := 300000) (disch := omega) only [gs, gs2, gs3, gs4, ↓reduceIte, Nat.reduceEqDiff, Int.reduceToNat, Nat.reduceMul, Nat.reduceAdd, Nat.reduceBEq, isLd, e1, e5, e9, e10, e11, q0, q1, q2]
      exact ⟨m - 1, by omega, G', s7, k + 1, by rw [hno (fun y => y (by rw [← h1, ← h2]))], rfl, by omega, by omega, rfl⟩
  · simp (maxSteps := 300000) (disch := omega) only [gs, gs2, gs3, gs4, ↓reduceIte, Nat.reduceEqDiff, Int.reduceToNat, Nat.reduceMul, Nat.reduceAdd, Nat.reduceBEq, isLd, e1, e5, e9, e10, e11, hkk]
    obtain rfl : k = N.edges.length := by omega
    exact ⟨G, s1, hk⟩
def lbO : Option (List Int × Int) → List Int
  | none => []
  | some p => p.1
def lwO (d : Int) : Option (List Int × Int) → Int
  | none => d
  | some p => p.2
theorem ltK_bd {N : Gra} (hn : GraOk N) {n b : Nat} {p : List Int × Int} (h : ltK N.edges n b = some p) : 0 ≤ p.2 ∧ p.2 ≤ 216 ∧ ∃ c, c < b ∧ p.1 = bitsL (2 * c + 1) n := by
  rcases Nat.eq_zero_or_pos b with rfl | hb
  · cases h
  · obtain ⟨c, hc, e, _⟩ := ltK_some N.edges n b hb
    rw [e] at h; cases h
    have := cw_bd hn (bitsL (2 * c + 1) n) _ (Nat.le_refl _)
    have h4 := hn.2.2.2
    exact ⟨this.1, by dsimp only; omega, c, hc, rfl⟩
theorem ltK_yes {es : List T3} {n b : Nat} (h : ltK es n b = none ∨ ∃ p, ltK es n b = some p ∧ (cwK es (bitsL (2 * b + 1) n) es.length < p.2 ∨ cwK es (bitsL (2 * b + 1) n) es.length = p.2 ∧ lexC (bitsL (2 * b + 1) n) p.1 < 0)) : ltK es n (b + 1) = some (bitsL (2 * b + 1) n, cwK es (bitsL (2 * b + 1) n) es.length) := by
  rw [ltK]
  rcases h with h | ⟨p, h, hc⟩
  · rw [h]
  · rw [h]; dsimp only; rw [if_pos hc]
theorem ltK_no {es : List T3} {n b : Nat} {p : List Int × Int} (h : ltK es n b = some p) (hc : ¬ (cwK es (bitsL (2 * b + 1) n) es.length < p.2 ∨ cwK es (bitsL (2 * b + 1) n) es.length = p.2 ∧ lexC (bitsL (2 * b + 1) n) p.1 < 0)) : ltK es n (b + 1) = some p := by
  rw [ltK, h]; dsimp only; rw [if_neg hc]
open Classical in
noncomputable def lightV (N : Gra) : List Int × Int × Int := if GraOk N then if N.n = 1 then ([], 0, 6) else ((ltV N).1, (ltV N).2, 0) else ([], 0, 1)
theorem ltV_eq {N : Gra} : ltV N = (lbO (ltK N.edges N.n.toNat (2 ^ (N.n.toNat - 1) - 1)), lwO 0 (ltK N.edges N.n.toNat (2 ^ (N.n.toNat - 1) - 1))) := by
  unfold ltV
  cases ltK N.edges N.n.toNat (2 ^ (N.n.toNat - 1) - 1) <;> rfl
theorem lightV_len (N : Gra) : (lightV N).1.length ≤ 2 ^ 20 := by
  unfold lightV
  split
  · rename_i hn
    have hn1 := hn.1
    split
    · simp
    · rw [ltV_eq]
      dsimp only
      cases h : ltK N.edges N.n.toNat (2 ^ (N.n.toNat - 1) - 1) with
      | none => simp [lbO]
      | some p =>
        obtain ⟨_, _, c, _, e⟩ := ltK_bd hn h
        have := bitsL_len (2 * c + 1) N.n.toNat
        simp only [lbO, e]; omega
  · simp
theorem pow_half {n : Nat} (h : 2 ≤ n) (hn : n ≤ 12) : 2 ^ n = 2 * 2 ^ (n - 1) ∧ 2 ≤ 2 ^ (n - 1) ∧ 2 ^ (n - 1) ≤ 2048 := by
  obtain ⟨m, rfl⟩ : ∃ m, n = m + 2 := ⟨n - 2, by omega⟩
  have h1 : (2 : Nat) ^ (m + 2 - 1) ≤ 2 ^ 11 := Nat.pow_le_pow_right (by omega) (by omega)
  have h2 : (2 : Nat) ^ 1 ≤ 2 ^ (m + 2 - 1) := Nat.pow_le_pow_right (by omega) (by omega)
  refine ⟨?_, by omega, by omega⟩
  rw [show m + 2 - 1 = m + 1 by omega, Nat.pow_succ 2 (m + 1)]; omega
theorem impl_LightestCut_ok {G : GH} {N : Gra} {A : Option Addr} {c : Nat} (h : T3S G A c N.edges) (hl : N.edges.length < 2 ^ 40) {K : Value → GH → Prop}
    (hk : LII (lightV N) K G) : GC Try.prog 55 [graV N A c] G K := by
  refine GC_drop (c_impl_LightestCut_i (by simp) ?_)
  unfold graV graC
  simp (maxSteps := 300000) (disch := omega) only [gs, gs2, gs3, gs4, ↓reduceIte, Nat.reduceEqDiff, Int.reduceToNat, Nat.reduceMul, Nat.reduceAdd, Nat.reduceBEq, isLd]
  intro b1 hb1
  have s1 := Sub.put hb1 ⟨[.int .i64 N.n, .slice A N.edges.length c], true⟩
  have f0 : rd (put G b1 ⟨[.int .i64 N.n, .slice A N.edges.length c], true⟩) (some ⟨b1, 0, none⟩) = some (.int .i64 N.n) := rd_box _ _ _ 0 _ rfl
  have f1 : rd (put G b1 ⟨[.int .i64 N.n, .slice A N.edges.length c], true⟩) (some ⟨b1, 1, none⟩) = some (.slice A N.edges.length c) := rd_box _ _ _ 1 _ rfl
  revert s1 f0 f1
  generalize put G b1 ⟨[.int .i64 N.n, .slice A N.edges.length c], true⟩ = G1
  intro s1 f0 f1
  simp (maxSteps := 300000) (disch := omega) only [gs, gs2, gs3, gs4, ↓reduceIte, Nat.reduceEqDiff, Int.reduceToNat, Nat.reduceMul, Nat.reduceAdd, Nat.reduceBEq, isLd, f0, f1]
  refine impl_ValidGraph_ok (N := N) (h.sub s1) hl fun b hb => ?_
  cases b
  · simp (maxSteps := 300000) (disch := omega) only [gs, gs2, gs3, gs4, ↓reduceIte, Nat.reduceEqDiff, Int.reduceToNat, Nat.reduceMul, Nat.reduceAdd, Nat.reduceBEq, isLd]
    exact ⟨G, s1, hk.err (if_neg (fun x => by simpa using hb.2 x))⟩
  have hn := hb.1 rfl
  have hn1 := hn.1
  have hn4 := hn.2.2.2
  simp (maxSteps := 300000) (disch := omega) only [gs, gs2, gs3, gs4, ↓reduceIte, Nat.reduceEqDiff, Int.reduceToNat, Nat.reduceMul, Nat.reduceAdd, Nat.reduceBEq, isLd, f0]
  by_cases g1 : N.n = 1
  · simp (maxSteps := 300000) (disch := omega) only [gs, gs2, gs3, gs4, ↓reduceIte, Nat.reduceEqDiff, Int.reduceToNat, Nat.reduceMul, Nat.reduceAdd, Nat.reduceBEq, isLd, eq_true g1]
    exact ⟨G, s1, hk.err (by unfold lightV; rw [if_pos hn, if_pos g1])⟩
  simp (maxSteps := 300000) (disch := omega) only [gs, gs2, gs3, gs4, ↓reduceIte, Nat.reduceEqDiff, Int.reduceToNat, Nat.reduceMul, Nat.reduceAdd, Nat.reduceBEq, isLd, eq_false g1]
  have hV : lightV N = (lbO (ltK N.edges N.n.toNat (2 ^ (N.n.toNat - 1) - 1)), lwO 0 (ltK N.edges N.n.toNat (2 ^ (N.n.toNat - 1) - 1)), 0) := by
    unfold lightV; rw [if_pos hn, if_neg g1, ltV_eq]
  rw [hV] at hk
  clear hV
  obtain ⟨hp0, hp1, hp2⟩ := pow_half (n := N.n.toNat) (by omega) (by omega)
  have hsh := shl_nat (j := N.n.toNat) (by omega) (y := N.n) (by omega)
  have hmem : ∀ s : Nat, s < 2 ^ N.n.toNat → s < 2 ^ 12 ∧ bitsL s 12 = bitsL s N.n.toNat := fun s hs => ⟨by omega, bitsL_12 hs (by omega)⟩
  rw [hp0] at hsh hmem
  generalize 2 ^ (N.n.toNat - 1) = P at *
  refine gLoop_intro (fun m T G' => ∃ (b : Nat) (Ab : Option Addr) (cb : Nat), T 1 = .pointer (some ⟨b1, 0, none⟩) ∧ T 5 = .slice Ab (lbO (ltK N.edges N.n.toNat b)).length cb ∧ T 6 = .int .i64 (lwO 0 (ltK N.edges N.n.toNat b)) ∧ T 7 = .int .i64 ((2 * b + 1 : Nat) : Int) ∧ m + b = P - 1 ∧ b ≤ P - 1 ∧
    Own G' Ab cb ((lbO (ltK N.edges N.n.toNat b)).map I64) 1 (lbO (ltK N.edges N.n.toNat b)).length ∧ Sub G1 G' ∧ Off G1 Ab ∧ (ltK N.edges N.n.toNat b = none → Ab = none))
    (P - 1) ⟨0, none, 0, by simp (maxSteps := 300000) (disch := omega) only [gs, gs2, gs3, gs4, ↓reduceIte, Nat.reduceEqDiff, Int.reduceToNat, Nat.reduceMul, Nat.reduceAdd, Nat.reduceBEq, isLd], by simp (maxSteps := 300000) (disch := omega) only [gs, gs2, gs3, gs4, ↓reduceIte, Nat.reduceEqDiff, Int.reduceToNat, Nat.reduceMul, Nat.reduceAdd, Nat.reduceBEq, isLd] <;> rfl, by simp (maxSteps := 300000) (disch := omega) only [gs, gs2, gs3, gs4, ↓reduceIte, Nat.reduceEqDiff, Int.reduceToNat, Nat.reduceMul, Nat.reduceAdd, Nat.reduceBEq, isLd] <;> rfl, by simp (maxSteps := 300000) (disch := omega) only [gs, gs2, gs3, gs4, ↓reduceIte, Nat.reduceEqDiff, Int.reduceToNat, Nat.reduceMul, Nat.reduceAdd, Nat.reduceBEq, isLd] <;> rfl, by omega, by omega, Own.nil _ _, Sub.refl _, Off.nil _, fun _ => rfl⟩ ?_
  rintro m T G' ⟨b, Ab, cb, e1, e5, e6, e7, hm, hbm, hO, hS, hOff, hAn⟩
  have g0 := rd_sub hS f0
  have g1' := rd_sub hS f1
  simp (maxSteps := 300000) (disch := omega) only [gs, gs2, gs3, gs4, ↓reduceIte, Nat.reduceEqDiff, Int.reduceToNat, Nat.reduceMul, Nat.reduceAdd, Nat.reduceBEq, isLd, e1, e5, e6, e7, g0, hsh]
  by_cases hbb : (((2 * b + 1 : Nat) : Int)) < ((2 * P : Nat) : Int) - 1
  · obtain ⟨hm1, hm2⟩ := hmem (2 * b + 1) (by omega)
    simp (maxSteps := 300000) (disch := omega) only [gs, gs2, gs3, gs4, ↓reduceIte, Nat.reduceEqDiff, Int.reduceToNat, Nat.reduceMul, Nat.reduceAdd, Nat.reduceBEq, isLd, e1, e5, e6, e7, hbb]
    refine impl_members_ok hm1 fun G'' Al cl hN => ?_
    rw [hm2] at hN ⊢
    have hlen := bitsL_len (2 * b + 1) N.n.toNat
    have g0 := rd_sub hN.sub g0
    have g1'' := rd_sub hN.sub g1'
    have hS2 := hS.trans hN.sub
    simp (maxSteps := 300000) (disch := omega) only [gs, gs2, gs3, gs4, ↓reduceIte, Nat.reduceEqDiff, Int.reduceToNat, Nat.reduceMul, Nat.reduceAdd, Nat.reduceBEq, isLd, e1, e5, e6, e7, g0, g1'']
    refine impl_cutWeight_ok (N := N) ((h.sub s1).sub hS2) hN.ints hn (by omega) ?_
    have cwb := cw_bd hn (bitsL (2 * b + 1) N.n.toNat) _ (Nat.le_refl _)
    have hyes := ltK_yes (es := N.edges) (n := N.n.toNat) (b := b)
    have hno := fun p => ltK_no (es := N.edges) (n := N.n.toNat) (b := b) (p := p)
    have hL0 : (bitsL (2 * b + 1) N.n.toNat).length ≠ 0 := fun hz => by
      have h0 : (0 : Int) ∈ bitsL (2 * b + 1) N.n.toNat := by
        unfold bitsL
        exact List.mem_map.2 ⟨0, List.mem_filter.2 ⟨List.mem_range.2 (by omega), by simp [Nat.testBit_zero]⟩, rfl⟩
      rw [List.length_eq_zero_iff.1 hz] at h0; simp at h0
    generalize hw : cwK N.edges (bitsL (2 * b + 1) N.n.toNat) N.edges.length = w at *
    generalize hL : bitsL (2 * b + 1) N.n.toNat = L at *
    have hstep : ((2 * b + 1 : Nat) : Int) + 2 = ((2 * (b + 1) + 1 : Nat) : Int) := by omega
    cases hlt : ltK N.edges N.n.toNat b with
    | none =>
      have hy := hyes (.inl hlt)
      have hA := hAn hlt
      subst hA
      rw [hlt] at e5 e6
      simp (maxSteps := 300000) (disch := omega) only [gs, gs2, gs3, gs4, ↓reduceIte, Nat.reduceEqDiff, Int.reduceToNat, Nat.reduceMul, Nat.reduceAdd, Nat.reduceBEq, isLd, Option.isNone_none, e1, e5, e6, e7]
      exact ⟨m - 1, by omega, _, Sub.refl _, b + 1, Al, cl, by rw [hy] <;> rfl, by rw [hy] <;> rfl, by rw [hstep], by omega, by omega, by rw [hy]; exact hN.fresh, hS2, hN.off.mono hS, fun x => by rw [hy] at x; cases x⟩
    | some p =>
      obtain ⟨B, mm⟩ := p
      obtain ⟨m0, m1, cc, hcc, hB⟩ := ltK_bd hn hlt
      rw [hlt] at e5 e6 hO
      simp only [lwO, lbO] at e5 e6 hO m0 m1 hB
      have hBl : B.length ≤ N.n.toNat := by rw [hB]; exact bitsL_len _ _
      have hB0 : 0 < B.length := by
        have h0 : (0 : Int) ∈ bitsL (2 * cc + 1) N.n.toNat := by
          unfold bitsL
          exact List.mem_map.2 ⟨0, List.mem_filter.2 ⟨List.mem_range.2 (by omega), by simp [Nat.testBit_zero]⟩, rfl⟩
        rw [← hB] at h0
        exact List.length_pos_of_mem h0
      have hsome : Ab.isNone = false := by
        rcases hO with ⟨_, _, h0, _⟩ | ⟨_, _, rfl, _⟩
        · omega
        · rfl
      have hkeep : ltK N.edges N.n.toNat (b + 1) = some (B, mm) → lbO (ltK N.edges N.n.toNat (b + 1)) = B ∧ lwO 0 (ltK N.edges N.n.toNat (b + 1)) = mm ∧ (ltK N.edges N.n.toNat (b + 1) = none → Ab = none) := fun hy => ⟨by rw [hy]; rfl, by rw [hy]; rfl, fun x => by rw [hy] at x; cases x⟩
      have htake : ltK N.edges N.n.toNat (b + 1) = some (L, w) → lbO (ltK N.edges N.n.toNat (b + 1)) = L ∧ lwO 0 (ltK N.edges N.n.toNat (b + 1)) = w ∧ (ltK N.edges N.n.toNat (b + 1) = none → Al = none) := fun hy => ⟨by rw [hy]; rfl, by rw [hy]; rfl, fun x => by rw [hy] at x; cases x⟩
      simp (maxSteps := 300000) (disch := omega) only [gs, gs2, gs3, gs4, ↓reduceIte, Nat.reduceEqDiff, Int.reduceToNat, Nat.reduceMul, Nat.reduceAdd, Nat.reduceBEq, isLd, hsome, e1, e5, e6, e7]
      by_cases hc1 : w < mm
      · obtain ⟨q1, q2, q3⟩ := htake (hyes (.inr ⟨_, hlt, .inl hc1⟩))
        simp (maxSteps := 300000) (disch := omega) only [gs, gs2, gs3, gs4, ↓reduceIte, Nat.reduceEqDiff, Int.reduceToNat, Nat.reduceMul, Nat.reduceAdd, Nat.reduceBEq, isLd, e1, e5, e6, e7, hc1]
        exact ⟨m - 1, by omega, _, Sub.refl _, b + 1, Al, cl, by rw [q1], by rw [q2], by rw [hstep], by omega, by omega, by rw [q1]; exact hN.fresh, hS2, hN.off.mono hS, q3⟩
      · simp (maxSteps := 300000) (disch := omega) only [gs, gs2, gs3, gs4, ↓reduceIte, Nat.reduceEqDiff, Int.reduceToNat, Nat.reduceMul, Nat.reduceAdd, Nat.reduceBEq, isLd, e1, e5, e6, e7, hc1]
        by_cases hc2 : w = mm
        · simp (maxSteps := 300000) (disch := omega) only [gs, gs2, gs3, gs4, ↓reduceIte, Nat.reduceEqDiff, Int.reduceToNat, Nat.reduceMul, Nat.reduceAdd, Nat.reduceBEq, isLd, eq_true hc2, e1, e5, e6, e7]
          refine slices_Compare_ok hN.ints (hO.sub hN.sub).ints (by omega) (by omega) ?_
          simp (maxSteps := 300000) (disch := omega) only [gs, gs2, gs3, gs4, ↓reduceIte, Nat.reduceEqDiff, Int.reduceToNat, Nat.reduceMul, Nat.reduceAdd, Nat.reduceBEq, isLd, e1, e5, e6, e7]
          by_cases hc3 : lexC L B < 0
          · obtain ⟨q1, q2, q3⟩ := htake (hyes (.inr ⟨_, hlt, .inr ⟨hc2, hc3⟩⟩))
            simp (maxSteps := 300000) (disch := omega) only [gs, gs2, gs3, gs4, ↓reduceIte, Nat.reduceEqDiff, Int.reduceToNat, Nat.reduceMul, Nat.reduceAdd, Nat.reduceBEq, isLd, hc3, e1, e5, e6, e7]
            exact ⟨m - 1, by omega, _, Sub.refl _, b + 1, Al, cl, by rw [q1], by rw [q2], by rw [hstep], by omega, by omega, by rw [q1]; exact hN.fresh, hS2, hN.off.mono hS, q3⟩
          · have hnn : ¬ (w < mm ∨ w = mm ∧ lexC L B < 0) := fun y => by
              rcases y with y | y
              · omega
              · exact hc3 y.2
            obtain ⟨q1, q2, q3⟩ := hkeep (hno _ hlt hnn)
            simp (maxSteps := 300000) (disch := omega) only [gs, gs2, gs3, gs4, ↓reduceIte, Nat.reduceEqDiff, Int.reduceToNat, Nat.reduceMul, Nat.reduceAdd, Nat.reduceBEq, isLd, hc3, e1, e5, e6, e7]
            exact ⟨m - 1, by omega, _, Sub.refl _, b + 1, Ab, cb, by rw [q1], by rw [q2], by rw [hstep], by omega, by omega, by rw [q1]; exact hO.sub hN.sub, hS2, hOff, q3⟩
        · rw [decide_eq_false hc2]
          have hnn : ¬ (w < mm ∨ w = mm ∧ lexC L B < 0) := fun y => by
            rcases y with y | y
            · omega
            · exact hc2 y.1
          obtain ⟨q1, q2, q3⟩ := hkeep (hno _ hlt hnn)
          simp (maxSteps := 300000) (disch := omega) only [gs, gs2, gs3, gs4, ↓reduceIte, Nat.reduceEqDiff, Int.reduceToNat, Nat.reduceMul, Nat.reduceAdd, Nat.reduceBEq, isLd, e1, e5, e6, e7]
          exact ⟨m - 1, by omega, _, Sub.refl _, b + 1, Ab, cb, by rw [q1], by rw [q2], by rw [hstep], by omega, by omega, by rw [q1]; exact hO.sub hN.sub, hS2, hOff, q3⟩
  · simp (maxSteps := 300000) (disch := omega) only [gs, gs2, gs3, gs4, ↓reduceIte, Nat.reduceEqDiff, Int.reduceToNat, Nat.reduceMul, Nat.reduceAdd, Nat.reduceBEq, isLd, e1, e5, e6, e7, hbb]
    obtain rfl : b = P - 1 := by omega
    obtain ⟨G3, s3, hN⟩ := hO.new (s1.trans hS) (hOff.mono s1)
    exact ⟨G3, s3, hk _ _ _ hN⟩
theorem lapK_bd {es : List T3} (h : okE es) (hw : ∀ i, i < es.length → 0 ≤ (es.getD i z3).2.2 ∧ (es.getD i z3).2.2 ≤ 9) (i j : Int) : ∀ k : Nat, k ≤ es.length → -(9 * (k : Int)) ≤ lapK es k i j ∧ lapK es k i j ≤ 9 * k
  | 0, _ => by simp [lapK]
  | k + 1, hk => by
    have ih := lapK_bd h hw i j k (by omega)
    have h1 := h.1 k (by omega)
    have h2 := hw k (by omega)
    rw [lapK_step h (by omega)]
    (repeat' split) <;> omega
def mxO (B : Nat → Nat) (n m : Nat) : List Value := (List.range n).map fun i => if i < m then .slice (some ⟨B i, 0, none⟩) n n else .slice none 0 0
structure Mx (G0 G : GH) (bO : Nat) (B : Nat → Nat) (n m : Nat) (f : Int → Int → Int) : Prop where
  sub : Sub G0 G
  nO : G0 bO = none
  o : G bO = some ⟨mxO B n m, true⟩
  nB : ∀ i, i < m → G0 (B i) = none
  b : ∀ i : Nat, i < m → G (B i) = some ⟨fcells n (f i), true⟩
  inj : ∀ i j, i < m → j < m → B i = B j → i = j
  ne : ∀ i, i < m → B i ≠ bO
theorem mxO_get {B : Nat → Nat} {n m i : Nat} (h : i < n) : (mxO B n m)[i]? = some (if i < m then .slice (some ⟨B i, 0, none⟩) n n else .slice none 0 0) := range_get _ _ _ h
theorem mxO_len (B : Nat → Nat) (n m : Nat) : (mxO B n m).length = n := by simp [mxO]
theorem Mx.row {G0 G : GH} {bO n m : Nat} {B : Nat → Nat} {f : Int → Int → Int} (h : Mx G0 G bO B n m f) {i : Nat} (hi : i < m) (hn : i < n) : rd G (some ⟨bO, i, none⟩) = some (.slice (some ⟨B i, 0, none⟩) n n) := by
  simp only [rd, h.o, Option.bind_some]; rw [mxO_get hn, if_pos hi]
theorem Mx.get {G0 G : GH} {bO n m : Nat} {B : Nat → Nat} {f : Int → Int → Int} (h : Mx G0 G bO B n m f) {u v : Int} (hu : 0 ≤ u) (hi : u < m) (h0 : 0 ≤ v) (h1 : v < n) : rd G (some ⟨B u.toNat, v.toNat, none⟩) = some (.int .i64 (f u v)) := by
  have := rd_fcells (h.b u.toNat (by omega)) h0 h1
  rw [Int.toNat_of_nonneg hu] at this; exact this
theorem Mx.low {H G0 G : GH} {bO n m : Nat} {B : Nat → Nat} {f : Int → Int → Int} (h : Mx G0 G bO B n m f) (s : Sub H G0) : Mx H G bO B n m f := ⟨s.trans h.sub, s.none h.nO, h.o, fun i hi => s.none (h.nB i hi), h.b, h.inj, h.ne⟩
theorem Mx.box {G0 G : GH} {bO n m x : Nat} {B : Nat → Nat} {f : Int → Int → Int} (h : Mx G0 G bO B n m f) (hx : G x = none) (e : Ent) : Mx (put G0 x e) (put G x e) bO B n m f := by
  have hO : bO ≠ x := blk_ne h.o hx
  have hB : ∀ i, i < m → B i ≠ x := fun i hi => blk_ne (h.b i hi) hx
  exact ⟨h.sub.both, by rw [put_ne _ _ hO]; exact h.nO, by rw [put_ne _ _ hO]; exact h.o, fun i hi => by rw [put_ne _ _ (hB i hi)]; exact h.nB i hi, fun i hi => by rw [put_ne _ _ (hB i hi)]; exact h.b i hi, h.inj, h.ne⟩
theorem Mx.store {G0 G : GH} {bO n m : Nat} {B : Nat → Nat} {f : Int → Int → Int} (h : Mx G0 G bO B n m f) {u v x : Int} (hu : 0 ≤ u) (hi : u < m) (h0 : 0 ≤ v) (h1 : v < n) {K : Value → GH → Prop} (hk : ∀ G', Mx G0 G' bO B n m (upd2 f u v x) → K undef G') : gSt 1 (.pointer (some ⟨B u.toNat, v.toNat, none⟩)) (.int .i64 x) G K := by
  have hu' : ((u.toNat : Nat) : Int) = u := Int.toNat_of_nonneg hu
  refine st_fcells (h.b u.toNat (by omega)) h0 h1 fun G' hF hK => hk G' ?_
  refine ⟨sub_keep hK (h.nB _ (by omega)) h.sub, h.nO, by rw [hK _ (h.ne _ (by omega)).symm]; exact h.o, h.nB, fun i hi' => ?_, h.inj, h.ne⟩
  by_cases e : i = u.toNat
  · subst e
    rw [hF, hu']
    congr 3
    funext b
    simp [updAt, upd2]
  · rw [hK _ (fun x => e (h.inj _ _ hi' (by omega) x)), h.b i hi']
    congr 3
    funext b
    unfold upd2; rw [if_neg (by omega)]
theorem Mx.add {G0 G : GH} {bO n m b : Nat} {B : Nat → Nat} (h : Mx G0 G bO B n m (fun _ _ => 0)) (hm : m < n) (hb : G b = none) :
    Mx G0 (put (put G b ⟨fcells n (fun _ => 0), true⟩) bO ⟨(mxO B n m).set m (.slice (some ⟨b, 0, none⟩) n n), true⟩) bO (fun i => if i = m then b else B i) n (m + 1) (fun _ _ => 0) := by
  have hO : bO ≠ b := blk_ne h.o hb
  have hB : ∀ i, i < m → B i ≠ b := fun i hi => blk_ne (h.b i hi) hb
  refine ⟨?_, h.nO, ?_, fun i hi => ?_, fun i hi => ?_, fun i j hi hj e => ?_, fun i hi => ?_⟩
  · exact (h.sub.skip (h.sub.none hb)).skip h.nO
  · rw [put_same]
    congr 2
    unfold mxO
    rw [range_set]
    refine range_cong fun i hi => ?_
    by_cases e : i = m
    · subst e; simp
    · by_cases e2 : i < m
      · rw [if_neg e, if_pos e2, if_pos (by omega)]; simp only [if_neg e]
      · rw [if_neg e, if_neg e2, if_neg (by omega)]
  · by_cases e : i = m
    · subst e; simp only [if_pos]; exact h.sub.none hb
    · simp only [if_neg e]; exact h.nB i (by omega)
  · by_cases e : i = m
    · subst e; simp only [if_pos]; rw [put_ne _ _ hO.symm, put_same]
    · simp only [if_neg e]; rw [put_ne _ _ (h.ne i (by omega)), put_ne _ _ (hB i (by omega))]; exact h.b i (by omega)
  · try dsimp only at e
    by_cases e1 : i = m
    · by_cases e2 : j = m
      · omega
      · rw [if_pos e1, if_neg e2] at e; exact absurd e.symm (hB j (by omega))
    · by_cases e2 : j = m
      · rw [if_neg e1, if_pos e2] at e; exact absurd e (hB i (by omega))
      · rw [if_neg e1, if_neg e2] at e; exact h.inj i j (by omega) (by omega) e
  · by_cases e : i = m
    · subst e; simp only [if_pos]; exact hO.symm
    · simp only [if_neg e]; exact h.ne i (by omega)
theorem Mx.new {G : GH} {bO n : Nat} (hb : G bO = none) (f : Int → Int → Int) : Mx G (put G bO ⟨List.replicate n (.slice none 0 0), true⟩) bO (fun _ => 0) n 0 f :=
  ⟨Sub.put hb _, hb, by rw [put_same, rep_range]; rfl, fun i hi => by omega, fun i hi => by omega, fun i j hi hj => by omega, fun i hi => by omega⟩
theorem impl_laplacian_ok {G : GH} {N : Gra} {A : Option Addr} {c : Nat} (h : T3S G A c N.edges) (hn : GraOk N) {K : Value → GH → Prop}
    (hk : ∀ G' bO B, Mx G G' bO B N.n.toNat N.n.toNat (lapK N.edges N.edges.length) → K (.slice (some ⟨bO, 0, none⟩) N.n.toNat N.n.toNat) G') : GC Try.prog 148 [graV N A c] G K := by
  refine GC_drop (c_impl_laplacian_i (by simp) ?_)
  have hn1 := hn.1
  have hn4 := hn.2.2.2
  unfold graV graC
  simp (maxSteps := 300000) (disch := omega) only [gs, gs2, gs3, gs4, ↓reduceIte, Nat.reduceEqDiff, Int.reduceToNat, Nat.reduceMul, Nat.reduceAdd, Nat.reduceBEq, isLd]
  intro b1 hb1
  have s1 := Sub.put hb1 ⟨[.int .i64 N.n, .slice A N.edges.length c], true⟩
  have f0 : rd (put G b1 ⟨[.int .i64 N.n, .slice A N.edges.length c], true⟩) (some ⟨b1, 0, none⟩) = some (.int .i64 N.n) := rd_box _ _ _ 0 _ rfl
  have f1 : rd (put G b1 ⟨[.int .i64 N.n, .slice A N.edges.length c], true⟩) (some ⟨b1, 1, none⟩) = some (.slice A N.edges.length c) := rd_box _ _ _ 1 _ rfl
  revert s1 f0 f1
  generalize put G b1 ⟨[.int .i64 N.n, .slice A N.edges.length c], true⟩ = G1
  intro s1 f0 f1
  simp (maxSteps := 300000) (disch := omega) only [gs, gs2, gs3, gs4, ↓reduceIte, Nat.reduceEqDiff, Int.reduceToNat, Nat.reduceMul, Nat.reduceAdd, Nat.reduceBEq, isLd, f0, f1]
  refine ⟨N.n.toNat, N.n.toNat, by rw [Int.toNat_of_nonneg (by omega)], by rw [Int.toNat_of_nonneg (by omega)], Nat.le_refl _, by omega, by omega, fun bO hbO => ?_⟩
  rw [zc_one]
  have hM0 := Mx.new (n := N.n.toNat) hbO (fun _ _ => 0)
  revert hM0
  generalize put G1 bO ⟨List.replicate N.n.toNat (.slice none 0 0), true⟩ = G2
  intro hM0
  simp (maxSteps := 300000) (disch := omega) only [gs, gs2, gs3, gs4, ↓reduceIte, Nat.reduceEqDiff, Int.reduceToNat, Nat.reduceMul, Nat.reduceAdd, Nat.reduceBEq, isLd]
  refine gLoop_intro (fun m T G' => ∃ (k : Nat) (B : Nat → Nat), T 1 = .pointer (some ⟨b1, 0, none⟩) ∧ T 3 = .slice (some ⟨bO, 0, none⟩) N.n.toNat N.n.toNat ∧ T 11 = .int .i64 N.n ∧ T 12 = .int .i64 k ∧ m + k = N.n.toNat ∧ k ≤ N.n.toNat ∧ Mx G1 G' bO B N.n.toNat k (fun _ _ => 0))
    N.n.toNat ⟨0, _, by simp (maxSteps := 300000) (disch := omega) only [gs, gs2, gs3, gs4, ↓reduceIte, Nat.reduceEqDiff, Int.reduceToNat, Nat.reduceMul, Nat.reduceAdd, Nat.reduceBEq, isLd], by simp (maxSteps := 300000) (disch := omega) only [gs, gs2, gs3, gs4, ↓reduceIte, Nat.reduceEqDiff, Int.reduceToNat, Nat.reduceMul, Nat.reduceAdd, Nat.reduceBEq, isLd], by simp (maxSteps := 300000) (disch := omega) only [gs, gs2, gs3, gs4, ↓reduceIte, Nat.reduceEqDiff, Int.reduceToNat, Nat.reduceMul, Nat.reduceAdd, Nat.reduceBEq, isLd] <;> rw [Int.toNat_of_nonneg (by omega)], by simp (maxSteps := 300000) (disch := omega) only [gs, gs2, gs3, gs4, ↓reduceIte, Nat.reduceEqDiff, Int.reduceToNat, Nat.reduceMul, Nat.reduceAdd, Nat.reduceBEq, isLd] <;> rfl, by omega, by omega, hM0⟩ ?_
  clear hM0
  rintro m T G' ⟨k, B, e1, e3, e11, e12, hm, hkm, hM⟩
  have g0 := rd_sub hM.sub f0
  have g1 := rd_sub hM.sub f1
  simp (maxSteps := 300000) (disch := omega) only [gs, gs2, gs3, gs4, ↓reduceIte, Nat.reduceEqDiff, Int.reduceToNat, Nat.reduceMul, Nat.reduceAdd, Nat.reduceBEq, isLd, e1, e3, e11, e12]
  by_cases hkk : (k : Int) < N.n
  · simp (maxSteps := 300000) (disch := omega) only [gs, gs2, gs3, gs4, ↓reduceIte, Nat.reduceEqDiff, Int.reduceToNat, Nat.reduceMul, Nat.reduceAdd, Nat.reduceBEq, isLd, e1, e3, e11, e12, hkk, g0]
    refine ⟨N.n.toNat, N.n.toNat, by rw [Int.toNat_of_nonneg (by omega)], by rw [Int.toNat_of_nonneg (by omega)], Nat.le_refl _, by omega, by omega, fun b hb => ?_⟩
    have hz : zc [.int .i64 0] N.n.toNat = fcells N.n.toNat (fun _ => 0) := by rw [zc_one, rep_range]; rfl
    rw [hz]
    simp (maxSteps := 300000) (disch := omega) only [gs, gs2, gs3, gs4, ↓reduceIte, Nat.reduceEqDiff, Int.reduceToNat, Nat.reduceMul, Nat.reduceAdd, Nat.reduceBEq, isLd, e1, e3, e11, e12]
    have hO : bO ≠ b := blk_ne hM.o hb
    refine st_one (cs := mxO B N.n.toNat k) (by rw [put_ne _ _ hO]; exact hM.o) (by rw [mxO_len]; omega) rfl ?_
    have hM2 := hM.add (by omega) hb
    simp (maxSteps := 300000) (disch := omega) only [gs, gs2, gs3, gs4, ↓reduceIte, Nat.reduceEqDiff, Int.reduceToNat, Nat.reduceMul, Nat.reduceAdd, Nat.reduceBEq, isLd, e1, e3, e11, e12]
    exact ⟨m - 1, by omega, _, Sub.refl _, k + 1, _, rfl, by omega, by omega, hM2⟩
  · simp (maxSteps := 300000) (disch := omega) only [gs, gs2, gs3, gs4, ↓reduceIte, Nat.reduceEqDiff, Int.reduceToNat, Nat.reduceMul, Nat.reduceAdd, Nat.reduceBEq, isLd, e1, e3, e11, e12, hkk, g1]
    obtain rfl : k = N.n.toNat := by omega
    refine gLoop_intro (fun m T G' => ∃ (k : Nat), T 3 = .slice (some ⟨bO, 0, none⟩) N.n.toNat N.n.toNat ∧ T 23 = .slice A N.edges.length c ∧ T 24 = .int .i64 N.edges.length ∧ T 25 = .int .i64 k ∧ m + k = N.edges.length ∧ k ≤ N.edges.length ∧ Mx G1 G' bO B N.n.toNat N.n.toNat (lapK N.edges k))
      N.edges.length ⟨0, by simp (maxSteps := 300000) (disch := omega) only [gs, gs2, gs3, gs4, ↓reduceIte, Nat.reduceEqDiff, Int.reduceToNat, Nat.reduceMul, Nat.reduceAdd, Nat.reduceBEq, isLd, e3], by simp (maxSteps := 300000) (disch := omega) only [gs, gs2, gs3, gs4, ↓reduceIte, Nat.reduceEqDiff, Int.reduceToNat, Nat.reduceMul, Nat.reduceAdd, Nat.reduceBEq, isLd], by simp (maxSteps := 300000) (disch := omega) only [gs, gs2, gs3, gs4, ↓reduceIte, Nat.reduceEqDiff, Int.reduceToNat, Nat.reduceMul, Nat.reduceAdd, Nat.reduceBEq, isLd], by simp (maxSteps := 300000) (disch := omega) only [gs, gs2, gs3, gs4, ↓reduceIte, Nat.reduceEqDiff, Int.reduceToNat, Nat.reduceMul, Nat.reduceAdd, Nat.reduceBEq, isLd] <;> rfl, by omega, by omega, hM⟩ ?_
    clear e1 e3 e11 e12 hkk hm hM g0 g1
    rintro m T G' ⟨k, e3, e23, e24, e25, hm, hkm, hM⟩
    have hh := (h.sub s1).sub hM.sub
    have hsn := hh.sn
    have p0 := hh.r0
    have p1 := hh.r1
    have p2 := hh.r2
    simp (maxSteps := 300000) (disch := omega) only [gs, gs2, gs3, gs4, ↓reduceIte, Nat.reduceEqDiff, Int.reduceToNat, Nat.reduceMul, Nat.reduceAdd, Nat.reduceBEq, isLd, e3, e23, e24, e25]
    by_cases hkk : (k : Int) < N.edges.length
    · simp (maxSteps := 300000) (disch := omega) only [gs, gs2, gs3, gs4, ↓reduceIte, Nat.reduceEqDiff, Int.reduceToNat, Nat.reduceMul, Nat.reduceAdd, Nat.reduceBEq, isLd, e3, e23, e24, e25, hkk, p0, p1, p2]
      intro b6 hb6
      simp (maxSteps := 300000) (disch := omega) only [gs, gs2, gs3, gs4, ↓reduceIte, Nat.reduceEqDiff, Int.reduceToNat, Nat.reduceMul, Nat.reduceAdd, Nat.reduceBEq, isLd, e3, e23, e24, e25]
      refine st_fresh (vs := c3 (N.edges.getD k z3)) rfl rfl rfl (c3_one _) ?_
      have hM1 := hM.box hb6 ⟨c3 (N.edges.getD k z3), true⟩
      have hsub : Sub G1 (put G1 b6 ⟨c3 (N.edges.getD k z3), true⟩) := Sub.put (hM.sub.none hb6) _
      have q0 : rd (put G1 b6 ⟨c3 (N.edges.getD k z3), true⟩) (some ⟨b6, 0, none⟩) = some (.int .i64 (N.edges.getD k z3).1) := rd_box _ _ _ 0 _ rfl
      have q1 : rd (put G1 b6 ⟨c3 (N.edges.getD k z3), true⟩) (some ⟨b6, 1, none⟩) = some (.int .i64 (N.edges.getD k z3).2.1) := rd_box _ _ _ 1 _ rfl
      have q2 : rd (put G1 b6 ⟨c3 (N.edges.getD k z3), true⟩) (some ⟨b6, 2, none⟩) = some (.int .i64 (N.edges.getD k z3).2.2) := rd_box _ _ _ 2 _ rfl
      obtain ⟨o1, o2, o3, o4⟩ := hn.2.1 k (by omega)
      have hl : ∀ i j, -216 ≤ lapK N.edges k i j ∧ lapK N.edges k i j ≤ 216 := fun i j => by
        have := lapK_bd hn.okE (fun i hi => by have := hn.2.1 i hi; unfold okEdge at this; omega) i j k hkm
        omega
      have hlap : lapK N.edges (k + 1) = upd2 (upd2 (upd2 (upd2 (lapK N.edges k) (N.edges.getD k z3).1 (N.edges.getD k z3).1 (lapK N.edges k (N.edges.getD k z3).1 (N.edges.getD k z3).1 + (N.edges.getD k z3).2.2)) (N.edges.getD k z3).2.1 (N.edges.getD k z3).2.1 (upd2 (lapK N.edges k) (N.edges.getD k z3).1 (N.edges.getD k z3).1 (lapK N.edges k (N.edges.getD k z3).1 (N.edges.getD k z3).1 + (N.edges.getD k z3).2.2) (N.edges.getD k z3).2.1 (N.edges.getD k z3).2.1 + (N.edges.getD k z3).2.2)) (N.edges.getD k z3).1 (N.edges.getD k z3).2.1 (-(N.edges.getD k z3).2.2)) (N.edges.getD k z3).2.1 (N.edges.getD k z3).1 (-(N.edges.getD k z3).2.2) := rfl
      clear hM p0 p1 p2 hh hsn
      revert hM1 hsub q0 q1 q2
      generalize put G' b6 ⟨c3 (N.edges.getD k z3), true⟩ = H
      generalize put G1 b6 ⟨c3 (N.edges.getD k z3), true⟩ = H0
      intro hM1 hsub q0 q1 q2
      generalize (N.edges.getD k z3).1 = u at *
      generalize (N.edges.getD k z3).2.1 = w at *
      generalize (N.edges.getD k z3).2.2 = z at *
      generalize lapK N.edges k = L at *
      have r0 := rd_sub hM1.sub q0
      have r1 := rd_sub hM1.sub q1
      have r2 := rd_sub hM1.sub q2
      have ru := hM1.row (i := u.toNat) (by omega) (by omega)
      have hg := hM1.get (u := u) (v := u) (by omega) (by omega) (by omega) (by omega)
      have hl1 := hl u u
      have hl2 := hl w w
      simp (maxSteps := 300000) (disch := omega) only [gs, gs2, gs3, gs4, ↓reduceIte, Nat.reduceEqDiff, Int.reduceToNat, Nat.reduceMul, Nat.reduceAdd, Nat.reduceBEq, isLd, e3, e23, e24, e25, r0, r1, r2, ru, hg]
      refine hM1.store (u := u) (v := u) (by omega) (by omega) (by omega) (by omega) fun H2 hM2 => ?_
      have r0 := rd_sub hM2.sub q0
      have r1 := rd_sub hM2.sub q1
      have r2 := rd_sub hM2.sub q2
      have rw2 := hM2.row (i := w.toNat) (by omega) (by omega)
      have hg := hM2.get (u := w) (v := w) (by omega) (by omega) (by omega) (by omega)
      have e5 : upd2 L u u (L u u + z) w w = L w w := if_neg (by omega)
      rw [e5] at hg hlap
      simp (maxSteps := 300000) (disch := omega) only [gs, gs2, gs3, gs4, ↓reduceIte, Nat.reduceEqDiff, Int.reduceToNat, Nat.reduceMul, Nat.reduceAdd, Nat.reduceBEq, isLd, e3, e23, e24, e25, r0, r1, r2, rw2, hg]
      refine hM2.store (u := w) (v := w) (by omega) (by omega) (by omega) (by omega) fun H3 hM3 => ?_
      have r0 := rd_sub hM3.sub q0
      have r1 := rd_sub hM3.sub q1
      have r2 := rd_sub hM3.sub q2
      have ru := hM3.row (i := u.toNat) (by omega) (by omega)
      simp (maxSteps := 300000) (disch := omega) only [gs, gs2, gs3, gs4, ↓reduceIte, Nat.reduceEqDiff, Int.reduceToNat, Nat.reduceMul, Nat.reduceAdd, Nat.reduceBEq, isLd, e3, e23, e24, e25, r0, r1, r2, ru]
      refine hM3.store (u := u) (v := w) (by omega) (by omega) (by omega) (by omega) fun H4 hM4 => ?_
      have r0 := rd_sub hM4.sub q0
      have r1 := rd_sub hM4.sub q1
      have r2 := rd_sub hM4.sub q2
      have rw4 := hM4.row (i := w.toNat) (by omega) (by omega)
      simp (maxSteps := 300000) (disch := omega) only [gs, gs2, gs3, gs4, ↓reduceIte, Nat.reduceEqDiff, Int.reduceToNat, Nat.reduceMul, Nat.reduceAdd, Nat.reduceBEq, isLd, e3, e23, e24, e25, r0, r1, r2, rw4]
      refine hM4.store (u := w) (v := u) (by omega) (by omega) (by omega) (by omega) fun H5 hM5 => ?_
      simp (maxSteps := 300000) (disch := omega) only [gs, gs2, gs3, gs4, ↓reduceIte, Nat.reduceEqDiff, Int.reduceToNat, Nat.reduceMul, Nat.reduceAdd, Nat.reduceBEq, isLd, e3, e23, e24, e25]
      rw [Int.zero_sub, ← hlap] at hM5
      exact ⟨m - 1, by omega, _, Sub.refl _, k + 1, rfl, by omega, by omega, hM5.low hsub⟩
    · simp (maxSteps := 300000) (disch := omega) only [gs, gs2, gs3, gs4, ↓reduceIte, Nat.reduceEqDiff, Int.reduceToNat, Nat.reduceMul, Nat.reduceAdd, Nat.reduceBEq, isLd, e3, e23, e24, e25, hkk]
      obtain rfl : k = N.edges.length := by omega
      exact ⟨_, Sub.refl _, hk _ _ _ (hM.low s1)⟩
/-- the first row from t on that has something in a column. -/
def fstRow (f : Int → Int → Int) (c : Int) (t R : Nat) : Option Nat := (List.range' t (R - t)).find? fun i => f i c != 0
theorem fstRow_some {f : Int → Int → Int} {c : Int} {t R i : Nat} (h0 : t ≤ i) (h1 : i < R) (h2 : f i c ≠ 0) (h3 : ∀ j, t ≤ j → j < i → f j c = 0) : fstRow f c t R = some i := by
  unfold fstRow
  rw [show R - t = (i - t) + ((R - i - 1) + 1) by omega, ← List.range'_append_1, List.find?_append, List.find?_eq_none.2]
  · rw [Option.none_or, show t + (i - t) = i by omega, List.range'_succ, List.find?_cons_of_pos (by simpa using h2)]
  · intro j hj
    rw [List.mem_range'_1] at hj
    simp [h3 j hj.1 (by omega)]
theorem fstRow_none {f : Int → Int → Int} {c : Int} {t R : Nat} (h : ∀ j : Nat, t ≤ j → j < R → f j c = 0) : fstRow f c t R = none := by
  unfold fstRow
  rw [List.find?_eq_none]
  intro j hj
  rw [List.mem_range'_1] at hj
  simp [h j hj.1 (by omega)]
theorem fstRow_spec {f : Int → Int → Int} {c : Int} {t R i : Nat} (h : fstRow f c t R = some i) : t ≤ i ∧ i < R ∧ f i c ≠ 0 := by
  unfold fstRow at h
  have h1 := List.mem_of_find?_eq_some h
  have h2 := List.find?_some h
  rw [List.mem_range'_1] at h1
  exact ⟨h1.1, by omega, by simpa using h2⟩
def swp (f : Int → Int → Int) (a b : Int) : Int → Int → Int := fun i => if i = a then f b else if i = b then f a else f i
def scl (f : Int → Int → Int) (t k p : Int) : Int → Int → Int := fun i j => if i = t then (f t j * k) % p else f i j
def clr (f : Int → Int → Int) (t c p : Int) : Int → Int → Int := fun i j => if i = t then f i j else (f i j + (p - f i c) * f t j) % p
/-- a power modulo p. -/
def pw (a : Int) (p : Int) : Nat → Int
  | 0 => 1
  | n + 1 => pw a p n * a % p
def invF (a p : Int) : Int := pw a p (p - 2).toNat
structure ElS where
  f : Int → Int → Int
  piv : List Int
  det : Int
noncomputable def elS (p : Int) (R : Nat) (s : ElS) (c : Nat) : ElS :=
  match fstRow s.f c s.piv.length R with
  | none => ⟨s.f, s.piv, 0⟩
  | some i =>
    let g := swp s.f s.piv.length i
    let h := scl g s.piv.length (invF (g s.piv.length c) p) p
    ⟨clr h s.piv.length c p, s.piv ++ [(c : Int)], (if i = s.piv.length then s.det else (-s.det) % p) * g s.piv.length c % p⟩
noncomputable def elF (p : Int) (R : Nat) (f : Int → Int → Int) : Nat → ElS
  | 0 => ⟨f, [], 1⟩
  | c + 1 => elS p R (elF p R f c) c
/-- all cells are numbers modulo p. -/
def Rng (f : Int → Int → Int) (p : Int) : Prop := ∀ i j, 0 ≤ f i j ∧ f i j < p
theorem Rng.swp {f : Int → Int → Int} {p : Int} (h : Rng f p) (a b : Int) : Rng (Gh.swp f a b) p := fun i j => by
  unfold Gh.swp; split
  · exact h b j
  · split
    · exact h a j
    · exact h i j
theorem Rng.scl {f : Int → Int → Int} {p : Int} (h : Rng f p) (hp : 0 < p) (t k : Int) : Rng (Gh.scl f t k p) p := fun i j => by
  unfold Gh.scl; split
  · exact ⟨Int.emod_nonneg _ (by omega), Int.emod_lt_of_pos _ hp⟩
  · exact h i j
theorem Rng.clr {f : Int → Int → Int} {p : Int} (h : Rng f p) (hp : 0 < p) (t c : Int) : Rng (Gh.clr f t c p) p := fun i j => by
  unfold Gh.clr; split
  · exact h i j
  · exact ⟨Int.emod_nonneg _ (by omega), Int.emod_lt_of_pos _ hp⟩
theorem elS_rng {p : Int} {R : Nat} (hp : 0 < p) {s : ElS} (h : Rng s.f p) (c : Nat) : Rng (elS p R s c).f p := by
  unfold elS; split
  · exact h
  · exact ((h.swp _ _).scl hp _ _).clr hp _ _
theorem elF_rng {p : Int} {R : Nat} (hp : 0 < p) {f : Int → Int → Int} (h : Rng f p) : ∀ c, Rng (elF p R f c).f p
  | 0 => h
  | c + 1 => elS_rng hp (elF_rng hp h c) c
theorem elS_len {p : Int} {R : Nat} {s : ElS} (h : s.piv.length ≤ R) (c : Nat) : (elS p R s c).piv.length ≤ R ∧ s.piv.length ≤ (elS p R s c).piv.length ∧ (elS p R s c).piv.length ≤ s.piv.length + 1 := by
  unfold elS; split
  · exact ⟨h, Nat.le_refl _, Nat.le_succ _⟩
  · rename_i i hi
    have := fstRow_spec hi
    simp; omega
theorem elF_len (p : Int) (R : Nat) (f : Int → Int → Int) : ∀ c, (elF p R f c).piv.length ≤ R ∧ (elF p R f c).piv.length ≤ c
  | 0 => ⟨by simp [elF], by simp [elF]⟩
  | c + 1 => by
    have ih := elF_len p R f c
    have := elS_len (p := p) ih.1 c
    exact ⟨this.1, by have := this.2.2; show (elS p R (elF p R f c) c).piv.length ≤ _; omega⟩
theorem elF_det {p : Int} (hp : 1 < p) (R : Nat) (f : Int → Int → Int) : ∀ c, 0 ≤ (elF p R f c).det ∧ (elF p R f c).det < p
  | 0 => by simp [elF]; omega
  | c + 1 => by
    show 0 ≤ (elS p R (elF p R f c) c).det ∧ (elS p R (elF p R f c) c).det < p
    unfold elS; split
    · exact ⟨Int.le_refl _, show (0 : Int) < p by omega⟩
    · exact ⟨Int.emod_nonneg _ (by omega), Int.emod_lt_of_pos _ (by omega)⟩
theorem pw_rng {a p : Int} (hp : 1 < p) : ∀ n, 0 ≤ pw a p n ∧ pw a p n < p
  | 0 => by show (0 : Int) ≤ 1 ∧ (1 : Int) < p; omega
  | n + 1 => ⟨Int.emod_nonneg (pw a p n * a) (by omega), Int.emod_lt_of_pos (pw a p n * a) (by omega)⟩
theorem pw_sq {a p : Int} : ∀ n, pw (a * a % p) p n % p = pw a p (2 * n) % p
  | 0 => rfl
  | n + 1 => by
    show pw (a * a % p) p n * (a * a % p) % p % p = pw a p (2 * n + 1) * a % p % p
    have e : pw a p (2 * n + 1) = pw a p (2 * n) * a % p := rfl
    rw [e, Int.emod_emod_of_dvd _ (Int.dvd_refl p), Int.emod_emod_of_dvd _ (Int.dvd_refl p), Int.mul_emod (pw (a * a % p) p n), pw_sq n, Int.mul_emod (pw a p (2 * n) * a % p), Int.emod_emod_of_dvd _ (Int.dvd_refl p), Int.emod_emod_of_dvd _ (Int.dvd_refl p), ← Int.mul_emod, ← Int.mul_emod, Int.mul_assoc]
/-- the product of the first C cells of a row with a vector. -/
def rdot (r y : Int → Int) : Nat → Int
  | 0 => 0
  | C + 1 => rdot r y C + r C * y C
theorem rdot_mul (r y : Int → Int) (k : Int) : ∀ C, rdot (fun j => r j * k) y C = k * rdot r y C
  | 0 => by simp [rdot]
  | C + 1 => by
    simp only [rdot, rdot_mul r y k C, Int.mul_add]
    rw [Int.mul_comm (r C) k, Int.mul_assoc]
theorem rdot_add (r s y : Int → Int) (k : Int) : ∀ C, rdot (fun j => r j + k * s j) y C = rdot r y C + k * rdot s y C
  | 0 => by simp [rdot]
  | C + 1 => by
    simp only [rdot, rdot_add r s y k C, Int.mul_add, Int.add_mul, Int.mul_assoc]
    omega
theorem rdot_mod (r y : Int → Int) (p : Int) : ∀ C, rdot (fun j => r j % p) y C % p = rdot r y C % p
  | 0 => rfl
  | C + 1 => by
    simp only [rdot]
    rw [Int.add_emod, rdot_mod r y p C, Int.mul_emod (r C % p), Int.emod_emod_of_dvd _ (Int.dvd_refl p), ← Int.mul_emod, ← Int.add_emod]
/-- all rows give 0. -/
def Zer (f : Int → Int → Int) (y : Int → Int) (R C : Nat) (p : Int) : Prop := ∀ i : Nat, i < R → rdot (f i) y C % p = 0
theorem zer_mul {a b p : Int} (h : a * b % p = 1) {x : Int} (hx : b * x % p = 0) : x % p = 0 := by
  have : a * (b * x) % p = x % p := by
    rw [← Int.mul_assoc, Int.mul_emod, h, Int.one_mul, Int.emod_emod_of_dvd _ (Int.dvd_refl p)]
  rw [← this, Int.mul_emod, hx, Int.mul_zero, Int.zero_emod]
theorem Zer.of_swp {f : Int → Int → Int} {y : Int → Int} {R C : Nat} {p : Int} {a b : Nat} (ha : a < R) (hb : b < R) (h : Zer (swp f a b) y R C p) : Zer f y R C p := fun i hi => by
  by_cases h1 : i = a
  · subst h1
    have := h b hb
    by_cases h2 : (b : Int) = i
    · have := h i hi; unfold swp at this; rw [if_pos rfl] at this; rwa [h2] at this
    · unfold swp at this; rw [if_neg h2, if_pos rfl] at this; exact this
  · by_cases h2 : i = b
    · subst h2
      have := h a ha
      unfold swp at this; rw [if_pos rfl] at this; exact this
    · have := h i hi
      unfold swp at this; rw [if_neg (by omega), if_neg (by omega)] at this; exact this
theorem Zer.of_scl {f : Int → Int → Int} {y : Int → Int} {R C : Nat} {p k l : Int} {t : Nat} (hk : l * k % p = 1) (h : Zer (scl f t k p) y R C p) : Zer f y R C p := fun i hi => by
  have := h i hi
  by_cases e : (i : Int) = t
  · have e2 : scl f t k p i = fun j => (f i j * k) % p := by funext j; unfold scl; rw [if_pos e, e]
    rw [e2, rdot_mod (fun j => f i j * k), rdot_mul] at this
    exact zer_mul hk this
  · have e2 : scl f t k p i = f i := by funext j; unfold scl; rw [if_neg e]
    rwa [e2] at this
theorem Zer.of_clr {f : Int → Int → Int} {y : Int → Int} {R C : Nat} {p c : Int} {t : Nat} (ht : t < R) (h : Zer (clr f t c p) y R C p) : Zer f y R C p := fun i hi => by
  have h1 := h i hi
  have h2 := h t ht
  have e0 : clr f t c p t = f t := by funext j; unfold clr; rw [if_pos rfl]
  rw [e0] at h2
  by_cases e : (i : Int) = t
  · rw [e]; exact h2
  · have e2 : clr f t c p i = fun j => (f i j + (p - f i c) * f t j) % p := by funext j; unfold clr; rw [if_neg e]
    rw [e2, rdot_mod (fun j => f i j + (p - f i c) * f t j), rdot_add, Int.add_emod, Int.mul_emod _ (rdot (f t) y C), h2, Int.mul_zero, Int.zero_emod, Int.add_zero, Int.emod_emod_of_dvd _ (Int.dvd_refl p)] at h1
    exact h1
/-- every number but 0 has the inverse that is used. -/
def HasInv (p : Int) : Prop := ∀ a : Int, 0 < a → a < p → a * invF a p % p = 1
theorem elS_zer {p : Int} (hI : HasInv p) {R C c : Nat} {s : ElS} (hr : Rng s.f p) {y : Int → Int} (h : Zer (elS p R s c).f y R C p) : Zer s.f y R C p := by
  unfold elS at h
  split at h
  · exact h
  · rename_i i hi
    have hs := fstRow_spec hi
    have h0 := hr i c
    have hg : swp s.f s.piv.length i s.piv.length c = s.f i c := by unfold swp; rw [if_pos rfl]
    dsimp only at h
    rw [hg] at h
    refine Zer.of_swp (a := s.piv.length) (b := i) (by omega) hs.2.1 (Zer.of_scl (l := s.f i c) (hI _ (by omega) h0.2) (Zer.of_clr (by omega) h))
theorem elF_zer {p : Int} (hp : 0 < p) (hI : HasInv p) {R C : Nat} {f : Int → Int → Int} (hr : Rng f p) {y : Int → Int} : ∀ c, Zer (elF p R f c).f y R C p → Zer f y R C p
  | 0, h => h
  | c + 1, h => elF_zer hp hI hr c (elS_zer hI (elF_rng hp hr c) h)
/-- the columns of the pivots are those of the unit. -/
def UnC (s : ElS) (R c : Nat) : Prop := (∀ m, m < s.piv.length → (0 ≤ s.piv.getD m 0 ∧ s.piv.getD m 0 < c) ∧ ∀ i : Nat, i < R → s.f i (s.piv.getD m 0) = if i = m then 1 else 0) ∧ Rise s.piv
theorem elS_unc {p : Int} (hp : 1 < p) (hI : HasInv p) {R c : Nat} {s : ElS} (hr : Rng s.f p) (h : UnC s R c) : UnC (elS p R s c) R (c + 1) := by
  unfold elS
  split
  · exact ⟨fun m hm => ⟨by have := (h.1 m hm).1; dsimp only; omega, (h.1 m hm).2⟩, h.2⟩
  · rename_i i hi
    have hs := fstRow_spec hi
    have h0 := hr i c
    have hg : swp s.f s.piv.length i s.piv.length c = s.f i c := by unfold swp; rw [if_pos rfl]
    have hinv := hI _ (by omega : 0 < s.f i c) h0.2
    dsimp only
    rw [hg]
    generalize hG : swp s.f s.piv.length i = g at *
    have hrg : Rng g p := hG ▸ hr.swp _ _
    constructor
    · intro m hm
      rw [List.length_append, List.length_singleton] at hm
      dsimp only
      by_cases hmt : m < s.piv.length
      · have e : (s.piv ++ [(c : Int)]).getD m 0 = s.piv.getD m 0 := by simp only [List.getD]; rw [List.getElem?_append_left hmt]
        rw [e]
        obtain ⟨hb, hu⟩ := h.1 m hmt
        refine ⟨by omega, ?_⟩
        have hgu : ∀ j : Nat, j < R → g j (s.piv.getD m 0) = if j = m then 1 else 0 := by
          intro j hj
          rw [← hG]; unfold swp
          by_cases c1 : (j : Int) = s.piv.length
          · rw [if_pos c1, hu i (by omega), if_neg (by omega), if_neg (by omega)]
          · rw [if_neg c1]
            by_cases c2 : (j : Int) = i
            · rw [if_pos c2, hu s.piv.length (by omega), if_neg (by omega), if_neg (by omega)]
            · rw [if_neg c2, hu j hj]
        have ht : g s.piv.length (s.piv.getD m 0) = 0 := by rw [hgu _ (by omega), if_neg (by omega)]
        intro j hj
        unfold clr
        by_cases c1 : (j : Int) = s.piv.length
        · rw [if_pos c1]; unfold scl; rw [if_pos c1, ht, Int.zero_mul, Int.zero_emod, if_neg (by omega)]
        · rw [if_neg c1]
          have e1 : scl g s.piv.length (invF (s.f i c) p) p s.piv.length (s.piv.getD m 0) = 0 := by unfold scl; rw [if_pos rfl, ht, Int.zero_mul, Int.zero_emod]
          have e2 : scl g s.piv.length (invF (s.f i c) p) p j (s.piv.getD m 0) = g j (s.piv.getD m 0) := by unfold scl; rw [if_neg c1]
          rw [e1, e2, Int.mul_zero, Int.add_zero, hgu j hj]
          split
          · exact Int.emod_eq_of_lt (by omega) hp
          · exact Int.zero_emod p
      · obtain rfl : m = s.piv.length := by omega
        have e : (s.piv ++ [(c : Int)]).getD s.piv.length 0 = c := by simp [List.getD]
        rw [e]
        refine ⟨by omega, ?_⟩
        have ht : scl g s.piv.length (invF (s.f i c) p) p s.piv.length c = 1 := by
          unfold scl; rw [if_pos rfl, hg]; exact hinv
        intro j hj
        unfold clr
        by_cases c1 : (j : Int) = s.piv.length
        · rw [if_pos c1, if_pos (by omega), c1]; exact ht
        · rw [if_neg c1, if_neg (by omega), ht, Int.mul_one]
          rw [show ∀ a : Int, a + (p - a) = p from fun a => by omega, Int.emod_self]
    · intro m hm
      rw [List.length_append, List.length_singleton] at hm
      dsimp only
      have e : (s.piv ++ [(c : Int)]).getD m 0 = s.piv.getD m 0 := by simp only [List.getD]; rw [List.getElem?_append_left (by omega)]
      rw [e]
      by_cases hmt : m + 1 < s.piv.length
      · have e : (s.piv ++ [(c : Int)]).getD (m + 1) 0 = s.piv.getD (m + 1) 0 := by simp only [List.getD]; rw [List.getElem?_append_left hmt]
        rw [e]; exact h.2 m hmt
      · have e : (s.piv ++ [(c : Int)]).getD (m + 1) 0 = c := by rw [show m + 1 = s.piv.length by omega]; simp [List.getD]
        rw [e]; exact (h.1 m (by omega)).1.2
theorem elF_unc {p : Int} (hp : 1 < p) (hI : HasInv p) {R : Nat} {f : Int → Int → Int} (hr : Rng f p) : ∀ c, UnC (elF p R f c) R c
  | 0 => ⟨fun m hm => by simp [elF] at hm, fun m hm => by simp [elF] at hm⟩
  | c + 1 => elS_unc hp hI (elF_rng (by omega) hr c) (elF_unc hp hI hr c)
/-- as many pivots as columns: each column has its own. -/
theorem piv_all {s : ElS} {R n : Nat} (h : UnC s R n) (hl : s.piv.length = n) : ∀ m, m < n → s.piv.getD m 0 = m := by
  have lo : ∀ m, m < n → (m : Int) ≤ s.piv.getD m 0 := by
    intro m
    induction m with
    | zero => intro hm; exact (h.1 0 (by omega)).1.1
    | succ m ih =>
      intro hm
      have := ih (by omega)
      have := h.2 m (by omega)
      omega
  have hi : ∀ d m, m + d + 1 = n → s.piv.getD m 0 ≤ m := by
    intro d
    induction d with
    | zero => intro m hm; have := (h.1 m (by omega)).1.2; omega
    | succ d ih =>
      intro m hm
      have := ih (m + 1) (by omega)
      have := h.2 m (by omega)
      omega
  intro m hm
  have h1 := lo m hm
  have h2 := hi (n - m - 1) m (by omega)
  omega
theorem rdot_unit {r y : Int → Int} {i : Nat} : ∀ C : Nat, (∀ j : Nat, j < C → r j = if j = i then 1 else 0) → rdot r y C = if i < C then y i else 0
  | 0, _ => by simp [rdot]
  | C + 1, h => by
    simp only [rdot]
    rw [rdot_unit C fun j hj => h j (by omega), h C (by omega)]
    by_cases h1 : C = i
    · subst h1; simp
    · rw [if_neg h1, Int.zero_mul, Int.add_zero]
      by_cases h2 : i < C
      · rw [if_pos h2, if_pos (by omega)]
      · rw [if_neg h2, if_neg (by omega)]
/-- the solution: with a full rank, the last column, which then is what solves the rows. -/
theorem elF_sol {p : Int} (hp : 1 < p) (hI : HasInv p) {n : Nat} {f : Int → Int → Int} (hr : Rng f p) (hl : (elF p n f n).piv.length = n) {i : Nat} (hi : i < n) :
    (rdot (f i) (fun j => (elF p n f n).f j n) n - f i n) % p = 0 := by
  have hu := elF_unc hp hI (R := n) hr n
  have hpv := piv_all hu hl
  have hz : Zer (elF p n f n).f (fun j => if j = n then -1 else (elF p n f n).f j n) n (n + 1) p := fun k hk => by
    simp only [rdot, if_true]
    rw [rdot_unit (i := k) n fun j hj => by have := (hu.1 j (by omega)).2 k hk; rw [hpv j hj] at this; rw [this]; by_cases e : k = j <;> simp [e, eq_comm]]
    rw [if_pos hk, if_neg (by omega), Int.mul_neg, Int.mul_one, show ∀ a : Int, a + -a = 0 from fun a => by omega, Int.zero_emod]
  have h := elF_zer (by omega) hI hr n hz i hi
  simp only [rdot, if_true] at h
  have e : ∀ C : Nat, C ≤ n → rdot (f i) (fun j => if j = (n : Int) then -1 else (elF p n f n).f j n) C = rdot (f i) (fun j => (elF p n f n).f j n) C := by
    intro C
    induction C with
    | zero => intro _; rfl
    | succ C ih => intro hC; simp only [rdot]; rw [ih (by omega), if_neg (by omega)]
  rw [e n (Nat.le_refl _)] at h
  rw [Int.sub_eq_add_neg, ← Int.mul_one (f i n), ← Int.mul_neg]; exact h
theorem mul_mod_r (a b p : Int) : a * (b % p) % p = a * b % p := by rw [Int.mul_emod, Int.emod_emod_of_dvd _ (Int.dvd_refl p), ← Int.mul_emod]
theorem mul_mod_l (a b p : Int) : a % p * b % p = a * b % p := by rw [Int.mul_emod, Int.emod_emod_of_dvd _ (Int.dvd_refl p), ← Int.mul_emod]
theorem pw_half (acc a p : Int) (n : Nat) : (if n % 2 = 1 then acc * a % p else acc) * pw (a * a % p) p (n / 2) % p = acc * pw a p n % p := by
  by_cases h : n % 2 = 1
  · rw [if_pos h]
    have e : n = 2 * (n / 2) + 1 := by omega
    generalize n / 2 = m at *
    subst e
    rw [mul_mod_l, ← mul_mod_r, pw_sq, mul_mod_r]
    show _ = acc * (pw a p (2 * m) * a % p) % p
    rw [mul_mod_r, Int.mul_assoc, Int.mul_comm a]
  · rw [if_neg h]
    have e : n = 2 * (n / 2) := by omega
    generalize n / 2 = m at *
    subst e
    rw [← mul_mod_r, pw_sq, mul_mod_r]
def fp (p : Nat) : Nat → Nat → Nat → Nat → Nat
  | 0, _, _, acc => acc
  | f + 1, a, n, acc => fp p f (a * a % p) (n / 2) (if n % 2 = 1 then acc * a % p else acc)
theorem fp_ok (p : Nat) : ∀ (f a n acc : Nat), n < 2 ^ f → ((fp p f a n acc : Nat) : Int) % p = (acc : Int) * pw a p n % p
  | 0, a, n, acc, h => by
    obtain rfl : n = 0 := by simpa using h
    simp [fp, pw]
  | f + 1, a, n, acc, h => by
    have ih := fp_ok p f (a * a % p) (n / 2) (if n % 2 = 1 then acc * a % p else acc) (by rw [Nat.pow_succ] at h; omega)
    have hh := pw_half acc a p n
    show ((fp p f (a * a % p) (n / 2) (if n % 2 = 1 then acc * a % p else acc) : Nat) : Int) % p = _
    rw [ih, ← hh]
    split <;> push_cast <;> rfl
def primeN (p : Nat) : Bool := decide (2 ≤ p) && (List.range 16).all fun k => decide (k < 2) || decide (p < k * k) || p % k != 0
def invChk : Bool := (List.range 252).all fun p => !(primeN p) || (List.range p).all fun a => a == 0 || a * fp p 8 a (p - 2) 1 % p == 1
theorem invChk_ok : invChk = true := by decide +kernel
theorem hasInv_small {p : Int} (h2 : 2 ≤ p) (h3 : p ≤ 251) (hp : ∀ k : Int, 2 ≤ k → k * k ≤ p → p % k ≠ 0) : HasInv p := by
  obtain ⟨q, rfl⟩ : ∃ q : Nat, p = q := ⟨p.toNat, by omega⟩
  intro a h0 h1
  obtain ⟨b, rfl⟩ : ∃ b : Nat, a = b := ⟨a.toNat, by omega⟩
  have hc := invChk_ok
  unfold invChk at hc
  rw [List.all_eq_true] at hc
  have hq := hc q (List.mem_range.2 (by omega))
  have hpn : primeN q = true := by
    unfold primeN
    rw [Bool.and_eq_true, List.all_eq_true]
    refine ⟨by simp; omega, fun k hk => ?_⟩
    by_cases c1 : k < 2
    · simp [c1]
    · by_cases c2 : q < k * k
      · simp [c2]
      · have := hp k (by omega) (by have : (k * k : Nat) ≤ q := by omega
                                    exact_mod_cast this)
        have : q % k ≠ 0 := fun e => this (by exact_mod_cast congrArg (Nat.cast (R := Int)) e)
        simp [this]
  rw [hpn] at hq
  simp only [Bool.not_true, Bool.false_or, List.all_eq_true] at hq
  have hb := hq b (List.mem_range.2 (by omega))
  have hb0 : (b == 0) = false := by simp; omega
  rw [hb0, Bool.false_or, beq_iff_eq] at hb
  have hf := fp_ok q 8 b (q - 2) 1 (by omega)
  unfold invF
  rw [show ((q : Int) - 2).toNat = q - 2 by omega, ← mul_mod_r]
  rw [Int.natCast_one, Int.one_mul] at hf
  rw [← hf, mul_mod_r]
  exact_mod_cast congrArg (Nat.cast (R := Int)) hb
def sg (i : Nat) : Int := if i % 2 = 0 then 1 else -1
def sm (g : Nat → Int) : Nat → Int
  | 0 => 0
  | n + 1 => sm g n + g n
/-- a row and the first column are left out. -/
def dlr (i : Int) (f : Int → Int → Int) : Int → Int → Int := fun a b => f (if a < i then a else a + 1) (b + 1)
def dt : Nat → (Int → Int → Int) → Int
  | 0, _ => 1
  | n + 1, f => sm (fun i => sg i * f i 0 * dt n (dlr i f)) (n + 1)
def setr (f : Int → Int → Int) (r : Int) (v : Int → Int) : Int → Int → Int := fun i => if i = r then v else f i
/-- bytes in memory. -/
structure BytS (G : GH) (A : Option Addr) (L c : Nat) : Prop where
  cap : L ≤ c
  rd : ∀ i, i < L → ∃ z : Int, 0 ≤ z ∧ z ≤ 255 ∧ rd G (pa A i) = some (.int .u8 z)
theorem BytS.sub {G G' : GH} {A : Option Addr} {L c : Nat} (h : BytS G A L c) (s : Sub G G') : BytS G' A L c := ⟨h.cap, fun i hi => by
  obtain ⟨z, h0, h1, h2⟩ := h.rd i hi
  exact ⟨z, h0, h1, rd_sub s h2⟩⟩
/-- a source: a block of one's own, of which only this is known; H is what else is known. -/
structure Src (H G : GH) (b : Nat) (A : Option Addr) (L c p : Nat) : Prop where
  sub : Sub H G
  nb : H b = none
  byt : BytS H A L c
  ex : ∃ (p' : Nat) (st : Int), p' ≤ p ∧ G b = some ⟨[.slice A L c, .int .i64 p', .int .u64 st], true⟩
theorem Src.le {H G : GH} {b : Nat} {A : Option Addr} {L c p p' : Nat} (h : Src H G b A L c p) (hp : p ≤ p') : Src H G b A L c p' := by
  obtain ⟨q, st, h1, h2⟩ := h.ex
  exact ⟨h.sub, h.nb, h.byt, q, st, by omega, h2⟩
theorem Src.ne {H G : GH} {b x : Nat} {A : Option Addr} {L c p : Nat} (h : Src H G b A L c p) (hx : G x = none) : x ≠ b := by
  obtain ⟨q, st, h1, h2⟩ := h.ex
  exact fun e => by rw [e, h2] at hx; cases hx
/-- a new block beside it. -/
theorem Src.box {H G : GH} {b x : Nat} {A : Option Addr} {L c p : Nat} (h : Src H G b A L c p) (hx : G x = none) (e : Ent) : Src (put H x e) (put G x e) b A L c p := by
  have hne := h.ne hx
  obtain ⟨q, st, h1, h2⟩ := h.ex
  exact ⟨h.sub.both, by rw [put_ne _ _ hne.symm]; exact h.nb, h.byt.sub (Sub.put (h.sub.none hx) _), q, st, h1, by rw [put_ne _ _ hne.symm]; exact h2⟩
theorem Src.low {H H' G : GH} {b : Nat} {A : Option Addr} {L c p : Nat} (h : Src H G b A L c p) (s : Sub H' H) (hb : BytS H' A L c) : Src H' G b A L c p := ⟨s.trans h.sub, s.none h.nb, hb, h.ex⟩
theorem shr40 (st : Int) : binV .shr (.int .u64 st) (.int .u64 40) = some (.int .u64 (st.fdiv (2 ^ 40))) := by
  simp [binV, binOp, Op.shift, pureOf, pure, IntKind.bits]
theorem and255 (x : Int) : ∃ z : Int, (0 ≤ z ∧ z ≤ 255) ∧ binV .and (.int .u64 x) (.int .u64 255) = some (.int .u64 z) := by
  have h2 : binV .and (.int .u64 x) (.int .u64 255) = some (.int .u64 (IntKind.u64.wrap ((BitVec.ofInt 64 x &&& BitVec.ofInt 64 255).toNat : Nat))) := rfl
  refine ⟨_, ?_, h2⟩
  have h1 : (BitVec.ofInt 64 x &&& BitVec.ofInt 64 255).toNat ≤ 255 := by
    rw [BitVec.toNat_and]
    exact Nat.le_trans Nat.and_le_right (by decide)
  generalize (BitVec.ofInt 64 x &&& BitVec.ofInt 64 255).toNat = w at *
  have : IntKind.u64.wrap (w : Int) = w := by
    simp [IntKind.wrap, IntKind.signed, IntKind.bits]
    omega
  rw [this]; omega
theorem rd_some' {G : GH} {A : Option Addr} {k : Nat} {v : Value} (h : rd G (pa A k) = some v) : 0 < sn A := by
  cases A with
  | none => cases h
  | some a => simp [sn]
theorem st_src {G : GH} {b o : Nat} {cs : List Value} {v : Value} {K : Value → GH → Prop} (h : G b = some ⟨cs, true⟩) (h1 : oneB v = true) (ho : o < cs.length) (hk : ∀ G', Keep b G G' → G' b = some ⟨cs.set o v, true⟩ → K undef G') : gSt 1 (.pointer (some ⟨b, o, none⟩)) v G K :=
  st_one h ho h1 (hk _ (fun y hy => put_ne _ _ hy) (put_same _ _ _))
theorem spec_next_ok {H G : GH} {b : Nat} {A : Option Addr} {L c p : Nat} (h : Src H G b A L c p) (hp : p < 2 ^ 40) {K : Value → GH → Prop}
    (hk : ∀ (v : Int) G', 0 ≤ v → v ≤ 255 → Src H G' b A L c (p + 1) → K (.int .i64 v) G') : GC Try.prog 249 [.pointer (some ⟨b, 0, none⟩)] G K := by
  refine c_spec_l00Src_next_i (by simp) ?_
  obtain ⟨p', st, hpp, hb⟩ := h.ex
  have r0 : rd G (some ⟨b, 0, none⟩) = some (.slice A L c) := by simp only [rd, hb]; rfl
  have r1 : rd G (some ⟨b, 1, none⟩) = some (.int .i64 p') := by simp only [rd, hb]; rfl
  have r2 : rd G (some ⟨b, 2, none⟩) = some (.int .u64 st) := by simp only [rd, hb]; rfl
  have fin : ∀ (st' : Int) (v : Int) (G' : GH), 0 ≤ v → v ≤ 255 → Keep b G G' → G' b = some ⟨[.slice A L c, .int .i64 ((p' : Int) + 1), .int .u64 st'], true⟩ → K (.int .i64 v) G' := fun st' v G' h0 h1 hK hb' =>
    hk v G' h0 h1 ⟨sub_keep hK h.nb h.sub, h.nb, h.byt, p' + 1, st', by omega, by rw [hb']; rfl⟩
  clear hk
  have hz := and255
  simp (maxSteps := 300000) (disch := omega) only [gs, gs2, gs3, gs4, ↓reduceIte, Nat.reduceEqDiff, Int.reduceToNat, Nat.reduceMul, Nat.reduceAdd, Nat.reduceBEq, isLd, r0, r1, r2]
  by_cases hlt : (p' : Int) < L
  · obtain ⟨z, z0, z1, hz'⟩ := h.byt.rd p' (by omega)
    have hz' := rd_sub h.sub hz'
    have hsA : 0 < sn A := rd_some' hz'
    simp (maxSteps := 300000) (disch := omega) only [gs, gs2, gs3, gs4, ↓reduceIte, Nat.reduceEqDiff, Int.reduceToNat, Nat.reduceMul, Nat.reduceAdd, Nat.reduceBEq, isLd, r0, r1, r2, hlt, hz']
    refine st_src hb rfl (by simp) fun G2 hK1 hb1 => ?_
    simp only [List.set_cons_succ, List.set_cons_zero] at hb1
    have r0 : rd G2 (some ⟨b, 0, none⟩) = some (.slice A L c) := by simp only [rd, hb1]; rfl
    have r1 : rd G2 (some ⟨b, 1, none⟩) = some (.int .i64 ((p' : Int) + 1)) := by simp only [rd, hb1]; rfl
    have r2 : rd G2 (some ⟨b, 2, none⟩) = some (.int .u64 st) := by simp only [rd, hb1]; rfl
    simp (maxSteps := 300000) (disch := omega) only [gs, gs2, gs3, gs4, ↓reduceIte, Nat.reduceEqDiff, Int.reduceToNat, Nat.reduceMul, Nat.reduceAdd, Nat.reduceBEq, isLd, r0, r1, r2]
    refine st_src hb1 rfl (by simp) fun G3 hK2 hb2 => ?_
    simp only [List.set_cons_succ, List.set_cons_zero] at hb2
    have hK3 : Keep b G G3 := fun x hx => (hK2 x hx).trans (hK1 x hx)
    obtain ⟨st', hb3⟩ : ∃ st', G3 b = some ⟨[.slice A L c, .int .i64 ((p' : Int) + 1), .int .u64 st'], true⟩ := ⟨_, hb2⟩
    clear hb2
    have r0 : rd G3 (some ⟨b, 0, none⟩) = some (.slice A L c) := by simp only [rd, hb3]; rfl
    have r1 : rd G3 (some ⟨b, 1, none⟩) = some (.int .i64 ((p' : Int) + 1)) := by simp only [rd, hb3]; rfl
    have r2 : rd G3 (some ⟨b, 2, none⟩) = some (.int .u64 st') := by simp only [rd, hb3]; rfl
    simp (maxSteps := 300000) (disch := omega) only [gs, gs2, gs3, gs4, ↓reduceIte, Nat.reduceEqDiff, Int.reduceToNat, Nat.reduceMul, Nat.reduceAdd, Nat.reduceBEq, isLd, r0, r1, r2, show ((p' : Int) + 1 ≤ L) = True from eq_true (by omega)]
    exact fin st' z G3 z0 z1 hK3 hb3
  · simp (maxSteps := 300000) (disch := omega) only [gs, gs2, gs3, gs4, ↓reduceIte, Nat.reduceEqDiff, Int.reduceToNat, Nat.reduceMul, Nat.reduceAdd, Nat.reduceBEq, isLd, r0, r1, r2, hlt]
    refine st_src hb rfl (by simp) fun G2 hK1 hb1 => ?_
    simp only [List.set_cons_succ, List.set_cons_zero] at hb1
    have r0 : rd G2 (some ⟨b, 0, none⟩) = some (.slice A L c) := by simp only [rd, hb1]; rfl
    have r1 : rd G2 (some ⟨b, 1, none⟩) = some (.int .i64 ((p' : Int) + 1)) := by simp only [rd, hb1]; rfl
    have r2 : rd G2 (some ⟨b, 2, none⟩) = some (.int .u64 st) := by simp only [rd, hb1]; rfl
    simp (maxSteps := 300000) (disch := omega) only [gs, gs2, gs3, gs4, ↓reduceIte, Nat.reduceEqDiff, Int.reduceToNat, Nat.reduceMul, Nat.reduceAdd, Nat.reduceBEq, isLd, r0, r1, r2]
    refine st_src hb1 rfl (by simp) fun G3 hK2 hb2 => ?_
    simp only [List.set_cons_succ, List.set_cons_zero] at hb2
    have hK3 : Keep b G G3 := fun x hx => (hK2 x hx).trans (hK1 x hx)
    obtain ⟨st', hb3⟩ : ∃ st', G3 b = some ⟨[.slice A L c, .int .i64 ((p' : Int) + 1), .int .u64 st'], true⟩ := ⟨_, hb2⟩
    clear hb2
    have r0 : rd G3 (some ⟨b, 0, none⟩) = some (.slice A L c) := by simp only [rd, hb3]; rfl
    have r1 : rd G3 (some ⟨b, 1, none⟩) = some (.int .i64 ((p' : Int) + 1)) := by simp only [rd, hb3]; rfl
    have r2 : rd G3 (some ⟨b, 2, none⟩) = some (.int .u64 st') := by simp only [rd, hb3]; rfl
    obtain ⟨z, ⟨z0, z1⟩, hz'⟩ := hz (st'.fdiv (2 ^ 40))
    simp (maxSteps := 300000) (disch := omega) only [gs, gs2, gs3, gs4, ↓reduceIte, Nat.reduceEqDiff, Int.reduceToNat, Nat.reduceMul, Nat.reduceAdd, Nat.reduceBEq, isLd, r0, r1, r2, show ((p' : Int) + 1 ≤ L) = False from eq_false (by omega), shr40, hz']
    exact fin st' z G3 z0 z1 hK3 hb3
theorem spec_pick_ok {H G : GH} {b : Nat} {A : Option Addr} {L c p : Nat} (h : Src H G b A L c p) (hp : p + 2 < 2 ^ 40) {n : Int} (hn : n ≤ 10000) {K : Value → GH → Prop}
    (hk : ∀ (v : Int) G', 0 ≤ v → (1 ≤ n → v < n) → (n < 1 → v = 0) → Src H G' b A L c (p + 2) → K (.int .i64 v) G') : GC Try.prog 220 [.pointer (some ⟨b, 0, none⟩), .int .i64 n] G K := by
  refine c_spec_l00Src_pick_i (by simp) ?_
  simp (maxSteps := 300000) (disch := omega) only [gs, gs2, gs3, gs4, ↓reduceIte, Nat.reduceEqDiff, Int.reduceToNat, Nat.reduceMul, Nat.reduceAdd, Nat.reduceBEq, isLd]
  by_cases h1 : n ≤ 1
  · simp (maxSteps := 300000) (disch := omega) only [gs, gs2, gs3, gs4, ↓reduceIte, Nat.reduceEqDiff, Int.reduceToNat, Nat.reduceMul, Nat.reduceAdd, Nat.reduceBEq, isLd, h1]
    exact hk 0 G (by omega) (by omega) (fun _ => rfl) (h.le (by omega))
  · simp (maxSteps := 300000) (disch := omega) only [gs, gs2, gs3, gs4, ↓reduceIte, Nat.reduceEqDiff, Int.reduceToNat, Nat.reduceMul, Nat.reduceAdd, Nat.reduceBEq, isLd, h1]
    refine spec_next_ok h (by omega) fun v G2 v0 v1 h2 => ?_
    simp (maxSteps := 300000) (disch := omega) only [gs, gs2, gs3, gs4, ↓reduceIte, Nat.reduceEqDiff, Int.reduceToNat, Nat.reduceMul, Nat.reduceAdd, Nat.reduceBEq, isLd]
    have fin : ∀ (x : Int) G', 0 ≤ x → Src H G' b A L c (p + 2) → K (.int .i64 (x.tmod n)) G' := fun x G' x0 h' => by
      have e1 := Int.tmod_nonneg n x0
      have e2 := Int.tmod_lt_of_pos x (show 0 < n by omega)
      exact hk _ G' e1 (fun _ => e2) (fun y => by omega) h'
    have hrem := fun x : Int => bin_rem .i64 x n (by omega)
    by_cases h3 : 200 < n
    · simp (maxSteps := 300000) (disch := omega) only [gs, gs2, gs3, gs4, ↓reduceIte, Nat.reduceEqDiff, Int.reduceToNat, Nat.reduceMul, Nat.reduceAdd, Nat.reduceBEq, isLd, h3]
      refine spec_next_ok h2 (by omega) fun w G3 w0 w1 h4 => ?_
      simp (maxSteps := 300000) (disch := omega) only [gs, gs2, gs3, gs4, ↓reduceIte, Nat.reduceEqDiff, Int.reduceToNat, Nat.reduceMul, Nat.reduceAdd, Nat.reduceBEq, isLd, hrem]
      exact fin _ G3 (by omega) h4
    · simp (maxSteps := 300000) (disch := omega) only [gs, gs2, gs3, gs4, ↓reduceIte, Nat.reduceEqDiff, Int.reduceToNat, Nat.reduceMul, Nat.reduceAdd, Nat.reduceBEq, isLd, h3, hrem]
      exact fin _ G2 v0 (h2.le (by omega))
theorem spec_one_ok {H G : GH} {b : Nat} {A : Option Addr} {L c p : Nat} (h : Src H G b A L c p) (hp : p + 2 < 2 ^ 40) {n : Int} (hn : n ≤ 10000) {K : Value → GH → Prop}
    (hk : ∀ (v : Bool) G', Src H G' b A L c (p + 2) → K (.bool v) G') : GC Try.prog 221 [.pointer (some ⟨b, 0, none⟩), .int .i64 n] G K := by
  refine c_spec_l00Src_one_i (by simp) ?_
  simp (maxSteps := 300000) (disch := omega) only [gs, gs2, gs3, gs4, ↓reduceIte, Nat.reduceEqDiff, Int.reduceToNat, Nat.reduceMul, Nat.reduceAdd, Nat.reduceBEq, isLd]
  refine spec_pick_ok h hp hn fun v G2 _ _ _ h2 => ?_
  simp (maxSteps := 300000) (disch := omega) only [gs, gs2, gs3, gs4, ↓reduceIte, Nat.reduceEqDiff, Int.reduceToNat, Nat.reduceMul, Nat.reduceAdd, Nat.reduceBEq, isLd]
  exact hk _ G2 h2
theorem spec_among_ok {H G : GH} {b : Nat} {A B : Option Addr} {L c p d : Nat} {xs : List Int} (h : Src H G b A L c p) (hp : p + 2 < 2 ^ 40) (hx : IntS H B d xs) (hl : 1 ≤ xs.length) (hl2 : xs.length ≤ 10000) {K : Value → GH → Prop}
    (hk : ∀ (v : Int) G', v ∈ xs → Src H G' b A L c (p + 2) → K (.int .i64 v) G') : GC Try.prog 157 [.pointer (some ⟨b, 0, none⟩), .slice B xs.length d] G K := by
  refine c_spec_l00Src_among_i (by simp) ?_
  simp (maxSteps := 300000) (disch := omega) only [gs, gs2, gs3, gs4, ↓reduceIte, Nat.reduceEqDiff, Int.reduceToNat, Nat.reduceMul, Nat.reduceAdd, Nat.reduceBEq, isLd]
  refine spec_pick_ok h hp (by omega) fun v G2 v0 v1 _ h2 => ?_
  have hv := v1 (by omega)
  have q := (hx.sub h2.sub).rd v.toNat (by omega)
  have hsB := hx.sn (by omega)
  simp (maxSteps := 300000) (disch := omega) only [gs, gs2, gs3, gs4, ↓reduceIte, Nat.reduceEqDiff, Int.reduceToNat, Nat.reduceMul, Nat.reduceAdd, Nat.reduceBEq, isLd, q]
  exact hk _ G2 (by
    have : v.toNat < xs.length := by omega
    simp [List.getD, this]) h2
theorem flat3_set2 (x : Int) (r : List Value) : ∀ (es : List T3) (k : Nat), k < es.length → (flat3 es ++ r).set (k * 3 + 2) (.int .i64 x) = flat3 (es.set k ((es.getD k z3).1, (es.getD k z3).2.1, x)) ++ r
  | [], k, h => by simp at h
  | e :: es, 0, _ => by simp [flat3, c3, List.getD]
  | e :: es, k + 1, h => by
    have ih := flat3_set2 x r es k (by simpa using h)
    have e1 : flat3 (e :: es) = c3 e ++ flat3 es := by simp [flat3]
    have e2 : (e :: es).getD (k + 1) z3 = es.getD k z3 := rfl
    rw [e1, e2, List.set_cons_succ, show flat3 (e :: es.set k ((es.getD k z3).1, (es.getD k z3).2.1, x)) = c3 e ++ flat3 (es.set k ((es.getD k z3).1, (es.getD k z3).2.1, x)) by simp [flat3], List.append_assoc, List.append_assoc, ← ih, show (k + 1) * 3 + 2 = (c3 e).length + (k * 3 + 2) by simp [c3]; omega, List.set_append_right _ _ (by omega), Nat.add_sub_cancel_left]
theorem T3S.cells {G : GH} {A : Option Addr} {c : Nat} {es : List T3} (h : T3S G A c es) : Cells G A (flat3 es) := fun i v hv => by
  have hl : i < (flat3 es).length := by
    rcases Nat.lt_or_ge i (flat3 es).length with h | h
    · exact h
    · rw [List.getElem?_eq_none h] at hv; cases hv
  rw [flat3_len] at hl
  have hi : i / 3 < es.length := by omega
  obtain ⟨g0, g1, g2⟩ := flat3_get es (i / 3) hi
  have h3 : i % 3 = 0 ∨ i % 3 = 1 ∨ i % 3 = 2 := by omega
  rcases h3 with h3 | h3 | h3
  · rw [show i = i / 3 * 3 by omega] at hv ⊢
    rw [g0] at hv; cases hv
    exact h.r0 _ hi
  · have e : i = i / 3 * 3 + 1 := by omega
    rw [e] at hv ⊢
    rw [g1] at hv; cases hv
    exact h.r1 _ hi
  · have e : i = i / 3 * 3 + 2 := by omega
    rw [e] at hv ⊢
    rw [g2] at hv; cases hv
    exact h.r2 _ hi
theorem Src.all {H G : GH} {b : Nat} {A : Option Addr} {L c p : Nat} (h : Src H G b A L c p) : Src (del G b) G b A L c p := ⟨Sub.del _ _, del_none _ _, h.byt.sub (h.sub.in_del h.nb), h.ex⟩
theorem Own.del {G : GH} {A : Option Addr} {c sz n b : Nat} {cs : List Value} (h : Own G A c cs sz n) (hb : ∀ a, A = some a → a.block ≠ b) : Own (Gh.del G b) A c cs sz n := by
  rcases h with h | ⟨x, r, rfl, h2, h3⟩
  · exact .inl h
  · exact .inr ⟨x, r, rfl, by rw [del_ne _ (hb _ rfl)]; exact h2, h3⟩
/-- the heap without the block of a list. -/
def wo (G : GH) (A : Option Addr) : GH := fun x => if A.map (·.block) = some x then none else G x
theorem Sub.wo (G : GH) (A : Option Addr) : Sub (Gh.wo G A) G := fun x e h => by
  unfold Gh.wo at h; split at h
  · cases h
  · exact h
theorem Off.wo (G : GH) (A : Option Addr) : Off (Gh.wo G A) A := fun a ha => by unfold Gh.wo; rw [if_pos (by rw [ha]; rfl)]
theorem wo_ne {G : GH} {A : Option Addr} {x : Nat} (h : ∀ a, A = some a → a.block ≠ x) : wo G A x = G x := by
  unfold wo; rw [if_neg]
  cases A with
  | none => simp
  | some a => simp; exact h a rfl
def z2 : List Value := [.int .i64 0, .slice none 0 0]
structure GN (H0 G : GH) (b b2 b3 : Nat) (A : Option Addr) (L c p : Nat) (N : Gra) (Ap : Option Addr) (cp : Nat) : Prop where
  src : Src H0 G b A L c p
  r2 : G b2 = some ⟨z2, true⟩
  r3 : G b3 = some ⟨graC N Ap cp, true⟩
  own : Own G Ap cp (flat3 N.edges) 3 N.edges.length
  n2 : H0 b2 = none
  n3 : H0 b3 = none
  off : Off H0 Ap
  d2 : b2 ≠ b
  d3 : b3 ≠ b
  d23 : b2 ≠ b3
  da : ∀ a, Ap = some a → a.block ≠ b ∧ a.block ≠ b2 ∧ a.block ≠ b3
theorem GN.step {H0 G G' : GH} {b b2 b3 : Nat} {A : Option Addr} {L c p p' : Nat} {N : Gra} {Ap : Option Addr} {cp : Nat} (h : GN H0 G b b2 b3 A L c p N Ap cp) (s : Src (del G b) G' b A L c p') : GN H0 G' b b2 b3 A L c p' N Ap cp := by
  have hs := s.sub
  exact ⟨⟨(h.src.sub.in_del h.src.nb).trans hs, h.src.nb, h.src.byt, s.ex⟩, hs _ _ (by rw [del_ne _ h.d2]; exact h.r2), hs _ _ (by rw [del_ne _ h.d3]; exact h.r3), (h.own.del fun a ha => (h.da a ha).1).sub hs, h.n2, h.n3, h.off, h.d2, h.d3, h.d23, h.da⟩
theorem GN.box {H0 G : GH} {b b2 b3 x : Nat} {A : Option Addr} {L c p : Nat} {N : Gra} {Ap : Option Addr} {cp : Nat} (h : GN H0 G b b2 b3 A L c p N Ap cp) (hx : G x = none) (e : Ent) : GN H0 (put G x e) b b2 b3 A L c p N Ap cp := by
  have s := Sub.put hx e
  obtain ⟨q, st, h1, h2⟩ := h.src.ex
  exact ⟨⟨h.src.sub.trans s, h.src.nb, h.src.byt, q, st, h1, s _ _ h2⟩, s _ _ h.r2, s _ _ h.r3, h.own.sub s, h.n2, h.n3, h.off, h.d2, h.d3, h.d23, h.da⟩
theorem GN.le {H0 G : GH} {b b2 b3 : Nat} {A : Option Addr} {L c p p' : Nat} {N : Gra} {Ap : Option Addr} {cp : Nat} (h : GN H0 G b b2 b3 A L c p N Ap cp) (hp : p ≤ p') : GN H0 G b b2 b3 A L c p' N Ap cp := ⟨h.src.le hp, h.r2, h.r3, h.own, h.n2, h.n3, h.off, h.d2, h.d3, h.d23, h.da⟩
theorem GN.rd {H0 G : GH} {b b2 b3 : Nat} {A : Option Addr} {L c p : Nat} {N : Gra} {Ap : Option Addr} {cp : Nat} (h : GN H0 G b b2 b3 A L c p N Ap cp) : rd G (some ⟨b3, 0, none⟩) = some (.int .i64 N.n) ∧ rd G (some ⟨b3, 1, none⟩) = some (.slice Ap N.edges.length cp) := by
  simp only [Gh.rd, h.r3, Option.bind_some, graC]; exact ⟨rfl, rfl⟩
theorem GN.grow {H0 G G' : GH} {b b2 b3 : Nat} {A : Option Addr} {L c p : Nat} {n : Int} {es es' : List T3} {Ap A' : Option Addr} {cp c' : Nat} (h : GN H0 G b b2 b3 A L c p ⟨n, es⟩ Ap cp) (ho : Own G' A' c' (flat3 es') 3 es'.length) (hs : Sub (wo G Ap) G') (hf : Off (wo G Ap) A') :
    GN H0 (put G' b3 ⟨graC ⟨n, es'⟩ A' c', true⟩) b b2 b3 A L c p ⟨n, es'⟩ A' c' ∧ G' b3 = some ⟨graC ⟨n, es⟩ Ap cp, true⟩ := by
  obtain ⟨q, st, h1, h2⟩ := h.src.ex
  have k : ∀ x e, G x = some e → (∀ a, Ap = some a → a.block ≠ x) → G' x = some e ∧ ∀ a, A' = some a → a.block ≠ x := fun x e hx hne => by
    have hw : wo G Ap x = some e := by rw [wo_ne hne]; exact hx
    refine ⟨hs _ _ hw, fun a ha e' => ?_⟩
    have := hf a ha
    rw [e', hw] at this; cases this
  obtain ⟨kb, ab⟩ := k b _ h2 (fun a ha => (h.da a ha).1)
  obtain ⟨k2, a2⟩ := k b2 _ h.r2 (fun a ha => (h.da a ha).2.1)
  obtain ⟨k3, a3⟩ := k b3 _ h.r3 (fun a ha => (h.da a ha).2.2)
  have s0 : Sub H0 (wo G Ap) := fun x e hx => by
    rw [wo_ne fun a ha e' => by have := h.off a ha; rw [e', hx] at this; cases this]
    exact h.src.sub _ _ hx
  refine ⟨⟨⟨(s0.trans hs).skip h.n3, h.src.nb, h.src.byt, q, st, h1, by rw [put_ne _ _ h.d3.symm]; exact kb⟩, by rw [put_ne _ _ h.d23]; exact k2, put_same _ _ _, ?_, h.n2, h.n3, hf.mono s0, h.d2, h.d3, h.d23, fun a ha => ⟨ab a ha, a2 a ha, a3 a ha⟩⟩, k3⟩
  rcases ho with ho | ⟨x, r, rfl, hx, hr⟩
  · exact .inl ho
  · exact .inr ⟨x, r, rfl, by rw [put_ne _ _ (a3 _ rfl)]; exact hx, hr⟩
theorem GN.set {H0 G : GH} {b b2 b3 : Nat} {A : Option Addr} {L c p : Nat} {n : Int} {es : List T3} {Ap : Option Addr} {cp : Nat} (h : GN H0 G b b2 b3 A L c p ⟨n, es⟩ Ap cp) (n' : Int) : GN H0 (put G b3 ⟨graC ⟨n', es⟩ Ap cp, true⟩) b b2 b3 A L c p ⟨n', es⟩ Ap cp := by
  obtain ⟨q, st, h1, h2⟩ := h.src.ex
  refine ⟨⟨h.src.sub.skip h.n3, h.src.nb, h.src.byt, q, st, h1, by rw [put_ne _ _ h.d3.symm]; exact h2⟩, by rw [put_ne _ _ h.d23]; exact h.r2, put_same _ _ _, ?_, h.n2, h.n3, h.off, h.d2, h.d3, h.d23, h.da⟩
  rcases h.own with ho | ⟨x, r, rfl, hx, hr⟩
  · exact .inl ho
  · exact .inr ⟨x, r, rfl, by rw [put_ne _ _ (h.da _ rfl).2.2]; exact hx, hr⟩
/-- a graph that may be bent: small numbers. -/
structure GSm (N : Gra) : Prop where
  n : 0 ≤ N.n ∧ N.n ≤ 20
  len : N.edges.length ≤ 64
  el : ∀ e ∈ N.edges, (0 ≤ e.1 ∧ e.1 ≤ 100) ∧ (0 ≤ e.2.1 ∧ e.2.1 ≤ 100) ∧ (0 ≤ e.2.2 ∧ e.2.2 ≤ 100)
theorem GSm.snoc {n : Int} {es : List T3} (h : GSm ⟨n, es⟩) (hl : es.length < 64) {a b w : Int} (ha : 0 ≤ a ∧ a ≤ 100) (hb : 0 ≤ b ∧ b ≤ 100) (hw : 0 ≤ w ∧ w ≤ 100) : GSm ⟨n, es ++ [(a, b, w)]⟩ :=
  ⟨h.n, by simp; omega, fun e he => by
    rcases List.mem_append.1 he with h' | h'
    · exact h.el e h'
    · simp at h'; subst h'; exact ⟨ha, hb, hw⟩⟩
theorem st_boxg {G : GH} {b o : Nat} {cs : List Value} {v : Value} {K : Value → GH → Prop} (h : G b = some ⟨cs, true⟩) (h1 : oneB v = true) (ho : o < cs.length) (cs' : List Value) (hc : cs.set o v = cs') (hk : K undef (put G b ⟨cs', true⟩)) : gSt 1 (.pointer (some ⟨b, o, none⟩)) v G K :=
  st_one h ho h1 (by rw [hc]; exact hk)
theorem drawg_l1 {H0 G : GH} {b b2 b3 : Nat} {A : Option Addr} {L c p : Nat} {n : Int} {T : Nat → Value} {Q : Cont} {mn : Int} (hmn : 1 ≤ mn ∧ mn ≤ 9) (hp : p ≤ 2000) (hn : 1 ≤ n ∧ n ≤ 12) (hD : GN H0 G b b2 b3 A L c p ⟨n, []⟩ none 0)
    (x0 : T 0 = .pointer (some ⟨b, 0, none⟩)) (x2 : T 2 = .pointer (some ⟨b2, 0, none⟩)) (x3 : T 3 = .pointer (some ⟨b3, 0, none⟩)) (x4 : T 4 = .int .i64 mn) (x5 : T 5 = .int .i64 0)
    (hQ : ∀ T G' es Ap cp, T 2 = .pointer (some ⟨b2, 0, none⟩) → T 3 = .pointer (some ⟨b3, 0, none⟩) → GSm ⟨n, es⟩ → es.length ≤ 24 → GN H0 G' b b2 b3 A L c (p + 700) ⟨n, es⟩ Ap cp → Q (.ex 0) T G') : gLoop (gW Try.prog c_spec_l16DrawOk_l1) Q T G := by
  refine gLoop_intro (fun m T G' => ∃ (i : Nat) (es : List T3) (Ap : Option Addr) (cp : Nat), T 0 = .pointer (some ⟨b, 0, none⟩) ∧ T 2 = .pointer (some ⟨b2, 0, none⟩) ∧ T 3 = .pointer (some ⟨b3, 0, none⟩) ∧ T 4 = .int .i64 mn ∧ T 5 = .int .i64 i ∧ m + i = n.toNat ∧ i ≤ n.toNat ∧ GSm ⟨n, es⟩ ∧ es.length ≤ 24 ∧ GN H0 G' b b2 b3 A L c (p + 48 * i) ⟨n, es⟩ Ap cp)
    n.toNat ⟨0, [], none, 0, x0, x2, x3, x4, x5, by omega, by omega, ⟨by dsimp only; omega, by simp, fun e he => by simp at he⟩, by simp, hD⟩ ?_
  clear x0 x2 x3 x4 x5 hD
  rintro m T G' ⟨i, es, Ap, cp, x0, x2, x3, x4, x5, hm, him, hA, hl, hD⟩
  obtain ⟨f0, f1⟩ := hD.rd
  dsimp only at f0 f1
  simp (maxSteps := 300000) (disch := omega) only [gs, gs2, gs3, gs4, ↓reduceIte, Nat.reduceEqDiff, Int.reduceToNat, Nat.reduceMul, Nat.reduceAdd, Nat.reduceBEq, isLd, x0, x2, x3, x4, x5, f0]
  by_cases hi : (i : Int) < n
  · simp (maxSteps := 300000) (disch := omega) only [gs, gs2, gs3, gs4, ↓reduceIte, Nat.reduceEqDiff, Int.reduceToNat, Nat.reduceMul, Nat.reduceAdd, Nat.reduceBEq, isLd, x0, x2, x3, x4, x5, hi, f0]
    refine gLoop_intro (fun m' T G' => ∃ (j : Nat) (es : List T3) (Ap : Option Addr) (cp : Nat), T 0 = .pointer (some ⟨b, 0, none⟩) ∧ T 2 = .pointer (some ⟨b2, 0, none⟩) ∧ T 3 = .pointer (some ⟨b3, 0, none⟩) ∧ T 4 = .int .i64 mn ∧ T 5 = .int .i64 i ∧ T 6 = .int .i64 j ∧ m' + j = n.toNat ∧ i + 1 ≤ j ∧ j ≤ n.toNat ∧ GSm ⟨n, es⟩ ∧ es.length ≤ 24 ∧ GN H0 G' b b2 b3 A L c (p + 48 * i + 4 * j) ⟨n, es⟩ Ap cp)
      (n.toNat - (i + 1)) ⟨i + 1, es, Ap, cp, by simp (maxSteps := 300000) (disch := omega) only [gs, gs2, gs3, gs4, ↓reduceIte, Nat.reduceEqDiff, Int.reduceToNat, Nat.reduceMul, Nat.reduceAdd, Nat.reduceBEq, isLd, x0], by simp (maxSteps := 300000) (disch := omega) only [gs, gs2, gs3, gs4, ↓reduceIte, Nat.reduceEqDiff, Int.reduceToNat, Nat.reduceMul, Nat.reduceAdd, Nat.reduceBEq, isLd, x2], by simp (maxSteps := 300000) (disch := omega) only [gs, gs2, gs3, gs4, ↓reduceIte, Nat.reduceEqDiff, Int.reduceToNat, Nat.reduceMul, Nat.reduceAdd, Nat.reduceBEq, isLd, x3], by simp (maxSteps := 300000) (disch := omega) only [gs, gs2, gs3, gs4, ↓reduceIte, Nat.reduceEqDiff, Int.reduceToNat, Nat.reduceMul, Nat.reduceAdd, Nat.reduceBEq, isLd, x4], by simp (maxSteps := 300000) (disch := omega) only [gs, gs2, gs3, gs4, ↓reduceIte, Nat.reduceEqDiff, Int.reduceToNat, Nat.reduceMul, Nat.reduceAdd, Nat.reduceBEq, isLd, x5], by simp (maxSteps := 300000) (disch := omega) only [gs, gs2, gs3, gs4, ↓reduceIte, Nat.reduceEqDiff, Int.reduceToNat, Nat.reduceMul, Nat.reduceAdd, Nat.reduceBEq, isLd] <;> rfl, by omega, by omega, by omega, hA, hl, hD.le (by omega)⟩ ?_
    clear x0 x2 x3 x4 x5 hD hA f0 f1 hl
    rintro m' T G' ⟨j, es, Ap, cp, x0, x2, x3, x4, x5, x6, hm', hij, hjm, hA, hl, hD⟩
    obtain ⟨f0, f1⟩ := hD.rd
    dsimp only at f0 f1
    simp (maxSteps := 300000) (disch := omega) only [gs, gs2, gs3, gs4, ↓reduceIte, Nat.reduceEqDiff, Int.reduceToNat, Nat.reduceMul, Nat.reduceAdd, Nat.reduceBEq, isLd, x0, x2, x3, x4, x5, x6, f0]
    by_cases hj : (j : Int) < n
    · simp (maxSteps := 300000) (disch := omega) only [gs, gs2, gs3, gs4, ↓reduceIte, Nat.reduceEqDiff, Int.reduceToNat, Nat.reduceMul, Nat.reduceAdd, Nat.reduceBEq, isLd, x0, x2, x3, x4, x5, x6, hj, f0]
      refine spec_one_ok hD.src.all (by omega) (n := mn) (by omega) fun v G2 s2 => ?_
      have hD2 := hD.step s2
      obtain ⟨f0, f1⟩ := hD2.rd
      dsimp only at f0 f1
      have keep : GN H0 G2 b b2 b3 A L c (p + 48 * i + 4 * (j + 1)) ⟨n, es⟩ Ap cp := hD2.le (by omega)
      cases v
      · simp (maxSteps := 300000) (disch := omega) only [gs, gs2, gs3, gs4, ↓reduceIte, Nat.reduceEqDiff, Int.reduceToNat, Nat.reduceMul, Nat.reduceAdd, Nat.reduceBEq, isLd, x0, x2, x3, x4, x5, x6, f0, f1]
        by_cases hl2 : (es.length : Int) < 24
        · simp (maxSteps := 300000) (disch := omega) only [gs, gs2, gs3, gs4, ↓reduceIte, Nat.reduceEqDiff, Int.reduceToNat, Nat.reduceMul, Nat.reduceAdd, Nat.reduceBEq, isLd, hl2, x0, x2, x3, x4, x5, x6, f0, f1, gBs]
          refine ⟨by intro v hv; simp at hv; rcases hv with rfl | rfl | rfl | rfl | rfl <;> rfl, fun bx hbx => ?_⟩
          have hDx := hD2.box hbx ⟨[1, 1, 2, 3, 9].map I64, true⟩
          have hbb : bx ≠ b := hD2.src.ne hbx
          have hxl : IntS (del (put G2 bx ⟨[1, 1, 2, 3, 9].map I64, true⟩) b) (some ⟨bx, 0, none⟩) 5 [1, 1, 2, 3, 9] := blk_ints (xs := [1, 1, 2, 3, 9]) (by rw [del_ne _ hbb]; exact put_same _ _ _)
          refine ⟨hDx.rd.2, ?_⟩
          refine spec_among_ok (xs := [1, 1, 2, 3, 9]) hDx.src.all (by omega) hxl (by simp) (by simp) fun w G3 hw s3 => ?_
          have hw : 0 ≤ w ∧ w ≤ 100 := by simp at hw; omega
          have hD3 := hDx.step s3
          obtain ⟨f0, f1⟩ := hD3.rd
          dsimp only at f0 f1
          have hbl : bldV [.int .i64 0, .int .i64 0, .int .i64 0] [(0, 1, .int .i64 (i : Int)), (1, 1, .int .i64 (j : Int)), (2, 1, .int .i64 w)] = some [.int .i64 (i : Int), .int .i64 (j : Int), .int .i64 w] := rfl
          simp (maxSteps := 300000) (disch := omega) only [gs, gs2, gs3, gs4, ↓reduceIte, Nat.reduceEqDiff, Int.reduceToNat, Nat.reduceMul, Nat.reduceAdd, Nat.reduceBEq, isLd, x0, x2, x3, x4, x5, x6, f0, f1, hbl, gBs]
          refine ⟨by intro v hv; simp at hv; subst hv; rfl, fun by' hby => ?_⟩
          have hDy := hD3.box hby ⟨[.int .i64 (i : Int), .int .i64 (j : Int), .int .i64 w], true⟩
          refine ⟨hDy.rd.2, ?_⟩
          refine ap_own hDy.own (cells_one [.int .i64 (i : Int), .int .i64 (j : Int), .int .i64 w] true) (by rfl) (by intro v hv; simp at hv; rcases hv with rfl | rfl | rfl <;> rfl) rfl (by omega) (by omega) (by omega) fun G5 A5 c5 hO5 hG5 => ?_
          obtain ⟨t1, t2⟩ := hG5 _ (Sub.wo _ _) (Off.wo _ _)
          have hfl : flat3 es ++ [.int .i64 (i : Int), .int .i64 (j : Int), .int .i64 w] = flat3 (es ++ [((i : Int), (j : Int), w)]) := by simp [flat3, c3]
          obtain ⟨hD6, e5⟩ := hDy.grow (es' := es ++ [((i : Int), (j : Int), w)]) (hO5.cast hfl (by simp)) t1 t2
          simp (maxSteps := 300000) (disch := omega) only [gs, gs2, gs3, gs4, ↓reduceIte, Nat.reduceEqDiff, Int.reduceToNat, Nat.reduceMul, Nat.reduceAdd, Nat.reduceBEq, isLd, x0, x2, x3, x4, x5, x6]
          refine st_boxg e5 rfl (by simp [graC]) _ rfl ?_
          simp (maxSteps := 300000) (disch := omega) only [gs, gs2, gs3, gs4, ↓reduceIte, Nat.reduceEqDiff, Int.reduceToNat, Nat.reduceMul, Nat.reduceAdd, Nat.reduceBEq, isLd, x0, x2, x3, x4, x5, x6]
          exact ⟨m' - 1, by omega, _, Sub.refl _, j + 1, es ++ [((i : Int), (j : Int), w)], A5, c5, rfl, by omega, by omega, by omega, hA.snoc (by omega) ⟨by omega, by omega⟩ ⟨by omega, by omega⟩ hw, by simp; omega, by
            have := hD6.le (p' := p + 48 * i + 4 * (j + 1)) (by omega)
            simpa [graC] using this⟩
        · simp (maxSteps := 300000) (disch := omega) only [gs, gs2, gs3, gs4, ↓reduceIte, Nat.reduceEqDiff, Int.reduceToNat, Nat.reduceMul, Nat.reduceAdd, Nat.reduceBEq, isLd, hl2, x0, x2, x3, x4, x5, x6, f0, f1]
          exact ⟨m' - 1, by omega, _, Sub.refl _, j + 1, es, Ap, cp, rfl, by omega, by omega, by omega, hA, hl, keep⟩
      · simp (maxSteps := 300000) (disch := omega) only [gs, gs2, gs3, gs4, ↓reduceIte, Nat.reduceEqDiff, Int.reduceToNat, Nat.reduceMul, Nat.reduceAdd, Nat.reduceBEq, isLd, x0, x2, x3, x4, x5, x6, f0, f1]
        exact ⟨m' - 1, by omega, _, Sub.refl _, j + 1, es, Ap, cp, rfl, by omega, by omega, by omega, hA, hl, keep⟩
    · simp (maxSteps := 300000) (disch := omega) only [gs, gs2, gs3, gs4, ↓reduceIte, Nat.reduceEqDiff, Int.reduceToNat, Nat.reduceMul, Nat.reduceAdd, Nat.reduceBEq, isLd, x0, x2, x3, x4, x5, x6, hj, f0]
      obtain rfl : j = n.toNat := by omega
      exact ⟨m - 1, by omega, _, Sub.refl _, i + 1, es, Ap, cp, rfl, by omega, by omega, hA, hl, hD.le (by omega)⟩
  · simp (maxSteps := 300000) (disch := omega) only [gs, gs2, gs3, gs4, ↓reduceIte, Nat.reduceEqDiff, Int.reduceToNat, Nat.reduceMul, Nat.reduceAdd, Nat.reduceBEq, isLd, x0, x2, x3, x4, x5, hi, f0]
    obtain rfl : i = n.toNat := by omega
    exact hQ _ _ es Ap cp (by simp (maxSteps := 300000) (disch := omega) only [gs, gs2, gs3, gs4, ↓reduceIte, Nat.reduceEqDiff, Int.reduceToNat, Nat.reduceMul, Nat.reduceAdd, Nat.reduceBEq, isLd, x2]) (by simp (maxSteps := 300000) (disch := omega) only [gs, gs2, gs3, gs4, ↓reduceIte, Nat.reduceEqDiff, Int.reduceToNat, Nat.reduceMul, Nat.reduceAdd, Nat.reduceBEq, isLd, x3]) hA hl (hD.le (by omega))
theorem spec_l16DrawOk_ok {H0 G : GH} {b : Nat} {A : Option Addr} {L c p : Nat} (h : Src H0 G b A L c p) (hp : p ≤ 1000) {K : Value → GH → Prop}
    (hk : ∀ G' N Ap cp, GSm N → N.edges.length ≤ 24 → Own G' Ap cp (flat3 N.edges) 3 N.edges.length → Off H0 Ap → (∀ a, Ap = some a → a.block ≠ b) → Src H0 G' b A L c (p + 710) → K (graV N Ap cp) G') : GC Try.prog 219 [.pointer (some ⟨b, 0, none⟩)] G K := by
  refine c_spec_l16DrawOk_i (by simp) ?_
  simp (maxSteps := 300000) (disch := omega) only [gs, gs2, gs3, gs4, ↓reduceIte, Nat.reduceEqDiff, Int.reduceToNat, Nat.reduceMul, Nat.reduceAdd, Nat.reduceBEq, isLd]
  intro b2 hb2
  simp (maxSteps := 300000) (disch := omega) only [gs, gs2, gs3, gs4, ↓reduceIte, Nat.reduceEqDiff, Int.reduceToNat, Nat.reduceMul, Nat.reduceAdd, Nat.reduceBEq, isLd]
  have h2 := h.box hb2 ⟨z2, true⟩
  have d2 := h.ne hb2
  have nn2 := h.sub.none hb2
  have h2' := h2.low (Sub.put nn2 _) h.byt
  refine spec_pick_ok h2'.all (by omega) (n := 6) (by omega) fun v G1 v0 v1 _ s1 => ?_
  have v1 := v1 (by omega)
  have hs := s1.sub
  have e2 : G1 b2 = some ⟨z2, true⟩ := hs _ _ (by rw [del_ne _ d2]; exact put_same _ _ _)
  have sH : Sub H0 G1 := (h2'.sub.in_del h.nb).trans hs
  have s1' : Src H0 G1 b A L c (p + 2) := ⟨sH, h.nb, h.byt, s1.ex⟩
  simp (maxSteps := 300000) (disch := omega) only [gs, gs2, gs3, gs4, ↓reduceIte, Nat.reduceEqDiff, Int.reduceToNat, Nat.reduceMul, Nat.reduceAdd, Nat.reduceBEq, isLd]
  intro b3 hb3
  simp (maxSteps := 300000) (disch := omega) only [gs, gs2, gs3, gs4, ↓reduceIte, Nat.reduceEqDiff, Int.reduceToNat, Nat.reduceMul, Nat.reduceAdd, Nat.reduceBEq, isLd]
  refine st_fresh (vs := [.int .i64 (1 + v), .slice none 0 0]) rfl rfl rfl (by intro v hv; simp at hv; rcases hv with rfl | rfl <;> rfl) ?_
  have d3 := s1'.ne hb3
  have d23 : b2 ≠ b3 := blk_ne e2 hb3
  obtain ⟨n, hn⟩ : ∃ n, n = 1 + v := ⟨_, rfl⟩
  rw [← hn]
  have hD : GN H0 (put G1 b3 ⟨graC ⟨n, []⟩ none 0, true⟩) b b2 b3 A L c (p + 2) ⟨n, []⟩ none 0 := by
    obtain ⟨q, st, g1, g2⟩ := s1'.ex
    exact ⟨⟨sH.trans (Sub.put hb3 _), h.nb, h.byt, q, st, g1, by rw [put_ne _ _ d3.symm]; exact g2⟩, by rw [put_ne _ _ d23]; exact e2, put_same _ _ _, Own.nil _ _, nn2, sH.none hb3, Off.nil _, d2, d3, d23, fun a ha => by cases ha⟩
  have e4 : put G1 b3 ⟨[.int .i64 n, .slice none 0 0], true⟩ = put G1 b3 ⟨graC ⟨n, []⟩ none 0, true⟩ := rfl
  rw [e4]
  clear e4
  revert hD
  generalize put G1 b3 ⟨graC ⟨n, []⟩ none 0, true⟩ = G4
  intro hD
  have fin : ∀ (n : Int) (T : Nat → Value) (G5 : GH) (es : List T3) (Ap : Option Addr) (cp p' : Nat), p' ≤ p + 710 → GSm ⟨n, es⟩ → es.length ≤ 24 → GN H0 G5 b b2 b3 A L c p' ⟨n, es⟩ Ap cp → T 2 = .pointer (some ⟨b2, 0, none⟩) → T 3 = .pointer (some ⟨b3, 0, none⟩) →
      gW Try.prog (.seq (.reg c_spec_l16DrawOk_16) .ret) (RetK [RV.cn 2 2] K) T G5 := fun n T G5 es Ap cp p' hp' hA hl hD x2 x3 => by
    obtain ⟨f0, f1⟩ := hD.rd
    dsimp only at f0 f1
    simp (maxSteps := 300000) (disch := omega) only [gs, gs2, gs3, gs4, ↓reduceIte, Nat.reduceEqDiff, Int.reduceToNat, Nat.reduceMul, Nat.reduceAdd, Nat.reduceBEq, isLd, x2, x3, f0, f1]
    refine st_many (vs := graC ⟨n, es⟩ Ap cp) rfl hD.r2 rfl (by simp [z2, graC]) (by intro v hv; simp [graC] at hv; rcases hv with rfl | rfl <;> rfl) ?_
    rw [show over z2 0 (graC ⟨n, es⟩ Ap cp) = graC ⟨n, es⟩ Ap cp from rfl]
    have hlast : K (graV ⟨n, es⟩ Ap cp) (put G5 b2 ⟨graC ⟨n, es⟩ Ap cp, true⟩) := by
      obtain ⟨q, st, g1, g2⟩ := hD.src.ex
      refine hk _ _ _ _ hA hl ?_ hD.off (fun a ha => (hD.da a ha).1) ⟨hD.src.sub.skip hD.n2, hD.src.nb, hD.src.byt, q, st, by omega, by rw [put_ne _ _ hD.d2.symm]; exact g2⟩
      rcases hD.own with ho | ⟨x, r, rfl, hx, hr⟩
      · exact .inl ho
      · exact .inr ⟨x, r, rfl, by rw [put_ne _ _ (hD.da _ rfl).2.1]; exact hx, hr⟩
    have q0 : rd (put G5 b2 ⟨graC ⟨n, es⟩ Ap cp, true⟩) (some ⟨b2, 0, none⟩) = some (.int .i64 n) := rd_box _ _ _ 0 _ rfl
    have q1 : rd (put G5 b2 ⟨graC ⟨n, es⟩ Ap cp, true⟩) (some ⟨b2, 1, none⟩) = some (.slice Ap es.length cp) := rd_box _ _ _ 1 _ rfl
    simp (maxSteps := 300000) (disch := omega) only [gs, gs2, gs3, gs4, ↓reduceIte, Nat.reduceEqDiff, Int.reduceToNat, Nat.reduceMul, Nat.reduceAdd, Nat.reduceBEq, isLd, x2, x3, q0, q1]
    exact hlast
  simp (maxSteps := 300000) (disch := omega) only [gs, gs2, gs3, gs4, ↓reduceIte, Nat.reduceEqDiff, Int.reduceToNat, Nat.reduceMul, Nat.reduceAdd, Nat.reduceBEq, isLd, gBs]
  refine ⟨by intro v hv; simp at hv; rcases hv with rfl | rfl | rfl | rfl <;> rfl, fun bx hbx => ?_⟩
  have hDx := hD.box hbx ⟨[2, 2, 3, 9].map I64, true⟩
  have hbb : bx ≠ b := hD.src.ne hbx
  have hxl : IntS (del (put G4 bx ⟨[2, 2, 3, 9].map I64, true⟩) b) (some ⟨bx, 0, none⟩) 4 [2, 2, 3, 9] := blk_ints (xs := [2, 2, 3, 9]) (by rw [del_ne _ hbb]; exact put_same _ _ _)
  refine spec_among_ok (xs := [2, 2, 3, 9]) hDx.src.all (by omega) hxl (by simp) (by simp) fun mn G5 hmn s5 => ?_
  have hmn : 1 ≤ mn ∧ mn ≤ 9 := by simp at hmn; omega
  have hD := hDx.step s5
  simp (maxSteps := 300000) (disch := omega) only [gs, gs2, gs3, gs4, ↓reduceIte, Nat.reduceEqDiff, Int.reduceToNat, Nat.reduceMul, Nat.reduceAdd, Nat.reduceBEq, isLd]
  refine spec_one_ok hD.src.all (by omega) (n := 14) (by omega) fun w G7 s7 => ?_
  have hD := hD.step s7
  cases w
  · simp (maxSteps := 300000) (disch := omega) only [gs, gs2, gs3, gs4, ↓reduceIte, Nat.reduceEqDiff, Int.reduceToNat, Nat.reduceMul, Nat.reduceAdd, Nat.reduceBEq, isLd]
    refine drawg_l1 (p := p + 2 + 2 + 2) hmn (by omega) (by omega) hD (by simp (maxSteps := 300000) (disch := omega) only [gs, gs2, gs3, gs4, ↓reduceIte, Nat.reduceEqDiff, Int.reduceToNat, Nat.reduceMul, Nat.reduceAdd, Nat.reduceBEq, isLd]) (by simp (maxSteps := 300000) (disch := omega) only [gs, gs2, gs3, gs4, ↓reduceIte, Nat.reduceEqDiff, Int.reduceToNat, Nat.reduceMul, Nat.reduceAdd, Nat.reduceBEq, isLd]) (by simp (maxSteps := 300000) (disch := omega) only [gs, gs2, gs3, gs4, ↓reduceIte, Nat.reduceEqDiff, Int.reduceToNat, Nat.reduceMul, Nat.reduceAdd, Nat.reduceBEq, isLd]) (by simp (maxSteps := 300000) (disch := omega) only [gs, gs2, gs3, gs4, ↓reduceIte, Nat.reduceEqDiff, Int.reduceToNat, Nat.reduceMul, Nat.reduceAdd, Nat.reduceBEq, isLd]) (by simp (maxSteps := 300000) (disch := omega) only [gs, gs2, gs3, gs4, ↓reduceIte, Nat.reduceEqDiff, Int.reduceToNat, Nat.reduceMul, Nat.reduceAdd, Nat.reduceBEq, isLd]) fun T G5 es Ap cp x2 x3 hA hl hD => ?_
    exact fin _ _ _ _ _ _ _ (by omega) hA hl hD x2 x3
  · simp (maxSteps := 300000) (disch := omega) only [gs, gs2, gs3, gs4, ↓reduceIte, Nat.reduceEqDiff, Int.reduceToNat, Nat.reduceMul, Nat.reduceAdd, Nat.reduceBEq, isLd]
    refine st_boxg hD.r3 rfl (by simp [graC]) (graC ⟨12, []⟩ none 0) rfl ?_
    have hD := hD.set 12
    simp (maxSteps := 300000) (disch := omega) only [gs, gs2, gs3, gs4, ↓reduceIte, Nat.reduceEqDiff, Int.reduceToNat, Nat.reduceMul, Nat.reduceAdd, Nat.reduceBEq, isLd]
    refine drawg_l1 (p := p + 2 + 2 + 2) (mn := 4) (by omega) (by omega) (by omega) hD (by simp (maxSteps := 300000) (disch := omega) only [gs, gs2, gs3, gs4, ↓reduceIte, Nat.reduceEqDiff, Int.reduceToNat, Nat.reduceMul, Nat.reduceAdd, Nat.reduceBEq, isLd]) (by simp (maxSteps := 300000) (disch := omega) only [gs, gs2, gs3, gs4, ↓reduceIte, Nat.reduceEqDiff, Int.reduceToNat, Nat.reduceMul, Nat.reduceAdd, Nat.reduceBEq, isLd]) (by simp (maxSteps := 300000) (disch := omega) only [gs, gs2, gs3, gs4, ↓reduceIte, Nat.reduceEqDiff, Int.reduceToNat, Nat.reduceMul, Nat.reduceAdd, Nat.reduceBEq, isLd]) (by simp (maxSteps := 300000) (disch := omega) only [gs, gs2, gs3, gs4, ↓reduceIte, Nat.reduceEqDiff, Int.reduceToNat, Nat.reduceMul, Nat.reduceAdd, Nat.reduceBEq, isLd]) (by simp (maxSteps := 300000) (disch := omega) only [gs, gs2, gs3, gs4, ↓reduceIte, Nat.reduceEqDiff, Int.reduceToNat, Nat.reduceMul, Nat.reduceAdd, Nat.reduceBEq, isLd]) fun T G5 es Ap cp x2 x3 hA hl hD => ?_
    exact fin _ _ _ _ _ _ _ (by omega) hA hl hD x2 x3
theorem GSm.bend {n : Int} {es : List T3} (h : GSm ⟨n, es⟩) {w : Int} (hw : 0 ≤ w ∧ w ≤ 100) (h0 : 0 < es.length) : GSm ⟨n, es.set 0 ((es.getD 0 z3).1, (es.getD 0 z3).2.1, w)⟩ := by
  refine ⟨h.n, by simpa using h.len, fun e he => ?_⟩
  rcases List.mem_or_eq_of_mem_set he with h' | h'
  · exact h.el e h'
  · subst h'
    have := h.el (es.getD 0 z3) (by
      have : es.getD 0 z3 = es[0] := by simp [List.getD, h0]
      rw [this]; exact List.getElem_mem h0)
    exact ⟨this.1, this.2.1, hw⟩
theorem GN.clear {H0 G : GH} {b b2 b3 : Nat} {A : Option Addr} {L c p : Nat} {N : Gra} {Ap : Option Addr} {cp : Nat} {n : Int} (h : GN H0 G b b2 b3 A L c p N Ap cp) : GN H0 (put G b3 ⟨graC ⟨n, []⟩ none 0, true⟩) b b2 b3 A L c p ⟨n, []⟩ none 0 := by
  obtain ⟨q, st, h1, h2⟩ := h.src.ex
  exact ⟨⟨h.src.sub.skip h.n3, h.src.nb, h.src.byt, q, st, h1, by rw [put_ne _ _ h.d3.symm]; exact h2⟩, by rw [put_ne _ _ h.d23]; exact h.r2, put_same _ _ _, Own.nil _ _, h.n2, h.n3, Off.nil _, h.d2, h.d3, h.d23, fun a ha => by cases ha⟩
/-- a weight is written. -/
theorem GN.bend {H0 G : GH} {b b2 b3 : Nat} {A : Option Addr} {L c p : Nat} {n : Int} {es : List T3} {Ap : Option Addr} {cp : Nat} (h : GN H0 G b b2 b3 A L c p ⟨n, es⟩ Ap cp) (h0 : 0 < es.length) (w : Int) {K : Value → GH → Prop}
    (hk : ∀ G', GN H0 G' b b2 b3 A L c p ⟨n, es.set 0 ((es.getD 0 z3).1, (es.getD 0 z3).2.1, w)⟩ Ap cp → K undef G') : gSt 1 (.pointer (pa Ap 2)) (.int .i64 w) G K := by
  have hO := h.own
  dsimp only at hO
  rcases hO with ⟨_, _, hz, _⟩ | ⟨x, r, rfl, hx, hl, hc, hle⟩
  · have hz : es.length = 0 := hz
    omega
  obtain ⟨d1, d2, d3⟩ := h.da _ rfl
  dsimp only at d1 d2 d3
  rw [pa_mk, Nat.zero_add]
  refine st_one hx (by rw [List.length_append, flat3_len]; omega) rfl (hk _ ?_)
  have e := flat3_set2 w r es 0 h0
  rw [Nat.zero_mul, Nat.zero_add] at e
  rw [e]
  obtain ⟨q, st, g1, g2⟩ := h.src.ex
  have nx : H0 x = none := h.off _ rfl
  refine ⟨⟨h.src.sub.skip nx, h.src.nb, h.src.byt, q, st, g1, by rw [put_ne _ _ d1.symm]; exact g2⟩, by rw [put_ne _ _ d2.symm]; exact h.r2, ?_, .inr ⟨x, r, rfl, put_same _ _ _, ?_, ?_, ?_⟩, h.n2, h.n3, h.off, h.d2, h.d3, h.d23, h.da⟩
  · rw [put_ne _ _ d3.symm, h.r3]; simp [graC]
  · rw [flat3_len]
  · rw [List.length_append] at hc ⊢; rw [flat3_len] at hc ⊢; simpa using hc
  · simpa using hle
/-- a graph is laid into the result. -/
theorem st_grab {G : GH} {b : Nat} {n : Int} {es : List T3} {A : Option Addr} {c : Nat} {K : Value → GH → Prop} (h : G b = some ⟨z2, true⟩)
    (hk : rd (put G b ⟨graC ⟨n, es⟩ A c, true⟩) (some ⟨b, 0, none⟩) = some (.int .i64 n) → rd (put G b ⟨graC ⟨n, es⟩ A c, true⟩) (some ⟨b, 1, none⟩) = some (.slice A es.length c) → K undef (put G b ⟨graC ⟨n, es⟩ A c, true⟩)) :
    gSt 2 (.pointer (some ⟨b, 0, none⟩)) (.agg [.int .i64 n, .slice A es.length c].toArray) G K := by
  refine st_many (vs := graC ⟨n, es⟩ A c) rfl h rfl (by simp [z2, graC]) (by intro v hv; simp [graC] at hv; rcases hv with rfl | rfl <;> rfl) ?_
  rw [show over z2 0 (graC ⟨n, es⟩ A c) = graC ⟨n, es⟩ A c from rfl]
  exact hk (rd_box _ _ _ 0 _ rfl) (rd_box _ _ _ 1 _ rfl)
theorem spec_l16Draw_ok {H0 G : GH} {b : Nat} {A : Option Addr} {L c p : Nat} (h : Src H0 G b A L c p) (hp : p ≤ 500) {K : Value → GH → Prop}
    (hk : ∀ G' N Ap cp, GSm N → Own G' Ap cp (flat3 N.edges) 3 N.edges.length → Off H0 Ap → (∀ a, Ap = some a → a.block ≠ b) → Src H0 G' b A L c (p + 800) → K (graV N Ap cp) G') : GC Try.prog 146 [.pointer (some ⟨b, 0, none⟩)] G K := by
  refine c_spec_l16Draw_i (by simp) ?_
  simp (maxSteps := 300000) (disch := omega) only [gs, gs2, gs3, gs4, ↓reduceIte, Nat.reduceEqDiff, Int.reduceToNat, Nat.reduceMul, Nat.reduceAdd, Nat.reduceBEq, isLd]
  intro b2 hb2
  simp (maxSteps := 300000) (disch := omega) only [gs, gs2, gs3, gs4, ↓reduceIte, Nat.reduceEqDiff, Int.reduceToNat, Nat.reduceMul, Nat.reduceAdd, Nat.reduceBEq, isLd]
  have h2 := h.box hb2 ⟨z2, true⟩
  have d2 := h.ne hb2
  have nn2 := h.sub.none hb2
  have s2 : Sub H0 (put H0 b2 ⟨z2, true⟩) := Sub.put nn2 _
  refine spec_l16DrawOk_ok h2 (by omega) fun G1 N Ap cp hA hl hO hOff hab s1 => ?_
  have e2 : G1 b2 = some ⟨z2, true⟩ := s1.sub _ _ (put_same _ _ _)
  obtain ⟨n, es⟩ := N
  dsimp only at hl hO
  unfold graV
  simp (maxSteps := 300000) (disch := omega) only [gs, gs2, gs3, gs4, ↓reduceIte, Nat.reduceEqDiff, Int.reduceToNat, Nat.reduceMul, Nat.reduceAdd, Nat.reduceBEq, isLd]
  intro b3 hb3
  simp (maxSteps := 300000) (disch := omega) only [gs, gs2, gs3, gs4, ↓reduceIte, Nat.reduceEqDiff, Int.reduceToNat, Nat.reduceMul, Nat.reduceAdd, Nat.reduceBEq, isLd]
  refine st_fresh (vs := graC ⟨n, es⟩ Ap cp) rfl rfl rfl (by intro v hv; simp [graC] at hv; rcases hv with rfl | rfl <;> rfl) ?_
  have d3 := s1.ne hb3
  have d23 : b2 ≠ b3 := blk_ne e2 hb3
  have sH := s2.trans s1.sub
  have hD : GN H0 (put G1 b3 ⟨graC ⟨n, es⟩ Ap cp, true⟩) b b2 b3 A L c (p + 710) ⟨n, es⟩ Ap cp := by
    obtain ⟨q, st, g1, g2⟩ := s1.ex
    refine ⟨⟨sH.trans (Sub.put hb3 _), h.nb, h.byt, q, st, g1, by rw [put_ne _ _ d3.symm]; exact g2⟩, by rw [put_ne _ _ d23]; exact e2, put_same _ _ _, hO.sub (Sub.put hb3 _), nn2, sH.none hb3, hOff.mono s2, d2, d3, d23, fun a ha => ⟨hab a ha, fun e => ?_, fun e => ?_⟩⟩
    · have := hOff a ha; rw [e, put_same] at this; cases this
    · rcases hO with ⟨ha', _⟩ | ⟨x, r, ha', hx, _⟩
      · rw [ha'] at ha; cases ha
      · rw [ha'] at ha; cases ha
        dsimp only at e
        rw [e, hb3] at hx; cases hx
  revert hD
  generalize put G1 b3 ⟨graC ⟨n, es⟩ Ap cp, true⟩ = G4
  intro hD
  clear hO hOff hab s1 e2 hb3 sH
  have last : ∀ (n : Int) (es : List T3) (Ap : Option Addr) (cp p' : Nat) (G5 : GH), p' ≤ p + 800 → GSm ⟨n, es⟩ → GN H0 G5 b b2 b3 A L c p' ⟨n, es⟩ Ap cp → K (graV ⟨n, es⟩ Ap cp) (put G5 b2 ⟨graC ⟨n, es⟩ Ap cp, true⟩) := fun n es Ap cp p' G5 hp' hA hD => by
    obtain ⟨q, st, g1, g2⟩ := hD.src.ex
    refine hk _ _ _ _ hA ?_ hD.off (fun a ha => (hD.da a ha).1) ⟨hD.src.sub.skip hD.n2, hD.src.nb, hD.src.byt, q, st, by omega, by rw [put_ne _ _ hD.d2.symm]; exact g2⟩
    rcases hD.own with ho | ⟨x, r, rfl, hx, hr⟩
    · exact .inl ho
    · exact .inr ⟨x, r, rfl, by rw [put_ne _ _ (hD.da _ rfl).2.1]; exact hx, hr⟩
  simp (maxSteps := 300000) (disch := omega) only [gs, gs2, gs3, gs4, ↓reduceIte, Nat.reduceEqDiff, Int.reduceToNat, Nat.reduceMul, Nat.reduceAdd, Nat.reduceBEq, isLd]
  refine spec_pick_ok hD.src.all (by omega) (n := 20) (by omega) fun v G5 v0 v1 _ s5 => ?_
  have v1 := v1 (by omega)
  have hD := hD.step s5
  simp (maxSteps := 300000) (disch := omega) only [gs, gs2, gs3, gs4, ↓reduceIte, Nat.reduceEqDiff, Int.reduceToNat, Nat.reduceMul, Nat.reduceAdd, Nat.reduceBEq, isLd]
  by_cases c0 : v = 0
  · simp (maxSteps := 300000) (disch := omega) only [gs, gs2, gs3, gs4, ↓reduceIte, Nat.reduceEqDiff, Int.reduceToNat, Nat.reduceMul, Nat.reduceAdd, Nat.reduceBEq, isLd, eq_true c0, gBs]
    refine ⟨by intro v hv; simp at hv; rcases hv with rfl | rfl | rfl <;> rfl, fun bx hbx => ?_⟩
    have hDx := hD.box hbx ⟨[0, 12, 13].map I64, true⟩
    have hbb : bx ≠ b := hD.src.ne hbx
    have hxl : IntS (del (put G5 bx ⟨[0, 12, 13].map I64, true⟩) b) (some ⟨bx, 0, none⟩) 3 [0, 12, 13] := blk_ints (xs := [0, 12, 13]) (by rw [del_ne _ hbb]; exact put_same _ _ _)
    refine spec_among_ok (xs := [0, 12, 13]) hDx.src.all (by omega) hxl (by simp) (by simp) fun w G6 hw s6 => ?_
    have hw : 0 ≤ w ∧ w ≤ 20 := by simp at hw; omega
    have hD := hDx.step s6
    simp (maxSteps := 300000) (disch := omega) only [gs, gs2, gs3, gs4, ↓reduceIte, Nat.reduceEqDiff, Int.reduceToNat, Nat.reduceMul, Nat.reduceAdd, Nat.reduceBEq, isLd]
    refine st_boxg hD.r3 rfl (by simp [graC]) (graC ⟨w, es⟩ Ap cp) rfl ?_
    have hD := hD.set w
    obtain ⟨f0, f1⟩ := hD.rd
    dsimp only at f0 f1
    simp (maxSteps := 300000) (disch := omega) only [gs, gs2, gs3, gs4, ↓reduceIte, Nat.reduceEqDiff, Int.reduceToNat, Nat.reduceMul, Nat.reduceAdd, Nat.reduceBEq, isLd, f0, f1]
    refine st_grab (n := w) (es := es) (A := Ap) (c := cp) hD.r2 fun q0 q1 => ?_
    simp (maxSteps := 300000) (disch := omega) only [gs, gs2, gs3, gs4, ↓reduceIte, Nat.reduceEqDiff, Int.reduceToNat, Nat.reduceMul, Nat.reduceAdd, Nat.reduceBEq, isLd, q0, q1]
    exact last _ _ _ _ _ _ (by omega) ⟨hw, hA.len, hA.el⟩ hD
  simp (maxSteps := 300000) (disch := omega) only [gs, gs2, gs3, gs4, ↓reduceIte, Nat.reduceEqDiff, Int.reduceToNat, Nat.reduceMul, Nat.reduceAdd, Nat.reduceBEq, isLd, eq_false c0]
  by_cases c1 : v = 1
  · obtain ⟨f0, f1⟩ := hD.rd
    dsimp only at f0 f1
    simp (maxSteps := 300000) (disch := omega) only [gs, gs2, gs3, gs4, ↓reduceIte, Nat.reduceEqDiff, Int.reduceToNat, Nat.reduceMul, Nat.reduceAdd, Nat.reduceBEq, isLd, eq_true c1, f0, f1]
    refine spec_pick_ok hD.src.all (by omega) (n := 3) (by omega) fun a G6 a0 a1 _ s6 => ?_
    have a1 := a1 (by omega)
    have hD := hD.step s6
    obtain ⟨f0, f1⟩ := hD.rd
    dsimp only at f0 f1
    simp (maxSteps := 300000) (disch := omega) only [gs, gs2, gs3, gs4, ↓reduceIte, Nat.reduceEqDiff, Int.reduceToNat, Nat.reduceMul, Nat.reduceAdd, Nat.reduceBEq, isLd, f0, f1]
    refine spec_pick_ok hD.src.all (by omega) (n := 4) (by omega) fun d G7 d0 d1 _ s7 => ?_
    have d1 := d1 (by omega)
    have hD := hD.step s7
    obtain ⟨f0, f1⟩ := hD.rd
    dsimp only at f0 f1
    have hbl : bldV [.int .i64 0, .int .i64 0, .int .i64 0] [(0, 1, .int .i64 (a)), (1, 1, .int .i64 (d)), (2, 1, .int .i64 1)] = some [.int .i64 (a), .int .i64 (d), .int .i64 1] := rfl
    simp (maxSteps := 300000) (disch := omega) only [gs, gs2, gs3, gs4, ↓reduceIte, Nat.reduceEqDiff, Int.reduceToNat, Nat.reduceMul, Nat.reduceAdd, Nat.reduceBEq, isLd, f0, f1, hbl, gBs]
    refine ⟨by intro v hv; simp at hv; subst hv; rfl, fun by' hby => ?_⟩
    have hDy := hD.box hby ⟨[.int .i64 (a), .int .i64 (d), .int .i64 1], true⟩
    refine ⟨hDy.rd.2, ?_⟩
    refine ap_own hDy.own (cells_one [.int .i64 (a), .int .i64 (d), .int .i64 1] true) (by rfl) (by intro v hv; simp at hv; rcases hv with rfl | rfl | rfl <;> rfl) rfl (by omega) (by omega) (by omega) fun G9 A9 c9 hO9 hG9 => ?_
    obtain ⟨t1, t2⟩ := hG9 _ (Sub.wo _ _) (Off.wo _ _)
    have hfl : flat3 es ++ [.int .i64 (a), .int .i64 (d), .int .i64 1] = flat3 (es ++ [((a), (d), 1)]) := by simp [flat3, c3]
    obtain ⟨hD, e9⟩ := hDy.grow (es' := es ++ [((a), (d), 1)]) (hO9.cast hfl (by simp)) t1 t2
    simp (maxSteps := 300000) (disch := omega) only [gs, gs2, gs3, gs4, ↓reduceIte, Nat.reduceEqDiff, Int.reduceToNat, Nat.reduceMul, Nat.reduceAdd, Nat.reduceBEq, isLd]
    refine st_boxg e9 rfl (by simp [graC]) (graC ⟨n, es ++ [((a), (d), 1)]⟩ A9 c9) (by simp [graC]) ?_
    obtain ⟨f0, f1⟩ := hD.rd
    dsimp only at f0 f1
    simp (maxSteps := 300000) (disch := omega) only [gs, gs2, gs3, gs4, ↓reduceIte, Nat.reduceEqDiff, Int.reduceToNat, Nat.reduceMul, Nat.reduceAdd, Nat.reduceBEq, isLd, f0, f1]
    refine st_grab (n := n) (es := es ++ [(a, d, 1)]) (A := A9) (c := c9) hD.r2 fun q0 q1 => ?_
    simp (maxSteps := 300000) (disch := omega) only [gs, gs2, gs3, gs4, ↓reduceIte, Nat.reduceEqDiff, Int.reduceToNat, Nat.reduceMul, Nat.reduceAdd, Nat.reduceBEq, isLd, q0, q1]
    exact last _ _ _ _ _ _ (by omega) (hA.snoc (by omega) ⟨a0, by omega⟩ ⟨d0, by omega⟩ (by omega)) hD
  simp (maxSteps := 300000) (disch := omega) only [gs, gs2, gs3, gs4, ↓reduceIte, Nat.reduceEqDiff, Int.reduceToNat, Nat.reduceMul, Nat.reduceAdd, Nat.reduceBEq, isLd, eq_false c1]
  by_cases c2 : v = 2
  · obtain ⟨f0, f1⟩ := hD.rd
    dsimp only at f0 f1
    simp (maxSteps := 300000) (disch := omega) only [gs, gs2, gs3, gs4, ↓reduceIte, Nat.reduceEqDiff, Int.reduceToNat, Nat.reduceMul, Nat.reduceAdd, Nat.reduceBEq, isLd, eq_true c2, f0, f1]
    by_cases h0 : (0 : Int) < es.length
    · simp (maxSteps := 300000) (disch := omega) only [gs, gs2, gs3, gs4, ↓reduceIte, Nat.reduceEqDiff, Int.reduceToNat, Nat.reduceMul, Nat.reduceAdd, Nat.reduceBEq, isLd, h0, f0, f1, gBs]
      refine ⟨by intro v hv; simp at hv; rcases hv with rfl | rfl | rfl <;> rfl, fun bx hbx => ?_⟩
      have hDx := hD.box hbx ⟨[0, 9, 10].map I64, true⟩
      have hbb : bx ≠ b := hD.src.ne hbx
      have hxl : IntS (del (put G5 bx ⟨[0, 9, 10].map I64, true⟩) b) (some ⟨bx, 0, none⟩) 3 [0, 9, 10] := blk_ints (xs := [0, 9, 10]) (by rw [del_ne _ hbb]; exact put_same _ _ _)
      refine ⟨hDx.rd.2, ?_⟩
      refine spec_among_ok (xs := [0, 9, 10]) hDx.src.all (by omega) hxl (by simp) (by simp) fun w G6 hw s6 => ?_
      have hw : 0 ≤ w ∧ w ≤ 100 := by simp at hw; omega
      have hD := hDx.step s6
      obtain ⟨f0, f1⟩ := hD.rd
      dsimp only at f0 f1
      have hsA : 0 < sn Ap := hD.own.t3.sn (by dsimp only; omega)
      simp (maxSteps := 300000) (disch := omega) only [gs, gs2, gs3, gs4, ↓reduceIte, Nat.reduceEqDiff, Int.reduceToNat, Nat.reduceMul, Nat.reduceAdd, Nat.reduceBEq, isLd, f0, f1]
      refine hD.bend (by omega) w fun G7 hD => ?_
      obtain ⟨f0, f1⟩ := hD.rd
      dsimp only at f0 f1
      simp (maxSteps := 300000) (disch := omega) only [gs, gs2, gs3, gs4, ↓reduceIte, Nat.reduceEqDiff, Int.reduceToNat, Nat.reduceMul, Nat.reduceAdd, Nat.reduceBEq, isLd, f0, f1]
      refine st_grab (n := n) (es := es.set 0 ((es.getD 0 z3).1, (es.getD 0 z3).2.1, w)) (A := Ap) (c := cp) hD.r2 fun q0 q1 => ?_
      simp (maxSteps := 300000) (disch := omega) only [gs, gs2, gs3, gs4, ↓reduceIte, Nat.reduceEqDiff, Int.reduceToNat, Nat.reduceMul, Nat.reduceAdd, Nat.reduceBEq, isLd, q0, q1]
      exact last _ _ _ _ _ _ (by omega) (hA.bend hw (by omega)) hD
    · simp (maxSteps := 300000) (disch := omega) only [gs, gs2, gs3, gs4, ↓reduceIte, Nat.reduceEqDiff, Int.reduceToNat, Nat.reduceMul, Nat.reduceAdd, Nat.reduceBEq, isLd, h0, f0, f1]
      refine st_grab (n := n) (es := es) (A := Ap) (c := cp) hD.r2 fun q0 q1 => ?_
      simp (maxSteps := 300000) (disch := omega) only [gs, gs2, gs3, gs4, ↓reduceIte, Nat.reduceEqDiff, Int.reduceToNat, Nat.reduceMul, Nat.reduceAdd, Nat.reduceBEq, isLd, q0, q1]
      exact last _ _ _ _ _ _ (by omega) hA hD
  simp (maxSteps := 300000) (disch := omega) only [gs, gs2, gs3, gs4, ↓reduceIte, Nat.reduceEqDiff, Int.reduceToNat, Nat.reduceMul, Nat.reduceAdd, Nat.reduceBEq, isLd, eq_false c2]
  by_cases v3 : v = 3
  · simp (maxSteps := 300000) (disch := omega) only [gs, gs2, gs3, gs4, ↓reduceIte, Nat.reduceEqDiff, Int.reduceToNat, Nat.reduceMul, Nat.reduceAdd, Nat.reduceBEq, isLd, eq_true v3, gBs]
    refine ⟨by intro v hv; simp at hv; rcases hv with rfl | rfl <;> rfl, fun bx hbx => ?_⟩
    have hDx := hD.box hbx ⟨[24, 25].map I64, true⟩
    have hbb : bx ≠ b := hD.src.ne hbx
    have hxl : IntS (del (put G5 bx ⟨[24, 25].map I64, true⟩) b) (some ⟨bx, 0, none⟩) 2 [24, 25] := blk_ints (xs := [24, 25]) (by rw [del_ne _ hbb]; exact put_same _ _ _)
    refine spec_among_ok (xs := [24, 25]) hDx.src.all (by omega) hxl (by simp) (by simp) fun w G6 hw s6 => ?_
    have hw : 24 ≤ w ∧ w ≤ 25 := by simp at hw; omega
    have hD := hDx.step s6
    simp (maxSteps := 300000) (disch := omega) only [gs, gs2, gs3, gs4, ↓reduceIte, Nat.reduceEqDiff, Int.reduceToNat, Nat.reduceMul, Nat.reduceAdd, Nat.reduceBEq, isLd]
    have hbl : bldV [.int .i64 0, .slice none 0 0] [(0, 1, .int .i64 12)] = some [.int .i64 12, .slice none 0 0] := rfl
    simp (maxSteps := 300000) (disch := omega) only [gs, gs2, gs3, gs4, ↓reduceIte, Nat.reduceEqDiff, Int.reduceToNat, Nat.reduceMul, Nat.reduceAdd, Nat.reduceBEq, isLd, hbl]
    refine st_many (vs := graC ⟨12, []⟩ none 0) rfl hD.r3 rfl (by simp [graC]) (by intro v hv; simp [graC] at hv; rcases hv with rfl | rfl <;> rfl) ?_
    rw [show over (graC ⟨n, es⟩ Ap cp) 0 (graC ⟨12, []⟩ none 0) = graC ⟨12, []⟩ none 0 from rfl]
    have hD := hD.clear (n := 12)
    simp (maxSteps := 300000) (disch := omega) only [gs, gs2, gs3, gs4, ↓reduceIte, Nat.reduceEqDiff, Int.reduceToNat, Nat.reduceMul, Nat.reduceAdd, Nat.reduceBEq, isLd]
    refine gLoop_intro (fun m T G' => ∃ (k : Nat) (es : List T3) (Ap : Option Addr) (cp : Nat), T 2 = .pointer (some ⟨b2, 0, none⟩) ∧ T 3 = .pointer (some ⟨b3, 0, none⟩) ∧ T 4 = .int .i64 w ∧ T 5 = .int .i64 k ∧ m + k = w.toNat ∧ k ≤ w.toNat ∧ es.length = k ∧ GSm ⟨12, es⟩ ∧ GN H0 G' b b2 b3 A L c (p + 710 + 2 + 2) ⟨12, es⟩ Ap cp)
      w.toNat ⟨0, [], none, 0, by simp (maxSteps := 300000) (disch := omega) only [gs, gs2, gs3, gs4, ↓reduceIte, Nat.reduceEqDiff, Int.reduceToNat, Nat.reduceMul, Nat.reduceAdd, Nat.reduceBEq, isLd], by simp (maxSteps := 300000) (disch := omega) only [gs, gs2, gs3, gs4, ↓reduceIte, Nat.reduceEqDiff, Int.reduceToNat, Nat.reduceMul, Nat.reduceAdd, Nat.reduceBEq, isLd], by simp (maxSteps := 300000) (disch := omega) only [gs, gs2, gs3, gs4, ↓reduceIte, Nat.reduceEqDiff, Int.reduceToNat, Nat.reduceMul, Nat.reduceAdd, Nat.reduceBEq, isLd], by simp (maxSteps := 300000) (disch := omega) only [gs, gs2, gs3, gs4, ↓reduceIte, Nat.reduceEqDiff, Int.reduceToNat, Nat.reduceMul, Nat.reduceAdd, Nat.reduceBEq, isLd] <;> rfl, by omega, by omega, rfl, ⟨by dsimp only; omega, by simp, fun e he => by simp at he⟩, hD⟩ ?_
    clear hD hDx hxl hA hl
    rintro m T G' ⟨k, es, Ap, cp, x2, x3, x4, x5, hm, hkm, hlk, hA, hD⟩
    obtain ⟨f0, f1⟩ := hD.rd
    dsimp only at f0 f1
    have hqu : binV .quo (.int .i64 (k : Int)) (.int .i64 8) = some (.int .i64 ((k : Int) / 8)) := by
      rw [bin_quo _ _ _ (by omega), Int.tdiv_eq_ediv_of_nonneg (by omega), w64 _ (by omega) (by omega)]
    have hre : binV .rem (.int .i64 (k : Int)) (.int .i64 8) = some (.int .i64 ((k : Int) % 8)) := by
      rw [bin_rem _ _ _ (by omega), Int.tmod_eq_emod_of_nonneg (by omega)]
    simp (maxSteps := 300000) (disch := omega) only [gs, gs2, gs3, gs4, ↓reduceIte, Nat.reduceEqDiff, Int.reduceToNat, Nat.reduceMul, Nat.reduceAdd, Nat.reduceBEq, isLd, x2, x3, x4, x5]
    by_cases hk : (k : Int) < w
    · obtain ⟨qa, hqa⟩ : ∃ qa, qa = (k : Int) / 8 := ⟨_, rfl⟩
      obtain ⟨qb, hqb⟩ : ∃ qb, qb = 3 + (k : Int) % 8 := ⟨_, rfl⟩
      have hbb : (0 ≤ qa ∧ qa ≤ 100) ∧ 0 ≤ qb ∧ qb ≤ 100 := by omega
      have hm8 : 0 ≤ (k : Int) % 8 ∧ (k : Int) % 8 < 8 := by omega
      rw [← hqa] at hqu
      have hbl0 : bldV [.int .i64 0, .int .i64 0, .int .i64 0] [(0, 1, .int .i64 qa), (1, 1, .int .i64 (3 + (k : Int) % 8)), (2, 1, .int .i64 1)] = some [.int .i64 qa, .int .i64 qb, .int .i64 1] := by rw [hqb]; rfl
      have hbl : bldV [.int .i64 0, .int .i64 0, .int .i64 0] [(0, 1, .int .i64 (qa)), (1, 1, .int .i64 (qb)), (2, 1, .int .i64 1)] = some [.int .i64 (qa), .int .i64 (qb), .int .i64 1] := rfl
      simp (maxSteps := 300000) (disch := omega) only [gs, gs2, gs3, gs4, ↓reduceIte, Nat.reduceEqDiff, Int.reduceToNat, Nat.reduceMul, Nat.reduceAdd, Nat.reduceBEq, isLd, x2, x3, x4, x5, hk, hqu, hre, hbl0, f0, f1, hbl, gBs]
      refine ⟨by intro v hv; simp at hv; subst hv; rfl, fun by' hby => ?_⟩
      have hDy := hD.box hby ⟨[.int .i64 (qa), .int .i64 (qb), .int .i64 1], true⟩
      refine ap_own hDy.own (cells_one [.int .i64 (qa), .int .i64 (qb), .int .i64 1] true) (by rfl) (by intro v hv; simp at hv; rcases hv with rfl | rfl | rfl <;> rfl) rfl (by omega) (by omega) (by omega) fun G9 A9 c9 hO9 hG9 => ?_
      obtain ⟨t1, t2⟩ := hG9 _ (Sub.wo _ _) (Off.wo _ _)
      have hfl : flat3 es ++ [.int .i64 (qa), .int .i64 (qb), .int .i64 1] = flat3 (es ++ [((qa), (qb), 1)]) := by simp [flat3, c3]
      obtain ⟨hD, e9⟩ := hDy.grow (es' := es ++ [((qa), (qb), 1)]) (hO9.cast hfl (by simp)) t1 t2
      simp (maxSteps := 300000) (disch := omega) only [gs, gs2, gs3, gs4, ↓reduceIte, Nat.reduceEqDiff, Int.reduceToNat, Nat.reduceMul, Nat.reduceAdd, Nat.reduceBEq, isLd, x2, x3, x4, x5, hk, hqu, hre, hbl0]
      refine st_boxg e9 rfl (by simp [graC]) (graC ⟨12, es ++ [((qa), (qb), 1)]⟩ A9 c9) (by simp [graC]) ?_
      simp (maxSteps := 300000) (disch := omega) only [gs, gs2, gs3, gs4, ↓reduceIte, Nat.reduceEqDiff, Int.reduceToNat, Nat.reduceMul, Nat.reduceAdd, Nat.reduceBEq, isLd, x2, x3, x4, x5]
      exact ⟨m - 1, by omega, _, Sub.refl _, k + 1, es ++ [(qa, qb, 1)], A9, c9, rfl, by omega, by omega, by simp; omega, hA.snoc (by omega) hbb.1 hbb.2 (by omega), hD⟩
    · simp (maxSteps := 300000) (disch := omega) only [gs, gs2, gs3, gs4, ↓reduceIte, Nat.reduceEqDiff, Int.reduceToNat, Nat.reduceMul, Nat.reduceAdd, Nat.reduceBEq, isLd, x2, x3, x4, x5, hk, f0, f1]
      refine st_grab (n := 12) (es := es) (A := Ap) (c := cp) hD.r2 fun q0 q1 => ?_
      simp (maxSteps := 300000) (disch := omega) only [gs, gs2, gs3, gs4, ↓reduceIte, Nat.reduceEqDiff, Int.reduceToNat, Nat.reduceMul, Nat.reduceAdd, Nat.reduceBEq, isLd, x2, x3, q0, q1]
      exact last _ _ _ _ _ _ (by omega) hA hD
  · simp (maxSteps := 300000) (disch := omega) only [gs, gs2, gs3, gs4, ↓reduceIte, Nat.reduceEqDiff, Int.reduceToNat, Nat.reduceMul, Nat.reduceAdd, Nat.reduceBEq, isLd, eq_false v3]
    obtain ⟨f0, f1⟩ := hD.rd
    dsimp only at f0 f1
    simp (maxSteps := 300000) (disch := omega) only [gs, gs2, gs3, gs4, ↓reduceIte, Nat.reduceEqDiff, Int.reduceToNat, Nat.reduceMul, Nat.reduceAdd, Nat.reduceBEq, isLd, f0, f1]
    refine st_grab (n := n) (es := es) (A := Ap) (c := cp) hD.r2 fun q0 q1 => ?_
    simp (maxSteps := 300000) (disch := omega) only [gs, gs2, gs3, gs4, ↓reduceIte, Nat.reduceEqDiff, Int.reduceToNat, Nat.reduceMul, Nat.reduceAdd, Nat.reduceBEq, isLd, q0, q1]
    exact last _ _ _ _ _ _ (by omega) hA hD
/-- a list that is drawn, beside the source. -/
structure VD (H0 G : GH) (b : Nat) (A : Option Addr) (L c p : Nat) (xs : List Int) (Ap : Option Addr) (cp : Nat) : Prop where
  src : Src H0 G b A L c p
  own : Own G Ap cp (xs.map I64) 1 xs.length
  off : Off H0 Ap
  da : ∀ a, Ap = some a → a.block ≠ b
theorem VD.le {H0 G : GH} {b : Nat} {A : Option Addr} {L c p p' : Nat} {xs : List Int} {Ap : Option Addr} {cp : Nat} (h : VD H0 G b A L c p xs Ap cp) (hp : p ≤ p') : VD H0 G b A L c p' xs Ap cp := ⟨h.src.le hp, h.own, h.off, h.da⟩
theorem VD.step {H0 G G' : GH} {b : Nat} {A : Option Addr} {L c p p' : Nat} {xs : List Int} {Ap : Option Addr} {cp : Nat} (h : VD H0 G b A L c p xs Ap cp) (s : Src (del G b) G' b A L c p') : VD H0 G' b A L c p' xs Ap cp :=
  ⟨⟨(h.src.sub.in_del h.src.nb).trans s.sub, h.src.nb, h.src.byt, s.ex⟩, (h.own.del h.da).sub s.sub, h.off, h.da⟩
theorem VD.box {H0 G : GH} {b x : Nat} {A : Option Addr} {L c p : Nat} {xs : List Int} {Ap : Option Addr} {cp : Nat} (h : VD H0 G b A L c p xs Ap cp) (hx : G x = none) (e : Ent) : VD H0 (put G x e) b A L c p xs Ap cp := by
  have s := Sub.put hx e
  obtain ⟨q, st, h1, h2⟩ := h.src.ex
  exact ⟨⟨h.src.sub.trans s, h.src.nb, h.src.byt, q, st, h1, s _ _ h2⟩, h.own.sub s, h.off, h.da⟩
theorem VD.app {H0 G G' : GH} {b : Nat} {A : Option Addr} {L c p : Nat} {xs ys : List Int} {Ap A' : Option Addr} {cp c' : Nat} (h : VD H0 G b A L c p xs Ap cp) (ho : Own G' A' c' (ys.map I64) 1 ys.length) (hG : ∀ H, Sub H G → Off H Ap → Sub H G' ∧ Off H A') : VD H0 G' b A L c p ys A' c' := by
  obtain ⟨hs, hf⟩ := hG _ (Sub.wo _ _) (Off.wo _ _)
  obtain ⟨q, st, h1, h2⟩ := h.src.ex
  have hw : wo G Ap b = some ⟨[.slice A L c, .int .i64 q, .int .u64 st], true⟩ := by rw [wo_ne h.da]; exact h2
  have s0 : Sub H0 (wo G Ap) := fun x e hx => by
    rw [wo_ne fun a ha e' => by have := h.off a ha; rw [e', hx] at this; cases this]
    exact h.src.sub _ _ hx
  exact ⟨⟨s0.trans hs, h.src.nb, h.src.byt, q, st, h1, hs _ _ hw⟩, ho, hf.mono s0, fun a ha e => by have := hf a ha; rw [e, hw] at this; cases this⟩
theorem VD.set {H0 G : GH} {b : Nat} {A : Option Addr} {L c p : Nat} {xs : List Int} {Ap : Option Addr} {cp : Nat} (h : VD H0 G b A L c p xs Ap cp) (h0 : 0 < xs.length) (w : Int) {K : Value → GH → Prop} (hk : ∀ G', VD H0 G' b A L c p (xs.set 0 w) Ap cp → K undef G') : gSt 1 (.pointer Ap) (.int .i64 w) G K := by
  rcases h.own with ⟨_, _, hz, _⟩ | ⟨x, r, rfl, hx, hl, hc, hle⟩
  · omega
  have d := h.da _ rfl
  dsimp only at d
  refine st_one hx (by rw [List.length_append, List.length_map]; omega) rfl (hk _ ?_)
  obtain ⟨q, st, g1, g2⟩ := h.src.ex
  have nx : H0 x = none := h.off _ rfl
  refine ⟨⟨h.src.sub.skip nx, h.src.nb, h.src.byt, q, st, g1, by rw [put_ne _ _ d.symm]; exact g2⟩, .inr ⟨x, r, rfl, ?_, by simp, by simpa using hc, by simpa using hle⟩, h.off, h.da⟩
  rw [put_same, List.set_append_left _ _ (by rw [List.length_map]; exact h0), List.map_set]; rfl
/-- small numbers, few of them. -/
def VSm (xs : List Int) : Prop := xs.length ≤ 21 ∧ ∀ x ∈ xs, -1000001 ≤ x ∧ x ≤ 1000001
theorem VSm.snoc {xs : List Int} (h : VSm xs) (hl : xs.length ≤ 20) {w : Int} (hw : -1000001 ≤ w ∧ w ≤ 1000001) : VSm (xs ++ [w]) := ⟨by simp; omega, fun x hx => by
  rcases List.mem_append.1 hx with h' | h'
  · exact h.2 x h'
  · simp at h'; subst h'; exact hw⟩
theorem VSm.set {xs : List Int} (h : VSm xs) {w : Int} (hw : -1000001 ≤ w ∧ w ≤ 1000001) : VSm (xs.set 0 w) := ⟨by simpa using h.1, fun x hx => by
  rcases List.mem_or_eq_of_mem_set hx with h' | h'
  · exact h.2 x h'
  · subst h'; exact hw⟩
theorem Own.away {G : GH} {A : Option Addr} {c sz n x : Nat} {cs : List Value} (h : Own G A c cs sz n) (hx : ∀ a, A = some a → a.block ≠ x) (e : Ent) : Own (Gh.put G x e) A c cs sz n := by
  rcases h with h | ⟨y, r, rfl, h2, h3⟩
  · exact .inl h
  · exact .inr ⟨y, r, rfl, by rw [put_ne _ _ (hx _ rfl)]; exact h2, h3⟩
theorem Own.ne {G : GH} {A : Option Addr} {c sz n x : Nat} {cs : List Value} (h : Own G A c cs sz n) (hx : G x = none) : ∀ a, A = some a → a.block ≠ x := fun a ha e => by
  rcases h with ⟨h1, _⟩ | ⟨y, r, h1, h2, _⟩
  · rw [h1] at ha; cases ha
  · rw [h1] at ha; cases ha
    dsimp only at e
    rw [e, hx] at h2; cases h2
theorem Own.put {G : GH} {A : Option Addr} {c sz n b : Nat} {cs : List Value} (h : Own G A c cs sz n) (hne : ∀ a, A = some a → a.block ≠ b) (e : Ent) : Own (Gh.put G b e) A c cs sz n := by
  rcases h with h | ⟨b', r, h1, h2, h3⟩
  · exact .inl h
  · exact .inr ⟨b', r, h1, by rw [put_ne _ _ (hne _ h1)]; exact h2, h3⟩
theorem fcells_mapR (f : Int → Int) (n : Nat) : fcells n f = (mapR f n).map I64 := by simp [fcells, mapR]
noncomputable def applyV (N : Gra) (xs : List Int) : List Int × Int := if askC N xs ≠ 0 then ([], askC N xs) else (mapR (apK N.edges xs N.edges.length) N.n.toNat, 0)
/-- the nodes that are kept, and the rows and columns of these. -/
def keep (n : Nat) (om : List Int) : List Int := (iota n).filter fun v => !om.contains v
def sub (ks : List Int) (f : Int → Int → Int) : Int → Int → Int := fun i j => f (ks.getD i.toNat 0) (ks.getD j.toNat 0)
def PrimeP (p : Int) : Prop := (2 ≤ p ∧ p ≤ 251) ∧ ∀ k : Int, 2 ≤ k → k * k ≤ p → p % k ≠ 0
theorem PrimeP.inv {p : Int} (h : PrimeP p) : HasInv p := hasInv_small h.1.1 h.1.2 h.2
open Classical in
/-- the rows: the Laplacian modulo p, but those of the unit at nodes that are fixed; the last column has what they give. -/
noncomputable def harF (N : Gra) (p : Int) (fixed values : List Int) : Int → Int → Int := fun i j =>
  if i ∈ fixed then (if j = N.n then values.getD (fixed.idxOf i) 0 else if j = i then 1 else 0) else if j = N.n then 0 else lapK N.edges N.edges.length i j % p
theorem harF_rng {N : Gra} {p : Int} (hp : PrimeP p) (fixed : List Int) {values : List Int} (hv : InB values 0 (p - 1)) : Rng (harF N p fixed values) p := fun i j => by
  have h2 := hp.1
  unfold harF
  split
  · split
    · by_cases h : fixed.idxOf i < values.length
      · have := hv _ h; omega
      · have : values.getD (fixed.idxOf i) 0 = 0 := by simp [List.getD, show values.length ≤ fixed.idxOf i by omega]
        omega
    · split <;> omega
  · split
    · omega
    · exact ⟨Int.emod_nonneg _ (by omega), Int.emod_lt_of_pos _ (by omega)⟩
theorem rise_mono {xs : List Int} (h : Rise xs) : ∀ {i j : Nat}, i < j → j < xs.length → xs.getD i 0 < xs.getD j 0 := by
  intro i j hij hj
  obtain ⟨d, rfl⟩ : ∃ d, j = i + d + 1 := ⟨j - i - 1, by omega⟩
  clear hij
  induction d with
  | zero => exact h i hj
  | succ d ih =>
    have := ih (by omega)
    have := h (i + d + 1) (by omega)
    exact Int.lt_trans (by assumption) this
theorem idxOf_rise {xs : List Int} (h : Rise xs) {k : Nat} (hk : k < xs.length) : xs.idxOf (xs.getD k 0) = k := by
  have hm : xs.getD k 0 ∈ xs := by simp [List.getD, hk]
  have hlt := List.idxOf_lt_length_iff.2 hm
  have hg : xs.getD (xs.idxOf (xs.getD k 0)) 0 = xs.getD k 0 := by
    rw [List.getD, List.getElem?_eq_getElem hlt, Option.getD_some, List.getElem_idxOf]
  rcases Nat.lt_trichotomy (xs.idxOf (xs.getD k 0)) k with c | c | c
  · have := rise_mono h c hk; omega
  · exact c
  · have := rise_mono h c hlt; omega
open Classical in
/-- what HarmonicModulo returns. -/
noncomputable def harV (N : Gra) (p : Int) (fixed values : List Int) : List Int × Int :=
  if ¬ (GraOk N ∧ PrimeP p ∧ InB values 0 (p - 1) ∧ values.length ≤ 64) then ([], 1) else if ¬ SetOk N fixed then ([], 2) else if fixed.length ≠ values.length then ([], 6)
  else if (elF p N.n.toNat (harF N p fixed values) N.n.toNat).piv.length = N.n.toNat then ((List.range N.n.toNat).map fun j : Nat => (elF p N.n.toNat (harF N p fixed values) N.n.toNat).f j N.n, 0) else ([], 6)
/-- with a full rank, the further column changes nothing. -/
theorem el_full {p : Int} {n : Nat} {f : Int → Int → Int} (h : (elF p n f n).piv.length = n) : (elF p n f (n + 1)).f = (elF p n f n).f ∧ (elF p n f (n + 1)).piv = (elF p n f n).piv := by
  show (elS p n (elF p n f n) n).f = _ ∧ (elS p n (elF p n f n) n).piv = _
  unfold elS
  rw [fstRow_none fun j h1 h2 => by omega]
  exact ⟨rfl, rfl⟩
open Classical in
noncomputable def cutV (N : Gra) (xs : List Int) : Int × Int := if GraOk N then if SetOk N xs then (cwK N.edges xs N.edges.length, 0) else (0, 2) else (0, 1)
theorem mem_bits {s k : Nat} {x : Int} : x ∈ bitsL s k ↔ ∃ i : Nat, i < k ∧ s.testBit i = true ∧ x = i := by
  unfold bitsL
  simp only [List.mem_map, List.mem_filter, List.mem_range]
  constructor
  · rintro ⟨a, ⟨h1, h2⟩, rfl⟩; exact ⟨a, h1, h2, rfl⟩
  · rintro ⟨a, h1, h2, rfl⟩; exact ⟨a, ⟨h1, h2⟩, rfl⟩
theorem rise_snoc {xs : List Int} {v : Int} (h : Rise xs) (hv : ∀ x ∈ xs, x < v) : Rise (xs ++ [v]) := fun i hi => by
  rw [List.length_append, List.length_singleton] at hi
  by_cases c : i + 1 < xs.length
  · have e : ∀ j, j < xs.length → (xs ++ [v]).getD j 0 = xs.getD j 0 := fun j hj => by simp [List.getD, List.getElem?_append_left hj]
    rw [e i (by omega), e (i + 1) c]; exact h i c
  · have e1 : (xs ++ [v]).getD i 0 = xs.getD i 0 := by simp [List.getD, List.getElem?_append_left (show i < xs.length by omega)]
    have e2 : (xs ++ [v]).getD (i + 1) 0 = v := by
      rw [show i + 1 = xs.length by omega]; simp [List.getD]
    rw [e1, e2]
    exact hv _ (by simp [List.getD, show i < xs.length by omega])
theorem rise_bits (s : Nat) : ∀ k, Rise (bitsL s k)
  | 0 => fun i hi => by simp [bitsL] at hi
  | k + 1 => by
    rw [bitsL_succ]
    split
    · exact rise_snoc (rise_bits s k) fun x hx => by obtain ⟨i, hi, _, rfl⟩ := mem_bits.1 hx; omega
    · exact rise_bits s k
theorem bits_set {N : Gra} (hn : GraOk N) (s : Nat) : SetOk N (bitsL s N.n.toNat) := ⟨fun i hi => by
  have hm : (bitsL s N.n.toNat).getD i 0 ∈ bitsL s N.n.toNat := by simp [List.getD, hi]
  obtain ⟨j, hj, _, e⟩ := mem_bits.1 hm
  rw [e]; omega, rise_bits s _⟩
theorem bits_fst (b : Nat) : ∀ d, 0 < (bitsL (2 * b + 1) (d + 1)).length ∧ (bitsL (2 * b + 1) (d + 1)).getD 0 0 = 0
  | 0 => by rw [bitsL_one]; decide
  | d + 1 => by
    obtain ⟨h1, h2⟩ := bits_fst b d
    rw [bitsL_succ]
    split
    · refine ⟨by rw [List.length_append]; omega, ?_⟩
      refine Eq.trans ?_ h2; simp only [List.getD, List.getElem?_append_left h1]
    · exact ⟨h1, h2⟩
theorem bits_all {s k : Nat} (h : (bitsL s k).length = k) : ∀ i, i < k → s.testBit i = true := by
  unfold bitsL at h
  rw [List.length_map] at h
  have := (List.length_filter_eq_length_iff (p := fun y => s.testBit y) (l := List.range k)).1 (by rw [h]; simp)
  exact fun i hi => this i (List.mem_range.2 hi)
theorem bits_less {b m : Nat} (hb : b < 2 ^ m - 1) : (bitsL (2 * b + 1) (m + 1)).length < m + 1 := by
  have h1 := bitsL_len (2 * b + 1) (m + 1)
  apply Classical.byContradiction; intro h2
  have h3 := bits_all (show (bitsL (2 * b + 1) (m + 1)).length = m + 1 by omega)
  have : b = 2 ^ m - 1 := Nat.eq_of_testBit_eq fun i => by
    rw [Nat.testBit_two_pow_sub_one]
    by_cases hi : i < m
    · rw [← bits_odd b i, h3 (i + 1) (by omega)]; simp [hi]
    · rw [decide_eq_false hi]
      exact Nat.testBit_lt_two_pow (Nat.lt_of_lt_of_le (show b < 2 ^ m by omega) (Nat.pow_le_pow_right (by omega) (by omega)))
  omega
theorem bits_ex (P : Nat → Bool) : ∀ (m : Nat), ∃ c, c < 2 ^ m ∧ ∀ i, i < m → c.testBit i = P i := by
  intro m
  induction m generalizing P with
  | zero => exact ⟨0, by simp, fun i hi => by omega⟩
  | succ m ih =>
    obtain ⟨c, hc, h⟩ := ih fun i => P (i + 1)
    have h2 : 2 ^ (m + 1) = 2 * 2 ^ m := by rw [Nat.pow_succ]; omega
    cases hp : P 0
    · refine ⟨2 * c, by omega, fun i hi => ?_⟩
      cases i with
      | zero => rw [hp]; simp [Nat.testBit_zero]
      | succ i => rw [Nat.testBit_succ, show 2 * c / 2 = c by omega]; exact h i (by omega)
    · refine ⟨2 * c + 1, by omega, fun i hi => ?_⟩
      cases i with
      | zero => rw [hp]; simp [Nat.testBit_zero]
      | succ i => rw [bits_odd]; exact h i (by omega)
/-- the weight of a cut asks for the ends of the edges alone, and on which side they lie together. -/
theorem cw_same {es : List T3} {xs ys : List Int} {n : Int} (hin : ∀ i, i < es.length → (0 ≤ (es.getD i z3).1 ∧ (es.getD i z3).1 < n) ∧ 0 ≤ (es.getD i z3).2.1 ∧ (es.getD i z3).2.1 < n) {Q : Prop} (h : ∀ v : Int, 0 ≤ v → v < n → (v ∈ ys ↔ (v ∈ xs ↔ Q))) : ∀ k, k ≤ es.length → cwK es ys k = cwK es xs k
  | 0, _ => rfl
  | k + 1, hk => by
    have ih := cw_same hin h k (by omega)
    obtain ⟨h1, h2⟩ := hin k (by omega)
    have e : offE ys (es.getD k z3) ↔ offE xs (es.getD k z3) := by
      show ¬ (_ ↔ _) ↔ ¬ (_ ↔ _)
      rw [h _ h1.1 h1.2, h _ h2.1 h2.2]
      generalize ((es.getD k z3).1 ∈ xs) = A
      generalize ((es.getD k z3).2.1 ∈ xs) = B
      by_cases q : Q <;> by_cases a : A <;> by_cases b : B <;> simp [q, a, b]
    rw [cwK, cwK, ih]
    by_cases c : offE xs (es.getD k z3)
    · rw [if_pos c, if_pos (e.2 c)]
    · rw [if_neg c, if_neg fun x => c (e.1 x)]
theorem rise_full {xs : List Int} (hr : Rise xs) {n : Nat} (h : ∀ v : Nat, v < n → (v : Int) ∈ xs) : n ≤ xs.length := by
  have key : ∀ v : Nat, v < n → ∃ j, v ≤ j ∧ j < xs.length ∧ xs.getD j 0 = v := by
    intro v
    induction v with
    | zero =>
      intro hv
      obtain ⟨j, hj, hx⟩ := List.mem_iff_getElem.1 (h 0 hv)
      exact ⟨j, by omega, hj, by simp [List.getD, hj, hx]⟩
    | succ v ih =>
      intro hv
      obtain ⟨j, h1, h2, h3⟩ := ih (by omega)
      obtain ⟨j', hj, hx⟩ := List.mem_iff_getElem.1 (h (v + 1) hv)
      have hx' : xs.getD j' 0 = ((v + 1 : Nat) : Int) := by simp [List.getD, hj, hx]
      refine ⟨j', ?_, hj, hx'⟩
      apply Classical.byContradiction; intro c
      rcases Nat.lt_or_ge j' j with q | q
      · have := rise_mono hr q h2; omega
      · have : j' = j := by omega
        subst this; omega
  rcases Nat.eq_zero_or_pos n with h0 | h0
  · omega
  · obtain ⟨j, h1, h2, _⟩ := key (n - 1) (by omega)
    omega
theorem light_law {N : Gra} (h : (lightV N).2.2 = 0) : GraOk N ∧ SetOk N (lightV N).1 ∧ cwK N.edges (lightV N).1 N.edges.length = (lightV N).2.1 ∧ 0 < (lightV N).1.length ∧ ((lightV N).1.length : Int) < N.n ∧ (lightV N).1.getD 0 0 = 0 ∧
    ∀ xs, SetOk N xs → xs.length ≠ 0 → (xs.length : Int) ≠ N.n → (lightV N).2.1 ≤ cwK N.edges xs N.edges.length := by
  have hn : GraOk N := Classical.byContradiction fun x => by unfold lightV at h; rw [if_neg x] at h; exact absurd h (by decide)
  have hn1 := hn.1
  have h1 : N.n ≠ 1 := fun x => by unfold lightV at h; rw [if_pos hn, if_pos x] at h; exact absurd h (by decide)
  have e : lightV N = ((ltV N).1, (ltV N).2, 0) := by unfold lightV; rw [if_pos hn, if_neg h1]
  obtain ⟨m, hm⟩ : ∃ m, N.n.toNat = m + 1 := ⟨N.n.toNat - 1, by omega⟩
  have hp := pow_half (n := N.n.toNat) (by omega) (by omega)
  rw [hm, Nat.add_sub_cancel] at hp
  obtain ⟨b, hb, hk, hmin⟩ := ltK_some N.edges N.n.toNat (2 ^ (N.n.toNat - 1) - 1) (by rw [hm, Nat.add_sub_cancel]; omega)
  have e2 : ltV N = (bitsL (2 * b + 1) N.n.toNat, cwK N.edges (bitsL (2 * b + 1) N.n.toNat) N.edges.length) := by unfold ltV; rw [hk]; rfl
  rw [e, e2]
  have hs := bits_set hn (2 * b + 1)
  rw [hm, Nat.add_sub_cancel] at hb hmin
  rw [hm] at hs ⊢
  obtain ⟨p1, p2⟩ := bits_fst b m
  have p3 := bits_less hb
  refine ⟨hn, hs, rfl, p1, by dsimp only; omega, p2, fun xs hx h0 hne => ?_⟩
  dsimp only
  obtain ⟨c, hc, hbit⟩ := bits_ex (fun i => decide (((i + 1 : Nat) : Int) ∈ xs ↔ (0 : Int) ∈ xs)) m
  have hmem : ∀ v : Int, 0 ≤ v → v < N.n → (v ∈ bitsL (2 * c + 1) (m + 1) ↔ (v ∈ xs ↔ (0 : Int) ∈ xs)) := fun v v0 v1 => by
    rw [mem_bits]
    obtain ⟨u, rfl⟩ : ∃ u : Nat, v = u := ⟨v.toNat, by omega⟩
    cases u with
    | zero => exact ⟨fun _ => Iff.rfl, fun _ => ⟨0, by omega, by simp [Nat.testBit_zero], rfl⟩⟩
    | succ i =>
      have hbi := hbit i (by omega)
      rw [← bits_odd] at hbi
      constructor
      · rintro ⟨j, hj, hjb, hje⟩
        have : j = i + 1 := by omega
        subst this
        rw [hbi] at hjb; exact of_decide_eq_true hjb
      · intro hx'
        exact ⟨i + 1, by omega, by rw [hbi]; exact decide_eq_true hx', rfl⟩
  have hcm : c < 2 ^ m - 1 := by
    apply Classical.byContradiction; intro hcc
    have hce : c = 2 ^ m - 1 := by omega
    have hall : ∀ v : Nat, v < m + 1 → ((v : Int) ∈ xs ↔ (0 : Int) ∈ xs) := fun v hv => by
      cases v with
      | zero => exact Iff.rfl
      | succ i =>
        have hbi := hbit i (by omega)
        rw [hce, Nat.testBit_two_pow_sub_one, decide_eq_true (show i < m by omega)] at hbi
        exact of_decide_eq_true hbi.symm
    by_cases h00 : (0 : Int) ∈ xs
    · have hf := rise_full hx.2 (n := m + 1) fun v hv => (hall v hv).2 h00
      have hle : xs.length ≤ m + 1 := by
        apply Classical.byContradiction; intro c2
        have hge : ∀ i, i < xs.length → (i : Int) ≤ xs.getD i 0 := by
          intro i
          induction i with
          | zero => intro hi; exact (hx.1 0 hi).1
          | succ i ih => intro hi; have := ih (by omega); have := hx.2 i hi; omega
        have := hge (m + 1) (by omega)
        have := (hx.1 (m + 1) (by omega)).2
        omega
      omega
    · have h2 := hx.1 0 (by omega)
      have hm0 : xs.getD 0 0 ∈ xs := by simp [List.getD, show 0 < xs.length by omega]
      have := hall (xs.getD 0 0).toNat (by omega)
      rw [Int.toNat_of_nonneg h2.1] at this
      exact h00 (this.1 hm0)
  have hcw := cw_same (xs := xs) (ys := bitsL (2 * c + 1) (m + 1)) (n := N.n) (fun i hi => by have := hn.2.1 i hi; unfold okEdge at this; omega) hmem _ (Nat.le_refl N.edges.length)
  rw [← hcw]
  exact hmin c hcm
def rowL (C : Nat) (g : Int → Int) : List Int := (List.range C).map fun j : Nat => g j
theorem rowL_len (C : Nat) (g : Int → Int) : (rowL C g).length = C := by simp [rowL]
theorem rowL_get {C : Nat} (g : Int → Int) {j : Nat} (h : j < C) : (rowL C g).getD j 0 = g j := by simp [rowL, List.getD, h]
theorem rowL_succ (C : Nat) (g : Int → Int) : rowL (C + 1) g = rowL C g ++ [g C] := by simp [rowL, List.range_succ]
theorem rowL_congr {C : Nat} {f g : Int → Int} (h : ∀ j : Nat, j < C → f j = g j) : rowL C f = rowL C g := by
  unfold rowL
  exact List.map_congr_left fun j hj => h j (List.mem_range.1 hj)
def rowsC (A : Nat → Option Addr) (c : Nat → Nat) (R C : Nat) : List Value := (List.range R).map fun i => .slice (A i) C (c i)
theorem rowsC_len (A : Nat → Option Addr) (c : Nat → Nat) (R C : Nat) : (rowsC A c R C).length = R := by simp [rowsC]
theorem rowsC_get {A : Nat → Option Addr} {c : Nat → Nat} {R C i : Nat} (h : i < R) : (rowsC A c R C)[i]? = some (.slice (A i) C (c i)) := by simp [rowsC, h]
theorem rowsC_set {A : Nat → Option Addr} {c : Nat → Nat} {R C i : Nat} (A' : Option Addr) (c' : Nat) : (rowsC A c R C).set i (.slice A' C c') = rowsC (fun k => if k = i then A' else A k) (fun k => if k = i then c' else c k) R C := by
  unfold rowsC
  apply List.ext_getElem
  · simp
  · intro k h1 h2
    simp only [List.length_set, List.length_map, List.length_range] at h1
    by_cases e : i = k
    · subst e; simp
    · have e' : k ≠ i := fun x => e x.symm
      simp [List.getElem_set, e, e']
theorem Sub.del2 {G G' : GH} (s : Sub G G') (b : Nat) : Sub (Gh.del G b) (Gh.del G' b) := fun x e h => by
  unfold Gh.del at h ⊢
  split at h
  · cases h
  · rename_i hne; rw [if_neg hne]; exact s x e h
theorem wo_mono {G G' : GH} (s : Sub G G') (Z : Option Addr) : Sub (wo G Z) (wo G' Z) := fun x e h => by
  unfold wo at h ⊢
  split at h
  · cases h
  · rename_i hne; rw [if_neg hne]; exact s x e h
/-- what is known of rows: the outer block b is one's own; the rows lie elsewhere than at Z. -/
structure Rw (H G : GH) (b : Nat) (A : Nat → Option Addr) (c : Nat → Nat) (R C : Nat) (f : Int → Int → Int) (rest : List Value) (Z : Option Addr) : Prop where
  sub : Sub H G
  nb : H b = none
  blk : G b = some ⟨rowsC A c R C ++ rest, true⟩
  row : ∀ i : Nat, i < R → IntS (del (wo G Z) b) (A i) (c i) (rowL C (f i))
theorem Rw.get {H G : GH} {b : Nat} {A : Nat → Option Addr} {c : Nat → Nat} {R C : Nat} {f : Int → Int → Int} {rest : List Value} {Z : Option Addr} (h : Rw H G b A c R C f rest Z) {i : Nat} (hi : i < R) : rd G (some ⟨b, i, none⟩) = some (.slice (A i) C (c i)) := by
  simp only [rd, h.blk, Option.bind_some]
  rw [List.getElem?_append_left (by rw [rowsC_len]; exact hi), rowsC_get hi]
theorem Rw.ints {H G : GH} {b : Nat} {A : Nat → Option Addr} {c : Nat → Nat} {R C : Nat} {f : Int → Int → Int} {rest : List Value} {Z : Option Addr} (h : Rw H G b A c R C f rest Z) {i : Nat} (hi : i < R) : IntS G (A i) (c i) (rowL C (f i)) := (h.row i hi).sub ((Gh.Sub.del _ _).trans (Gh.Sub.wo _ _))
theorem Rw.cell {H G : GH} {b : Nat} {A : Nat → Option Addr} {c : Nat → Nat} {R C : Nat} {f : Int → Int → Int} {rest : List Value} {Z : Option Addr} (h : Rw H G b A c R C f rest Z) {i j : Nat} (hi : i < R) (hj : j < C) : rd G (pa (A i) j) = some (.int .i64 (f i j)) := by
  have := (h.ints hi).rd j (by rw [rowL_len]; exact hj)
  rwa [rowL_get _ hj] at this
theorem Rw.sn {H G : GH} {b : Nat} {A : Nat → Option Addr} {c : Nat → Nat} {R C : Nat} {f : Int → Int → Int} {rest : List Value} {Z : Option Addr} (h : Rw H G b A c R C f rest Z) {i : Nat} (hi : i < R) (hC : 0 < C) : 0 < sn (A i) := (h.ints hi).sn (by rw [rowL_len]; exact hC)
theorem Rw.up {H G : GH} {b : Nat} {A : Nat → Option Addr} {c : Nat → Nat} {R C : Nat} {f : Int → Int → Int} {rest : List Value} {Z : Option Addr} {G' : GH} (h : Rw H G b A c R C f rest Z) (s : Sub G G') : Rw H G' b A c R C f rest Z :=
  ⟨h.sub.trans s, h.nb, s _ _ h.blk, fun i hi => (h.row i hi).sub ((wo_mono s Z).del2 b)⟩
theorem Rw.low {H G : GH} {b : Nat} {A : Nat → Option Addr} {c : Nat → Nat} {R C : Nat} {f : Int → Int → Int} {rest : List Value} {Z : Option Addr} {H' : GH} (h : Rw H G b A c R C f rest Z) (s : Sub H' H) : Rw H' G b A c R C f rest Z := ⟨s.trans h.sub, s.none h.nb, h.blk, h.row⟩
theorem Rw.cong {H G : GH} {b : Nat} {A : Nat → Option Addr} {c : Nat → Nat} {R C : Nat} {f : Int → Int → Int} {rest : List Value} {Z : Option Addr} {g : Int → Int → Int} (h : Rw H G b A c R C f rest Z) (e : ∀ i j : Nat, i < R → j < C → f i j = g i j) : Rw H G b A c R C g rest Z :=
  ⟨h.sub, h.nb, h.blk, fun i hi => by rw [← rowL_congr fun j hj => e i j hi hj]; exact h.row i hi⟩
theorem Rw.all {H G : GH} {b : Nat} {A : Nat → Option Addr} {c : Nat → Nat} {R C : Nat} {f : Int → Int → Int} {rest : List Value} {Z : Option Addr} (h : Rw H G b A c R C f rest Z) : Rw (Gh.del G b) G b A c R C f rest Z := ⟨Gh.Sub.del _ _, del_none _ _, h.blk, h.row⟩
/-- a new list is apart from the outer block and from another one. -/
theorem New.del {G G' : GH} {A Z : Option Addr} {c b : Nat} {xs : List Int} {e : Ent} (h : New G G' A c (xs.map I64) 1 xs.length) (hb : G b = some e) (hZ : ∀ a, Z = some a → ∃ e, G a.block = some e) : IntS (Gh.del (wo G' Z) b) A c xs := by
  have hi := h.ints
  rcases h with ⟨_, _, h0, _, _⟩ | ⟨x, r, rfl, hx, rfl, _⟩
  · exact ⟨hi.cap, fun i hlt => by omega⟩
  · have hne : x ≠ b := fun e' => by rw [e', hb] at hx; cases hx
    have hnz : ∀ a, Z = some a → a.block ≠ x := fun a ha e' => by
      obtain ⟨e2, h2⟩ := hZ a ha
      rw [e', hx] at h2; cases h2
    refine ⟨hi.cap, fun i hlt => ?_⟩
    have := hi.rd i hlt
    simp only [pa_mk, rd] at this ⊢
    unfold Gh.del
    rw [if_neg hne, wo_ne hnz]; exact this

end Go.Proofs.Ytmlkgpoakkgjbaa.Gh
