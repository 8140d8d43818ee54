/- What the functions that the law TableText reaches return, and the law; it stands under no condition. -/
import Derived.Test.YtnaoeggecibkmaaDoorYTableTexta
import Derived.Deep.Draws
import Derived.Lib.ItoaNum
import Derived.Shelf.Lays
import Derived.Shelf.LaysM
import Derived.Shelf.Strconv.Itoa4
import Derived.Shelf.Strings.OnBuilder
import Derived.Shelf.Strings.Builder2
import Derived.Lib.Join
namespace Go.Proofs.YtnaoeggecibkmaaDoor.Gh
open Go Go.RowKit Go.Proofs
open Nat (reduceEqDiff reduceMul reduceAdd)
open Int (reduceToNat)
set_option linter.unusedVariables false
set_option linter.unusedSimpArgs false
set_option maxHeartbeats 4000000

theorem gws : (type_of% @gs) ∧ (type_of% @gs2) ∧ (type_of% @gs3) ∧ (type_of% @gs4) := ⟨@gs, @gs2, @gs3, @gs4⟩
theorem st_one {G : GH} {b o : Nat} {cs : List Value} {v : Value} {K : Value → GH → Prop} (hb : G b = some ⟨cs, true⟩) (ho : o < cs.length) (h1 : oneB v = true) (hk : K undef (put G b ⟨cs.set o v, true⟩)) : gSt 1 (.pointer (some ⟨b, o, none⟩)) v G K := by
  have hc : v.cells = #[v] := by cases v <;> first | rfl | simp [oneB] at h1
  refine ⟨b, o, cs, rfl, hb, by rw [hc]; rfl, by omega, ?_, ?_⟩
  · rw [hc]; intro u hu; simp at hu; subst hu; exact h1
  · rw [hc]; exact hk
theorem fill_set {α : Type} (f : α → Value) (z : Value) (d : α) (xs : List α) (k : Nat) (hk : k < xs.length) :
    ((xs.take k).map f ++ List.replicate (xs.length - k) z).set k (f (xs.getD k d)) = (xs.take (k + 1)).map f ++ List.replicate (xs.length - (k + 1)) z := by
  apply List.ext_getElem?
  intro i
  have hl : ((xs.take k).map f).length = k := by simp; omega
  rw [List.getElem?_set]
  by_cases hik : k = i
  · subst hik
    simp only [if_true, List.length_append, hl, List.length_replicate]
    rw [if_pos (by omega), List.getElem?_append_left (by simp; omega)]
    simp [List.getD, hk]
  · rw [if_neg hik]
    by_cases hlt : i < k
    · rw [List.getElem?_append_left (by omega), List.getElem?_append_left (by simp; omega)]
      simp [List.getElem?_take, hlt, show i < k + 1 by omega]
    · rw [List.getElem?_append_right (by omega), List.getElem?_append_right (by simp; omega)]
      simp only [hl, List.length_map, List.length_take, List.getElem?_replicate, show min (k + 1) xs.length = k + 1 by omega]
      by_cases h2 : i < xs.length
      · rw [if_pos (by omega), if_pos (by omega)]
      · rw [if_neg (by omega), if_neg (by omega)]
theorem zc_one (z : Value) (n : Nat) : zc [z] n = List.replicate n z := by
  apply List.ext_getElem
  · simp [zc]
  · intro i h1 h2; simp [zc, Nat.mod_one, List.getD]
theorem laws_toInt64S_ok {G : GH} {A : Option Addr} {c : Nat} {xs : List Int} (h : IntS G A c xs) (hl : xs.length ≤ 2 ^ 20) {K : Value → GH → Prop}
    (hk : ∀ b, G b = none → K (.slice (some ⟨b, 0, none⟩) xs.length xs.length) (put G b ⟨xs.map I64, true⟩)) : GC Tryd.prog 57 [.slice A xs.length c] G K := by
  refine k5w (by simp) ?_
  have hsn := h.sn
  have hrd := h.rd
  simp (maxSteps := 300000) (disch := omega) only [gws, ↓reduceIte, reduceEqDiff, reduceToNat, reduceMul, reduceAdd, Nat.reduceBEq, isLd]
  refine ⟨xs.length, xs.length, rfl, rfl, Nat.le_refl _, by omega, by omega, fun b hb => ?_⟩
  have hrd' := fun i hi => rd_sub (Sub.put hb ⟨zc [.int .i64 0] xs.length, true⟩) (hrd i hi)
  simp (maxSteps := 300000) (disch := omega) only [gws, ↓reduceIte, reduceEqDiff, reduceToNat, reduceMul, reduceAdd, Nat.reduceBEq, isLd]
  refine gLoop_intro (fun m T G' => ∃ k : Nat, T 0 = .slice A xs.length c ∧ T 3 = .slice (some ⟨b, 0, none⟩) xs.length xs.length ∧ T 4 = .int .i64 k ∧ m + k = xs.length ∧ k ≤ xs.length ∧
    G' = put G b ⟨(xs.take k).map I64 ++ List.replicate (xs.length - k) (I64 0), true⟩) xs.length ⟨0, by simp (maxSteps := 300000) (disch := omega) only [gws, ↓reduceIte, reduceEqDiff, reduceToNat, reduceMul, reduceAdd, Nat.reduceBEq, isLd], by simp (maxSteps := 300000) (disch := omega) only [gws, ↓reduceIte, reduceEqDiff, reduceToNat, reduceMul, reduceAdd, Nat.reduceBEq, isLd], by simp (maxSteps := 300000) (disch := omega) only [gws, ↓reduceIte, reduceEqDiff, reduceToNat, reduceMul, reduceAdd, Nat.reduceBEq, isLd] <;> rfl, by omega, by omega, by simp [zc_one, I64]⟩ ?_
  rintro m T G' ⟨k, h0, h3, h4, hm, hkl, rfl⟩
  have hrd' := fun i hi => rd_sub (Sub.put hb ⟨(xs.take k).map I64 ++ List.replicate (xs.length - k) (I64 0), true⟩) (hrd i hi)
  simp (maxSteps := 300000) (disch := omega) only [gws, ↓reduceIte, reduceEqDiff, reduceToNat, reduceMul, reduceAdd, Nat.reduceBEq, isLd, h0, h3, h4]
  by_cases hlt : (k : Int) < xs.length
  · simp (maxSteps := 300000) (disch := omega) only [gws, ↓reduceIte, reduceEqDiff, reduceToNat, reduceMul, reduceAdd, Nat.reduceBEq, isLd, h0, h3, h4, hlt, hrd']

    refine st_one (put_same _ _ _) (by simp; omega) rfl ?_
    simp (maxSteps := 300000) (disch := omega) only [gws, ↓reduceIte, reduceEqDiff, reduceToNat, reduceMul, reduceAdd, Nat.reduceBEq, isLd, h0, h3, h4, put_put]
    refine ⟨m - 1, by omega, _, Sub.refl _, k + 1, rfl, by omega, by omega, ?_⟩
    rw [show Value.int IntKind.i64 (xs.getD k 0) = I64 (xs.getD k 0) from rfl, fill_set I64 (I64 0) 0 xs k (by omega)]
  · simp (maxSteps := 300000) (disch := omega) only [gws, ↓reduceIte, reduceEqDiff, reduceToNat, reduceMul, reduceAdd, Nat.reduceBEq, isLd, h0, h3, h4, hlt]
    have := hk b hb
    rw [show k = xs.length by omega]
    simpa using this
theorem list_eq_iff {xs ys : List Int} (h : xs.length = ys.length) : xs = ys ↔ ∀ i, i < xs.length → xs.getD i 0 = ys.getD i 0 := by
  constructor
  · rintro rfl i _; rfl
  · intro k
    apply List.ext_getElem h
    intro i h1 h2
    have := k i h1
    simpa [List.getD, h1, h2] using this
theorem laws_eqInt64S_ok {G : GH} {A B : Option Addr} {c d : Nat} {xs ys : List Int} (h : IntS G A c xs) (h' : IntS G B d ys) (hl : xs.length < 2 ^ 40) {K : Value → GH → Prop}
    (hk : K (.bool (decide (xs = ys))) G) : GC Tryd.prog 61 [.slice A xs.length c, .slice B ys.length d] G K := by
  refine k41 (by simp) ?_
  have hsn := h.sn
  have hrd := h.rd
  have hsn' := h'.sn
  have hrd' := h'.rd
  simp (maxSteps := 300000) (disch := omega) only [gws, ↓reduceIte, reduceEqDiff, reduceToNat, reduceMul, reduceAdd, Nat.reduceBEq, isLd]
  by_cases hne : xs.length = ys.length
  · simp (maxSteps := 300000) (disch := omega) only [gws, ↓reduceIte, reduceEqDiff, reduceToNat, reduceMul, reduceAdd, Nat.reduceBEq, isLd, show ((xs.length : Int) = ys.length) = True by simp [hne], not_true]
    refine gLoop_intro (fun m T G' => ∃ k : Nat, T 0 = .slice A xs.length c ∧ T 1 = .slice B ys.length d ∧ T 5 = .int .i64 k ∧ m + k = xs.length ∧ k ≤ xs.length ∧ G' = G ∧ ∀ i, i < k → xs.getD i 0 = ys.getD i 0) xs.length
      ⟨0, by simp (maxSteps := 300000) (disch := omega) only [gws, ↓reduceIte, reduceEqDiff, reduceToNat, reduceMul, reduceAdd, Nat.reduceBEq, isLd], by simp (maxSteps := 300000) (disch := omega) only [gws, ↓reduceIte, reduceEqDiff, reduceToNat, reduceMul, reduceAdd, Nat.reduceBEq, isLd], by simp (maxSteps := 300000) (disch := omega) only [gws, ↓reduceIte, reduceEqDiff, reduceToNat, reduceMul, reduceAdd, Nat.reduceBEq, isLd] <;> rfl, by omega, by omega, rfl, fun i hi => by omega⟩ ?_
    rintro m T G' ⟨k, h0, h1, h5, hm, hkl, rfl, hinv⟩
    simp (maxSteps := 300000) (disch := omega) only [gws, ↓reduceIte, reduceEqDiff, reduceToNat, reduceMul, reduceAdd, Nat.reduceBEq, isLd, h0, h1, h5]
    by_cases hlt : (k : Int) < xs.length
    · simp (maxSteps := 300000) (disch := omega) only [gws, ↓reduceIte, reduceEqDiff, reduceToNat, reduceMul, reduceAdd, Nat.reduceBEq, isLd, h0, h1, h5, hlt, hrd, hrd']
      by_cases hkk : xs.getD k 0 = ys.getD k 0
      · simp (maxSteps := 300000) (disch := omega) only [gws, ↓reduceIte, reduceEqDiff, reduceToNat, reduceMul, reduceAdd, Nat.reduceBEq, isLd, hkk, h0, h1, h5, not_true]
        refine ⟨m - 1, by omega, _, Sub.refl _, k + 1, rfl, by omega, by omega, rfl, fun i hi => ?_⟩
        by_cases hik : i = k
        · subst hik; exact hkk
        · exact hinv i (by omega)
      · simp (maxSteps := 300000) (disch := omega) only [gws, ↓reduceIte, reduceEqDiff, reduceToNat, reduceMul, reduceAdd, Nat.reduceBEq, isLd, hkk, not_false_eq_true]
        have : ¬ xs = ys := by rintro rfl; exact hkk rfl
        simpa [this] using hk
    · simp (maxSteps := 300000) (disch := omega) only [gws, ↓reduceIte, reduceEqDiff, reduceToNat, reduceMul, reduceAdd, Nat.reduceBEq, isLd, h0, h1, h5, hlt]
      have : xs = ys := (list_eq_iff hne).2 fun i hi => hinv i (by omega)
      simpa [this] using hk
  · simp (maxSteps := 300000) (disch := omega) only [gws, ↓reduceIte, reduceEqDiff, reduceToNat, reduceMul, reduceAdd, Nat.reduceBEq, isLd, show ((xs.length : Int) = ys.length) = False by simp; omega, not_false_eq_true]
    have : ¬ xs = ys := by rintro rfl; exact hne rfl
    simpa [this] using hk
/-- the place of the first element that meets p, or -1. -/
def idxI (p : Int → Bool) (xs : List Int) : Int := match xs.findIdx? p with | some i => i | none => -1
theorem idxI_none {p : Int → Bool} {xs : List Int} (h : ∀ i, i < xs.length → p (xs.getD i 0) = false) : idxI p xs = -1 := by
  have : xs.findIdx? p = none := by
    rw [List.findIdx?_eq_none_iff]
    intro x hx
    obtain ⟨i, hi, rfl⟩ := List.getElem_of_mem hx
    simpa [List.getD, hi] using h i hi
  simp [idxI, this]
theorem idxI_some {p : Int → Bool} {xs : List Int} {k : Nat} (hk : k < xs.length) (hp : p (xs.getD k 0) = true) (h : ∀ i, i < k → p (xs.getD i 0) = false) : idxI p xs = k := by
  have : xs.findIdx? p = some k := by
    rw [List.findIdx?_eq_some_iff_getElem]
    refine ⟨hk, by simpa [List.getD, hk] using hp, fun j hj => ?_⟩
    have := h j hj
    simpa [List.getD, show j < xs.length by omega] using this
  simp [idxI, this]
theorem slices_IndexFunc_ok {G : GH} {A : Option Addr} {c : Nat} {xs : List Int} {f : Value} (p : Int → Bool) (h : IntS G A c xs) (hl : xs.length < 2 ^ 40)
    (hf : ∀ i, i < xs.length → ∀ K : Value → GH → Prop, K (.bool (p (xs.getD i 0))) G → gCl Tryd.prog f [.int .i64 (xs.getD i 0)] G K) {K : Value → GH → Prop}
    (hk : K (.int .i64 (idxI p xs)) G) : GC Tryd.prog 111 [.slice A xs.length c, f] G K := by
  refine k7e (by simp) ?_
  have hsn := h.sn
  have hrd := h.rd
  simp (maxSteps := 300000) (disch := omega) only [gws, ↓reduceIte, reduceEqDiff, reduceToNat, reduceMul, reduceAdd, Nat.reduceBEq, isLd]
  refine gLoop_intro (fun m T G' => ∃ k : Nat, T 0 = .slice A xs.length c ∧ T 1 = f ∧ T 7 = .int .i64 xs.length ∧ T 8 = .int .i64 k ∧ m + k = xs.length ∧ k ≤ xs.length ∧ G' = G ∧ ∀ i, i < k → p (xs.getD i 0) = false) xs.length
    ⟨0, by simp (maxSteps := 300000) (disch := omega) only [gws, ↓reduceIte, reduceEqDiff, reduceToNat, reduceMul, reduceAdd, Nat.reduceBEq, isLd], by simp (maxSteps := 300000) (disch := omega) only [gws, ↓reduceIte, reduceEqDiff, reduceToNat, reduceMul, reduceAdd, Nat.reduceBEq, isLd], by simp (maxSteps := 300000) (disch := omega) only [gws, ↓reduceIte, reduceEqDiff, reduceToNat, reduceMul, reduceAdd, Nat.reduceBEq, isLd], by simp (maxSteps := 300000) (disch := omega) only [gws, ↓reduceIte, reduceEqDiff, reduceToNat, reduceMul, reduceAdd, Nat.reduceBEq, isLd] <;> rfl, by omega, by omega, rfl, fun i hi => by omega⟩ ?_
  rintro m T G' ⟨k, h0, h1, h7, h8, hm, hkl, rfl, hinv⟩
  simp (maxSteps := 300000) (disch := omega) only [gws, ↓reduceIte, reduceEqDiff, reduceToNat, reduceMul, reduceAdd, Nat.reduceBEq, isLd, h0, h1, h7, h8]
  by_cases hlt : (k : Int) < xs.length
  · simp (maxSteps := 300000) (disch := omega) only [gws, ↓reduceIte, reduceEqDiff, reduceToNat, reduceMul, reduceAdd, Nat.reduceBEq, isLd, h0, h1, h7, h8, hlt, hrd]
    refine hf k (by omega) _ ?_
    simp (maxSteps := 300000) (disch := omega) only [gws, ↓reduceIte, reduceEqDiff, reduceToNat, reduceMul, reduceAdd, Nat.reduceBEq, isLd, h0, h1, h7, h8]
    cases hp : p (xs.getD k 0)
    · simp (maxSteps := 300000) (disch := omega) only [gws, ↓reduceIte, reduceEqDiff, reduceToNat, reduceMul, reduceAdd, Nat.reduceBEq, isLd, h0, h1, h7, h8]
      refine ⟨m - 1, by omega, _, Sub.refl _, k + 1, rfl, by omega, by omega, rfl, fun i hi => ?_⟩
      by_cases hik : i = k
      · subst hik; exact hp
      · exact hinv i (by omega)
    · simp (maxSteps := 300000) (disch := omega) only [gws, ↓reduceIte, reduceEqDiff, reduceToNat, reduceMul, reduceAdd, Nat.reduceBEq, isLd, h0, h1, h7, h8]
      rw [idxI_some (by omega) hp hinv] at hk; exact hk
  · simp (maxSteps := 300000) (disch := omega) only [gws, ↓reduceIte, reduceEqDiff, reduceToNat, reduceMul, reduceAdd, Nat.reduceBEq, isLd, h0, h1, h7, h8, hlt]
    rw [idxI_none (fun i hi => hinv i (by omega))] at hk; exact hk
theorem slices_ContainsFunc_ok {G : GH} {A : Option Addr} {c : Nat} {xs : List Int} {f : Value} (p : Int → Bool) (h : IntS G A c xs) (hl : xs.length < 2 ^ 40)
    (hf : ∀ i, i < xs.length → ∀ K : Value → GH → Prop, K (.bool (p (xs.getD i 0))) G → gCl Tryd.prog f [.int .i64 (xs.getD i 0)] G K) {K : Value → GH → Prop}
    (hk : K (.bool (xs.any p)) G) : GC Tryd.prog 93 [.slice A xs.length c, f] G K := by
  refine k72 (by simp) ?_
  simp (maxSteps := 300000) (disch := omega) only [gws, ↓reduceIte, reduceEqDiff, reduceToNat, reduceMul, reduceAdd, Nat.reduceBEq, isLd]
  refine slices_IndexFunc_ok p h hl hf ?_
  simp (maxSteps := 300000) (disch := omega) only [gws, ↓reduceIte, reduceEqDiff, reduceToNat, reduceMul, reduceAdd, Nat.reduceBEq, isLd]
  have : decide (0 ≤ idxI p xs) = xs.any p := by
    unfold idxI
    cases hi : xs.findIdx? p with
    | none =>
      rw [List.findIdx?_eq_none_iff] at hi
      have : xs.any p = false := by rw [List.any_eq_false]; intro x hx; simp [hi x hx]
      simp [this]
    | some i =>
      rw [List.findIdx?_eq_some_iff_getElem] at hi
      obtain ⟨h1, h2, _⟩ := hi
      have : xs.any p = true := List.any_eq_true.2 ⟨xs[i], List.getElem_mem h1, h2⟩
      simp [this]
  rw [this]; exact hk
theorem laws_szInt64S_ok {G : GH} {A : Option Addr} {n c : Nat} {left : Int} (h0 : -1 ≤ left ∧ left ≤ 2 ^ 20) (hn : n ≤ 2 ^ 63 - 1) {K : Value → GH → Prop} (hk : ∀ l : Int, -1 ≤ l → l ≤ 2 ^ 20 → (0 ≤ l → l + n ≤ left) → K (.int .i64 l) G) :
    GC Tryd.prog 53 [.slice A n c, .int .i64 left] G K := by
  refine k4v (by simp) ?_
  simp (maxSteps := 300000) (disch := omega) only [gws, ↓reduceIte, reduceEqDiff, reduceToNat, reduceMul, reduceAdd, Nat.reduceBEq, isLd]
  by_cases h : left - (n : Int) < 0
  · simp (maxSteps := 300000) (disch := omega) only [gws, ↓reduceIte, reduceEqDiff, reduceToNat, reduceMul, reduceAdd, Nat.reduceBEq, isLd, h]; exact hk _ (by omega) (by omega) (by omega)
  · simp (maxSteps := 300000) (disch := omega) only [gws, ↓reduceIte, reduceEqDiff, reduceToNat, reduceMul, reduceAdd, Nat.reduceBEq, isLd, h]; exact hk _ (by omega) (by omega) (by omega)
theorem Own.t3 {G : GH} {A : Option Addr} {c : Nat} {es : List T3} (h : Own G A c (flat3 es) 3 es.length) : T3S G A c es := h.cells.t3 h.cap
theorem Own.mk {G : GH} {A : Option Addr} {c n : Nat} {k : Int} (h : Own G A c ((marks k n).map I64) 1 n) : IntS G A c (marks k n) := ⟨by rw [marks_len]; exact h.cap, cells_int' h.cells⟩
theorem spec_l00In_ok (a b c : Int) {G : GH} {K : Value → GH → Prop} (hk : K (.bool (decide (b ≤ a ∧ a ≤ c))) G) : GC Tryd.prog 80 [.int .i64 a, .int .i64 b, .int .i64 c] G K := by
  refine k7q (by simp) ?_
  simp (maxSteps := 300000) (disch := omega) only [gws, ↓reduceIte, reduceEqDiff, reduceToNat, reduceMul, reduceAdd, Nat.reduceBEq, isLd]
  by_cases h1 : b ≤ a
  · simp (maxSteps := 300000) (disch := omega) only [gws, ↓reduceIte, reduceEqDiff, reduceToNat, reduceMul, reduceAdd, Nat.reduceBEq, isLd, h1]
    simpa [h1] using hk
  · simp (maxSteps := 300000) (disch := omega) only [gws, ↓reduceIte, reduceEqDiff, reduceToNat, reduceMul, reduceAdd, Nat.reduceBEq, isLd, h1]
    simpa [h1] using hk
theorem impl_within_ok (a b c : Int) {G : GH} {K : Value → GH → Prop} (hk : K (.bool (decide (b ≤ a ∧ a ≤ c))) G) : GC Tryd.prog 83 [.int .i64 a, .int .i64 b, .int .i64 c] G K := by
  refine k38 (by simp) ?_
  simp (maxSteps := 300000) (disch := omega) only [gws, ↓reduceIte, reduceEqDiff, reduceToNat, reduceMul, reduceAdd, Nat.reduceBEq, isLd]
  by_cases h1 : b ≤ a
  · simp (maxSteps := 300000) (disch := omega) only [gws, ↓reduceIte, reduceEqDiff, reduceToNat, reduceMul, reduceAdd, Nat.reduceBEq, isLd, h1]
    simpa [h1] using hk
  · simp (maxSteps := 300000) (disch := omega) only [gws, ↓reduceIte, reduceEqDiff, reduceToNat, reduceMul, reduceAdd, Nat.reduceBEq, isLd, h1]
    simpa [h1] using hk
def cmp3 (a b : Int) : Int := if a < b then -1 else if b < a then 1 else 0
theorem cmp_isNaN_ok (a : Int) {G : GH} {K : Value → GH → Prop} (hk : K (.bool false) G) : GC Tryd.prog 110 [.int .i64 a] G K := by
  refine kl (by simp) ?_
  simp (maxSteps := 300000) (disch := omega) only [gws, ↓reduceIte, reduceEqDiff, reduceToNat, reduceMul, reduceAdd, Nat.reduceBEq, isLd]
  exact hk
theorem cmp_Compare_ok (a b : Int) {G : GH} {K : Value → GH → Prop} (hk : K (.int .i64 (cmp3 a b)) G) : GC Tryd.prog 92 [.int .i64 a, .int .i64 b] G K := by
  refine kg (by simp) ?_
  simp (maxSteps := 300000) (disch := omega) only [gws, ↓reduceIte, reduceEqDiff, reduceToNat, reduceMul, reduceAdd, Nat.reduceBEq, isLd]
  refine cmp_isNaN_ok _ ?_
  simp (maxSteps := 300000) (disch := omega) only [gws, ↓reduceIte, reduceEqDiff, reduceToNat, reduceMul, reduceAdd, Nat.reduceBEq, isLd]
  refine cmp_isNaN_ok _ ?_
  simp (maxSteps := 300000) (disch := omega) only [gws, ↓reduceIte, reduceEqDiff, reduceToNat, reduceMul, reduceAdd, Nat.reduceBEq, isLd]
  unfold cmp3 at hk
  by_cases h1 : a < b
  · simp (maxSteps := 300000) (disch := omega) only [gws, ↓reduceIte, reduceEqDiff, reduceToNat, reduceMul, reduceAdd, Nat.reduceBEq, isLd, h1]; rwa [if_pos h1] at hk
  · rw [if_neg h1] at hk
    simp (maxSteps := 300000) (disch := omega) only [gws, ↓reduceIte, reduceEqDiff, reduceToNat, reduceMul, reduceAdd, Nat.reduceBEq, isLd, h1]
    by_cases h2 : b < a
    · simp (maxSteps := 300000) (disch := omega) only [gws, ↓reduceIte, reduceEqDiff, reduceToNat, reduceMul, reduceAdd, Nat.reduceBEq, isLd, h2]; rwa [if_pos h2] at hk
    · simp (maxSteps := 300000) (disch := omega) only [gws, ↓reduceIte, reduceEqDiff, reduceToNat, reduceMul, reduceAdd, Nat.reduceBEq, isLd, h2]; rwa [if_neg h2] at hk
theorem impl_isElement_ok (a p : Int) {G : GH} {K : Value → GH → Prop} (hk : K (.bool (decide (0 ≤ a ∧ a ≤ IntKind.i64.wrap (p - 1)))) G) : GC Tryd.prog 90 [.int .i64 a, .int .i64 p] G K := by
  refine k2b (by simp) ?_
  simp (maxSteps := 300000) (disch := omega) only [gws, ↓reduceIte, reduceEqDiff, reduceToNat, reduceMul, reduceAdd, Nat.reduceBEq, isLd]
  refine impl_within_ok _ _ _ ?_
  simp (maxSteps := 300000) (disch := omega) only [gws, ↓reduceIte, reduceEqDiff, reduceToNat, reduceMul, reduceAdd, Nat.reduceBEq, isLd]
  exact hk
def Rise (xs : List Int) : Prop := ∀ i, i + 1 < xs.length → xs.getD i 0 < xs.getD (i + 1) 0
def InB (xs : List Int) (lo hi : Int) : Prop := ∀ i, i < xs.length → lo ≤ xs.getD i 0 ∧ xs.getD i 0 ≤ hi
theorem inB_mem {xs : List Int} {lo hi : Int} : InB xs lo hi ↔ ∀ x ∈ xs, lo ≤ x ∧ x ≤ hi := by
  constructor
  · intro h x hx
    obtain ⟨i, hi, rfl⟩ := List.getElem_of_mem hx
    simpa [List.getD, hi] using h i hi
  · intro h i hi
    exact h _ (by simp [List.getD, hi])
theorem spec_l00Rises_ok {G : GH} {A : Option Addr} {c : Nat} {xs : List Int} {lo hi : Int} (h : IntS G A c xs) (hl : xs.length < 2 ^ 40) {K : Value → GH → Prop}
    (hk : ∀ b : Bool, (b = true ↔ InB xs lo hi ∧ Rise xs) → K (.bool b) G) : GC Tryd.prog 98 [.slice A xs.length c, .int .i64 lo, .int .i64 hi] G K := by
  refine k81 (by simp) ?_
  have hsn := h.sn
  have r := h.rd
  have hno : ¬ (InB xs lo hi ∧ Rise xs) → K (.bool false) G := fun hx => hk false (by simp [hx])
  simp (maxSteps := 300000) (disch := omega) only [gws, ↓reduceIte, reduceEqDiff, reduceToNat, reduceMul, reduceAdd, Nat.reduceBEq, isLd]
  refine gLoop_intro (fun m T G' => ∃ k : Nat, T 0 = .slice A xs.length c ∧ T 1 = .int .i64 lo ∧ T 2 = .int .i64 hi ∧ T 7 = .int .i64 k ∧ m + k = xs.length ∧ k ≤ xs.length ∧ G' = G ∧ (∀ i, i < k → lo ≤ xs.getD i 0 ∧ xs.getD i 0 ≤ hi) ∧ ∀ i, i + 1 < k → xs.getD i 0 < xs.getD (i + 1) 0)
    xs.length ⟨0, by simp (maxSteps := 300000) (disch := omega) only [gws, ↓reduceIte, reduceEqDiff, reduceToNat, reduceMul, reduceAdd, Nat.reduceBEq, isLd], by simp (maxSteps := 300000) (disch := omega) only [gws, ↓reduceIte, reduceEqDiff, reduceToNat, reduceMul, reduceAdd, Nat.reduceBEq, isLd], by simp (maxSteps := 300000) (disch := omega) only [gws, ↓reduceIte, reduceEqDiff, reduceToNat, reduceMul, reduceAdd, Nat.reduceBEq, isLd], by simp (maxSteps := 300000) (disch := omega) only [gws, ↓reduceIte, reduceEqDiff, reduceToNat, reduceMul, reduceAdd, Nat.reduceBEq, isLd] <;> rfl, by omega, by omega, rfl, fun i hi => by omega, fun i hi => by omega⟩ ?_
  rintro m T G' ⟨k, e0, e1, e2, e7, hm, hkl, rfl, hin, hri⟩
  simp (maxSteps := 300000) (disch := omega) only [gws, ↓reduceIte, reduceEqDiff, reduceToNat, reduceMul, reduceAdd, Nat.reduceBEq, isLd, e0, e1, e2, e7]
  by_cases hkk : (k : Int) < xs.length
  · simp (maxSteps := 300000) (disch := omega) only [gws, ↓reduceIte, reduceEqDiff, reduceToNat, reduceMul, reduceAdd, Nat.reduceBEq, isLd, e0, e1, e2, e7, hkk, r]
    refine spec_l00In_ok _ _ _ ?_
    simp (maxSteps := 300000) (disch := omega) only [gws, ↓reduceIte, reduceEqDiff, reduceToNat, reduceMul, reduceAdd, Nat.reduceBEq, isLd, e0, e1, e2, e7, hkk, r]
    cases g1 : decide (lo ≤ xs.getD k 0 ∧ xs.getD k 0 ≤ hi)
    · simp (maxSteps := 300000) (disch := omega) only [gws, ↓reduceIte, reduceEqDiff, reduceToNat, reduceMul, reduceAdd, Nat.reduceBEq, isLd, e0, e1, e2, e7, hkk, r]
      have g1 := of_decide_eq_false g1
      exact hno fun hx => g1 (hx.1 k (by omega))
    · simp (maxSteps := 300000) (disch := omega) only [gws, ↓reduceIte, reduceEqDiff, reduceToNat, reduceMul, reduceAdd, Nat.reduceBEq, isLd, e0, e1, e2, e7, hkk, r]
      have g1 := of_decide_eq_true g1
      have hin' : ∀ i, i < k + 1 → lo ≤ xs.getD i 0 ∧ xs.getD i 0 ≤ hi := fun i hi => by
        by_cases hik : i = k
        · subst hik; exact g1
        · exact hin i (by omega)
      by_cases hk0 : (0 : Int) < k
      · simp (maxSteps := 300000) (disch := omega) only [gws, ↓reduceIte, reduceEqDiff, reduceToNat, reduceMul, reduceAdd, Nat.reduceBEq, isLd, e0, e1, e2, e7, hkk, hk0, r]
        by_cases g2 : xs.getD k 0 ≤ xs.getD ((k : Int) - 1).toNat 0
        · simp (maxSteps := 300000) (disch := omega) only [gws, ↓reduceIte, reduceEqDiff, reduceToNat, reduceMul, reduceAdd, Nat.reduceBEq, isLd, e0, e1, e2, e7, hkk, g2, r]
          exact hno fun hx => by
            have := hx.2 (k - 1) (by omega)
            rw [show k - 1 + 1 = k by omega, show k - 1 = ((k : Int) - 1).toNat by omega] at this
            omega
        · simp (maxSteps := 300000) (disch := omega) only [gws, ↓reduceIte, reduceEqDiff, reduceToNat, reduceMul, reduceAdd, Nat.reduceBEq, isLd, e0, e1, e2, e7, hkk, g2, r]
          refine ⟨m - 1, by omega, _, Sub.refl _, k + 1, rfl, by omega, by omega, rfl, hin', fun i hi => ?_⟩
          by_cases hik : i + 1 = k
          · rw [hik, show i = ((k : Int) - 1).toNat by omega]; omega
          · exact hri i (by omega)
      · simp (maxSteps := 300000) (disch := omega) only [gws, ↓reduceIte, reduceEqDiff, reduceToNat, reduceMul, reduceAdd, Nat.reduceBEq, isLd, e0, e1, e2, e7, hkk, hk0, r]
        exact ⟨m - 1, by omega, _, Sub.refl _, k + 1, rfl, by omega, by omega, rfl, hin', fun i hi => by omega⟩
  · simp (maxSteps := 300000) (disch := omega) only [gws, ↓reduceIte, reduceEqDiff, reduceToNat, reduceMul, reduceAdd, Nat.reduceBEq, isLd, e0, e1, e2, e7, hkk]
    exact hk true (by simp; exact ⟨fun i hi => hin i (by omega), fun i hi => hri i (by omega)⟩)
theorem impl_isRising_ok {G : GH} {A : Option Addr} {c : Nat} {xs : List Int} (h : IntS G A c xs) (hl : xs.length < 2 ^ 40) {K : Value → GH → Prop}
    (hk : ∀ b : Bool, (b = true ↔ Rise xs) → K (.bool b) G) : GC Tryd.prog 100 [.slice A xs.length c] G K := by
  refine k2m (by simp) ?_
  have hsn := h.sn
  have r := h.rd
  simp (maxSteps := 300000) (disch := omega) only [gws, ↓reduceIte, reduceEqDiff, reduceToNat, reduceMul, reduceAdd, Nat.reduceBEq, isLd]
  refine gLoop_intro (fun m T G' => ∃ k : Nat, T 0 = .slice A xs.length c ∧ T 3 = .int .i64 k ∧ m + k = xs.length + 1 ∧ 1 ≤ k ∧ G' = G ∧ ∀ i, i + 1 < k → i + 1 < xs.length → xs.getD i 0 < xs.getD (i + 1) 0)
    xs.length ⟨1, by simp (maxSteps := 300000) (disch := omega) only [gws, ↓reduceIte, reduceEqDiff, reduceToNat, reduceMul, reduceAdd, Nat.reduceBEq, isLd], by simp (maxSteps := 300000) (disch := omega) only [gws, ↓reduceIte, reduceEqDiff, reduceToNat, reduceMul, reduceAdd, Nat.reduceBEq, isLd] <;> rfl, by omega, by omega, rfl, fun i hi => by omega⟩ ?_
  rintro m T G' ⟨k, e0, e3, hm, hkl, rfl, hri⟩
  simp (maxSteps := 300000) (disch := omega) only [gws, ↓reduceIte, reduceEqDiff, reduceToNat, reduceMul, reduceAdd, Nat.reduceBEq, isLd, e0, e3]
  by_cases hkk : (k : Int) < xs.length
  · simp (maxSteps := 300000) (disch := omega) only [gws, ↓reduceIte, reduceEqDiff, reduceToNat, reduceMul, reduceAdd, Nat.reduceBEq, isLd, e0, e3, hkk, r]
    by_cases g2 : xs.getD k 0 ≤ xs.getD ((k : Int) - 1).toNat 0
    · simp (maxSteps := 300000) (disch := omega) only [gws, ↓reduceIte, reduceEqDiff, reduceToNat, reduceMul, reduceAdd, Nat.reduceBEq, isLd, e0, e3, hkk, g2, r]
      refine hk false ?_
      simp
      exact fun hx => by
        have := hx (k - 1) (by omega)
        rw [show k - 1 + 1 = k by omega, show k - 1 = ((k : Int) - 1).toNat by omega] at this
        omega
    · simp (maxSteps := 300000) (disch := omega) only [gws, ↓reduceIte, reduceEqDiff, reduceToNat, reduceMul, reduceAdd, Nat.reduceBEq, isLd, e0, e3, hkk, g2, r]
      refine ⟨m - 1, by omega, _, Sub.refl _, k + 1, rfl, by omega, by omega, rfl, fun i hi hi' => ?_⟩
      by_cases hik : i + 1 = k
      · rw [hik, show i = ((k : Int) - 1).toNat by omega]; omega
      · exact hri i (by omega) hi'
  · simp (maxSteps := 300000) (disch := omega) only [gws, ↓reduceIte, reduceEqDiff, reduceToNat, reduceMul, reduceAdd, Nat.reduceBEq, isLd, e0, e3, hkk]
    exact hk true (by simp; exact fun i hi => hri i (by omega) hi)
theorem impl_areElements_ok {G : GH} {A : Option Addr} {c : Nat} {xs : List Int} {p : Int} (h : IntS G A c xs) (hl : xs.length < 2 ^ 40) {K : Value → GH → Prop}
    (hk : ∀ b : Bool, (b = true ↔ InB xs 0 (IntKind.i64.wrap (p - 1))) → K (.bool b) G) : GC Tryd.prog 101 [.slice A xs.length c, .int .i64 p] G K := by
  refine GC_drop (k21 (by simp) ?_)
  simp (maxSteps := 300000) (disch := omega) only [gws, ↓reduceIte, reduceEqDiff, reduceToNat, reduceMul, reduceAdd, Nat.reduceBEq, isLd]
  intro b1 hb1
  simp (maxSteps := 300000) (disch := omega) only [gws, ↓reduceIte, reduceEqDiff, reduceToNat, reduceMul, reduceAdd, Nat.reduceBEq, isLd]
  have s1 := Sub.put hb1 ⟨[.int .i64 p], true⟩
  refine slices_ContainsFunc_ok (fun n => !decide (0 ≤ n ∧ n ≤ IntKind.i64.wrap (p - 1))) (h.sub s1) hl (fun i hi K' hK' => ?_) ?_
  · simp (maxSteps := 300000) (disch := omega) only [gws, ↓reduceIte, reduceEqDiff, reduceToNat, reduceMul, reduceAdd, Nat.reduceBEq, isLd]
    refine k26 (by simp) ?_
    simp (maxSteps := 300000) (disch := omega) only [gws, ↓reduceIte, reduceEqDiff, reduceToNat, reduceMul, reduceAdd, Nat.reduceBEq, isLd]
    refine impl_isElement_ok _ _ ?_
    simp (maxSteps := 300000) (disch := omega) only [gws, ↓reduceIte, reduceEqDiff, reduceToNat, reduceMul, reduceAdd, Nat.reduceBEq, isLd]
    exact hK'
  · generalize hany : (xs.any fun n => !decide (0 ≤ n ∧ n ≤ IntKind.i64.wrap (p - 1))) = bb
    simp (maxSteps := 300000) (disch := omega) only [gws, ↓reduceIte, reduceEqDiff, reduceToNat, reduceMul, reduceAdd, Nat.reduceBEq, isLd]
    refine ⟨G, s1, hk _ ?_⟩
    rw [inB_mem]
    cases bb
    · rw [List.any_eq_false] at hany
      simp
      exact fun x hx => by simpa using hany x hx
    · rw [List.any_eq_true] at hany
      obtain ⟨x, hx, hy⟩ := hany
      simp
      exact ⟨x, hx, fun h0 => by rcases (by simpa using hy : x < 0 ∨ IntKind.i64.wrap (p - 1) < x) with h | h <;> omega⟩
theorem Own.len {G : GH} {A : Option Addr} {c sz n : Nat} {cs : List Value} (h : Own G A c cs sz n) : cs.length = n * sz := by
  rcases h with ⟨_, _, rfl, rfl⟩ | ⟨b, r, _, _, h, _⟩
  · simp
  · exact h
theorem New.low {G H G' : GH} {A : Option Addr} {c sz n : Nat} {cs : List Value} (h : New G G' A c cs sz n) (s : Sub H G) : ∃ G'', Sub G'' G' ∧ New H G'' A c cs sz n := by
  rcases h with ⟨h1, h2, h3, h4, rfl⟩ | ⟨b, r, h1, h2, rfl, h3⟩
  · exact ⟨H, s, .inl ⟨h1, h2, h3, h4, rfl⟩⟩
  · exact ⟨put H b ⟨cs ++ r, true⟩, Sub.both s, .inr ⟨b, r, h1, s.none h2, rfl, h3⟩⟩
theorem Own.blk {G : GH} {b : Nat} {cs : List Value} {sz n : Nat} (h : G b = some ⟨cs, true⟩) (hl : cs.length = n * sz) : Own G (some ⟨b, 0, none⟩) n cs sz n :=
  .inr ⟨b, [], rfl, by simpa using h, hl, by simpa using hl, Nat.le_refl _⟩
theorem Off.nil (H : GH) : Off H none := fun a ha => by cases ha
theorem Own.cast {G : GH} {A : Option Addr} {c sz n : Nat} {cs cs' : List Value} (h : Own G A c cs sz n) (e : cs = cs') {n' : Nat} (en : n = n') : Own G A c cs' sz n' := e ▸ en ▸ h
theorem Own.nil (G : GH) (sz : Nat) : Own G none 0 [] sz 0 := .inl ⟨rfl, rfl, rfl, rfl⟩
theorem New.sn {G G' : GH} {A : Option Addr} {c sz n : Nat} {cs : List Value} (h : New G G' A c cs sz n) (hn : 0 < n) : 0 < Gh.sn A := by
  rcases h with ⟨_, _, h0, _, _⟩ | ⟨b, r, rfl, _⟩
  · omega
  · simp [Gh.sn]
theorem Holds.kit {W w w' : World} {G : GH} (h : Holds W w G) (hb : Below w.heap.size w w') : Holds W w' G := by
  refine ⟨h.below.trans (hb.mono h.below.size), fun b e x => ?_, fun d => absurd d (by unfold Dr; exact id)⟩
  obtain ⟨el, fz, hw, hr⟩ := h.ent b e x
  exact ⟨el, fz, by rw [hb.block b (h.lt x)]; exact hw, hr⟩
/-- A function of the library that leaves memory as it was. -/
theorem GC_kit {P : Program} {f : FuncId} {args : List Value} {G : GH} {v : Value} {K : Value → GH → Prop} (hE : Enterable P f) (h : ∀ W w, Holds W w G → Calls P f args.toArray w fun e w' => e = .returned v ∧ Below w.heap.size w w') (hk : K v G) : GC P f args G K :=
  ⟨hE, fun W w hw => (h W w hw).mono fun e w' ⟨he, hb⟩ => ⟨v, G, he, hk, hw.kit hb⟩⟩
theorem Holds.cell' {W w : World} {G : GH} (h : Holds W w G) {b o : Nat} {v : Value} (hr : Gh.rd G (some ⟨b, o, none⟩) = some v) : w.cell? ⟨b, o, none⟩ = some v := by
  obtain ⟨a, e, hc⟩ := h.rd hr
  cases e; exact hc
/-- A text, by its bytes. -/
abbrev sv (l : List UInt8) : Value := .string ⟨l.toArray⟩
theorem bs_append (a b : List UInt8) : (⟨a.toArray⟩ : ByteArray) ++ ⟨b.toArray⟩ = ⟨(a ++ b).toArray⟩ := by
  apply ByteArray.ext
  rw [ByteArray.data_append]
  simp
theorem bs_size (a : List UInt8) : (⟨a.toArray⟩ : ByteArray).size = a.length := by simp [ByteArray.size]
theorem bs_list (a : List UInt8) : (⟨a.toArray⟩ : ByteArray).toList = a := by
  simp
theorem cat_ok {a b : List UInt8} (h : a.length + b.length ≤ 9223372036854775807) : binV .add (.string ⟨a.toArray⟩) (.string ⟨b.toArray⟩) = some (.string ⟨(a ++ b).toArray⟩) := by
  have e : binOp .add 0 (.string ⟨a.toArray⟩) (.string ⟨b.toArray⟩) = Op.stringOp .add ⟨a.toArray⟩ ⟨b.toArray⟩ := rfl
  simp only [binV, e, Op.stringOp, bs_size, bs_append]
  rw [if_neg (by have : IntKind.i64.max = 9223372036854775807 := rfl; omega)]
  rfl
theorem seq_ne (a b : List UInt8) : binV .neq (.string ⟨a.toArray⟩) (.string ⟨b.toArray⟩) = some (.bool (decide (a ≠ b))) := by
  have e : binOp .neq 0 (.string ⟨a.toArray⟩) (.string ⟨b.toArray⟩) = Op.stringOp .neq ⟨a.toArray⟩ ⟨b.toArray⟩ := rfl
  simp only [binV, e, Op.stringOp, bs_list]
  by_cases h : a = b
  · subst h; simp; rfl
  · rw [beq_eq_false_iff_ne.2 h]; simp [h]; rfl
/-- the digits of a number, the last one first; none for 0. -/
def dgs (m : Nat) : List UInt8 := if h : m = 0 then [] else UInt8.ofNat (48 + m % 10) :: dgs (m / 10)
termination_by m
decreasing_by omega
theorem dgs_zero : dgs 0 = [] := by rw [dgs, dif_pos rfl]
theorem dgs_pos {m : Nat} (h : m ≠ 0) : dgs m = UInt8.ofNat (48 + m % 10) :: dgs (m / 10) := by rw [dgs, dif_neg h]
theorem dec_dgs : ∀ (k m : Nat), m ≤ k → m ≠ 0 → Lib.decDigits m = (dgs m).reverse
  | 0, m, h, h0 => by omega
  | k + 1, m, h, h0 => by
    rw [Lib.decDigits, dgs_pos h0]
    by_cases h10 : m < 10
    · rw [dif_pos h10, show m / 10 = 0 by omega, dgs_zero, show m % 10 = m by omega]; rfl
    · rw [dif_neg h10, dec_dgs k (m / 10) (by omega) (by omega)]; simp
theorem dgs_len : ∀ (k m : Nat), m < 10 ^ k → (dgs m).length ≤ k
  | 0, m, h => by have : m = 0 := by simpa using h
                  subst this; rw [dgs_zero]; simp
  | k + 1, m, h => by
    by_cases h0 : m = 0
    · subst h0; rw [dgs_zero]; simp
    · rw [dgs_pos h0, List.length_cons]
      have := dgs_len k (m / 10) (by rw [Nat.pow_succ] at h; omega)
      omega
theorem itoa_zero : Lib.itoa 0 = [48] := by simp [Lib.itoa, Lib.decDigits]
theorem itoa_dgs {n : Int} (h : n ≠ 0) : Lib.itoa n = (dgs n.natAbs ++ if n < 0 then [45] else []).reverse := by
  unfold Lib.itoa
  by_cases h0 : n < 0
  · rw [if_pos h0, if_pos h0, dec_dgs _ _ (Nat.le_refl _) (by omega)]; simp
  · rw [if_neg h0, if_neg h0, List.append_nil, show n.toNat = n.natAbs by omega, dec_dgs _ _ (Nat.le_refl _) (by omega)]
theorem itoa_len {n : Int} (h0 : -9223372036854775808 ≤ n) (h1 : n ≤ 9223372036854775807) : (Lib.itoa n).length ≤ 20 := by
  by_cases h : n = 0
  · subst h; rw [itoa_zero]; simp
  · rw [itoa_dgs h, List.length_reverse, List.length_append]
    have := dgs_len 19 n.natAbs (by have : n.natAbs < 10 ^ 19 := by omega
                                    exact this)
    split <;> simp <;> omega
/-- bytes as cells. -/
def B8 (b : UInt8) : Value := .int .u8 b.toNat
theorem b8_get {G : GH} {A : Option Addr} {l : List UInt8} (h : Cells G A (l.map B8)) : ∀ (j : Nat) b, l[j]? = some b → rd G (pa A j) = some (.int .u8 b.toNat) := fun j b hj => h j _ (by rw [List.getElem?_map, hj]; rfl)
theorem digit_byte (d : Nat) (h : d < 10) : Value.int .u8 (IntKind.u8.wrap (48 + (d : Int))) = B8 (UInt8.ofNat (48 + d)) := by
  unfold B8
  rw [show IntKind.u8.wrap (48 + (d : Int)) = 48 + (d : Int) from by
    unfold IntKind.wrap
    simp [IntKind.bits, IntKind.signed]
    omega]
  congr 1
  rw [UInt8.toNat_ofNat']
  omega
def lay173_ren : Go.Shelf.Ren := ⟨fun | 173 => 86 | 246 => 109 | 283 => 122 | 284 => 123 | 285 => 124 | 286 => 125 | 129 => 141 | 317 => 140 | 318 => 142 | 319 => 143 | 320 => 144 | 337 => 153 | 338 => 154 | n => n, fun | 2 => 2 | 3 => 3 | 9 => 9 | 4 => 4 | 171 => 151 | 0 => 0 | 53 => 152 | 37 => 71 | 5 => 5 | 173 => 155 | 212 => 172 | 51 => 173 | 20 => 20 | 213 => 174 | 46 => 166 | 232 => 192 | 233 => 193 | n => n, fun | 17 => 1 | 18 => 6 | 19 => 7 | n => n⟩
theorem lay173 : Go.Proofs.LaysM.n173 Tryd.prog lay173_ren := {
  mixed := by kernel_rfl
  f129 := Tryd.func141.trans (congrArg some (by kernel_rfl))
  f173 := Tryd.func86.trans (congrArg some (by kernel_rfl))
  f246 := Tryd.func109.trans (congrArg some (by kernel_rfl))
  f283 := Tryd.func122.trans (congrArg some (by kernel_rfl))
  f284 := Tryd.func123.trans (congrArg some (by kernel_rfl))
  f285 := Tryd.func124.trans (congrArg some (by kernel_rfl))
  f286 := Tryd.func125.trans (congrArg some (by kernel_rfl))
  f317 := Tryd.func140.trans (congrArg some (by kernel_rfl))
  f318 := Tryd.func142.trans (congrArg some (by kernel_rfl))
  f319 := Tryd.func143.trans (congrArg some (by kernel_rfl))
  f320 := Tryd.func144.trans (congrArg some (by kernel_rfl))
  f337 := Tryd.func153.trans (congrArg some (by kernel_rfl))
  f338 := Tryd.func154.trans (congrArg some (by kernel_rfl))
  t0 := Tryd.underlying0
  a0 := Tryd.isAgg0
  z0 := Tryd.sizeOf0
  v0 := Tryd.zeroValue0
  t2 := Tryd.underlying2
  a2 := Tryd.isAgg2
  z2 := Tryd.sizeOf2
  v2 := Tryd.zeroValue2
  t3 := Tryd.underlying3
  a3 := Tryd.isAgg3
  z3 := Tryd.sizeOf3
  v3 := Tryd.zeroValue3
  t4 := Tryd.underlying4
  a4 := Tryd.isAgg4
  z4 := Tryd.sizeOf4
  v4 := Tryd.zeroValue4
  t5 := Tryd.underlying5
  a5 := Tryd.isAgg5
  z5 := Tryd.sizeOf5
  v5 := Tryd.zeroValue5
  t9 := Tryd.underlying9
  a9 := Tryd.isAgg9
  z9 := Tryd.sizeOf9
  v9 := Tryd.zeroValue9
  t20 := Tryd.underlying20
  a20 := Tryd.isAgg20
  z20 := Tryd.sizeOf20
  v20 := Tryd.zeroValue20
  t37 := Tryd.underlying71
  a37 := Tryd.isAgg71
  z37 := Tryd.sizeOf71
  v37 := Tryd.zeroValue71
  t46 := Tryd.underlying166
  a46 := Tryd.isAgg166
  z46 := Tryd.sizeOf166
  v46 := Tryd.zeroValue166
  t51 := Tryd.underlying173
  a51 := Tryd.isAgg173
  z51 := Tryd.sizeOf173
  v51 := Tryd.zeroValue173
  t53 := Tryd.underlying152
  a53 := Tryd.isAgg152
  z53 := Tryd.sizeOf152
  v53 := Tryd.zeroValue152
  t171 := Tryd.underlying151
  a171 := Tryd.isAgg151
  z171 := Tryd.sizeOf151
  v171 := Tryd.zeroValue151
  t173 := Tryd.underlying155
  a173 := Tryd.isAgg155
  z173 := Tryd.sizeOf155
  v173 := Tryd.zeroValue155
  t212 := Tryd.underlying172
  a212 := Tryd.isAgg172
  z212 := Tryd.sizeOf172
  v212 := Tryd.zeroValue172
  t213 := Tryd.underlying174
  a213 := Tryd.isAgg174
  z213 := Tryd.sizeOf174
  t232 := Tryd.underlying192
  a232 := Tryd.isAgg192
  z232 := Tryd.sizeOf192
  v232 := Tryd.zeroValue192
  t233 := Tryd.underlying193
  a233 := Tryd.isAgg193
  z233 := Tryd.sizeOf193
  v233 := Tryd.zeroValue193
  g17 := by kernel_rfl
  g18 := by kernel_rfl
  g19 := by kernel_rfl
  i0 := by kernel_rfl
  i2 := by kernel_rfl
  i3 := by kernel_rfl
  i4 := by kernel_rfl
  i5 := by kernel_rfl
  i9 := by kernel_rfl
  i20 := by kernel_rfl
  i37 := by kernel_rfl
  i46 := by kernel_rfl
  i51 := by kernel_rfl
  i53 := by kernel_rfl
  i171 := by kernel_rfl
  i173 := by kernel_rfl
  i212 := by kernel_rfl
  i232 := by kernel_rfl
  i233 := by kernel_rfl
  m17 := by kernel_rfl
  m18 := by kernel_rfl
  m19 := by kernel_rfl }
def lay156_ren : Go.Shelf.Ren := ⟨fun | 156 => 51 | 165 => 96 | 166 => 41 | 169 => 43 | 240 => 85 | 241 => 112 | 276 => 108 | 277 => 126 | n => n, fun | 31 => 90 | 9 => 9 | 3 => 3 | 4 => 4 | 0 => 0 | 20 => 20 | 72 => 73 | 76 => 76 | 70 => 70 | 37 => 71 | 75 => 75 | 127 => 123 | 164 => 142 | 5 => 5 | 80 => 81 | n => n, fun n => n⟩
theorem lay156 : Go.Proofs.Lays.n156 Tryd.prog lay156_ren := {
  mixed := by kernel_rfl
  f156 := Tryd.func51.trans (congrArg some (by kernel_rfl))
  f165 := Tryd.func96.trans (congrArg some (by kernel_rfl))
  f166 := Tryd.func41.trans (congrArg some (by kernel_rfl))
  f169 := Tryd.func43.trans (congrArg some (by kernel_rfl))
  f240 := Tryd.func85.trans (congrArg some (by kernel_rfl))
  f241 := Tryd.func112.trans (congrArg some (by kernel_rfl))
  f276 := Tryd.func108.trans (congrArg some (by kernel_rfl))
  f277 := Tryd.func126.trans (congrArg some (by kernel_rfl))
  t0 := Tryd.underlying0
  a0 := Tryd.isAgg0
  z0 := Tryd.sizeOf0
  v0 := Tryd.zeroValue0
  t3 := Tryd.underlying3
  a3 := Tryd.isAgg3
  z3 := Tryd.sizeOf3
  v3 := Tryd.zeroValue3
  t4 := Tryd.underlying4
  a4 := Tryd.isAgg4
  z4 := Tryd.sizeOf4
  v4 := Tryd.zeroValue4
  t9 := Tryd.underlying9
  a9 := Tryd.isAgg9
  z9 := Tryd.sizeOf9
  v9 := Tryd.zeroValue9
  t20 := Tryd.underlying20
  a20 := Tryd.isAgg20
  z20 := Tryd.sizeOf20
  v20 := Tryd.zeroValue20
  t31 := Tryd.underlying90
  a31 := Tryd.isAgg90
  z31 := Tryd.sizeOf90
  v31 := Tryd.zeroValue90
  t37 := Tryd.underlying71
  a37 := Tryd.isAgg71
  z37 := Tryd.sizeOf71
  v37 := Tryd.zeroValue71
  t70 := Tryd.underlying70
  a70 := Tryd.isAgg70
  z70 := Tryd.sizeOf70
  v70 := Tryd.zeroValue70
  t72 := Tryd.underlying73
  a72 := Tryd.isAgg73
  z72 := Tryd.sizeOf73
  v72 := Tryd.zeroValue73
  t75 := Tryd.underlying75
  a75 := Tryd.isAgg75
  z75 := Tryd.sizeOf75
  v75 := Tryd.zeroValue75
  t76 := Tryd.underlying76
  a76 := Tryd.isAgg76
  z76 := Tryd.sizeOf76
  v76 := Tryd.zeroValue76
  t127 := Tryd.underlying123
  a127 := Tryd.isAgg123
  z127 := Tryd.sizeOf123
  v127 := Tryd.zeroValue123
  t164 := Tryd.underlying142
  a164 := Tryd.isAgg142
  z164 := Tryd.sizeOf142
  v164 := Tryd.zeroValue142 }
theorem lay156_X : Builder.Extra Tryd.prog lay156_ren := {
  sizeBuilder := by kernel_rfl
  liesBuilder := by kernel_rfl
  t5 := Tryd.underlying5
  a5 := Tryd.isAgg5
  z5 := Tryd.sizeOf5
  v5 := Tryd.zeroValue5
  infoByte := by kernel_rfl
  cellsByte := by kernel_rfl
  sizeByte := by kernel_rfl
  neB5 := by decide }
/-- What the builder's first step does to memory: the place that holds its own address, and nothing else. -/
theorem cc_pf {P : Program} {ρ : Go.Shelf.Ren} (L : Lays.n240 P ρ) (X : Builder.X72 P ρ) (B b : Nat) (bs : List Value) (p v : Value) (w : World) (hB : B ≤ b) (hp : p = .pointer none ∨ p = .pointer (some ⟨b, 0, none⟩)) (hbk : w.heap[b]? = some (.cells #[p, v] (ρ.t 72) (0, 0)))
    (hown : w.ownsRow B (ρ.t 5) 1 v bs.length bs) (hne : v.ownBlock ≠ some b) :
    Calls P (ρ.f 240) #[.pointer (some ⟨b, 0, none⟩)] w fun e w' => e = .returned (.tuple #[]) ∧ w'.heap[b]? = some (.cells #[.pointer (some ⟨b, 0, none⟩), v] (ρ.t 72) (0, 0)) ∧ w'.ownsRow B (ρ.t 5) 1 v bs.length bs ∧ Below B w w' ∧ ∀ k, k ≠ b → w'.heap[k]? = w.heap[k]? := by
  have hA : Lib.BuilderAt (ρ.t 72) (ρ.t 5) B b p bs w := ⟨hB, v, hbk, hown, hne⟩
  rcases hp with rfl | rfl
  · refine (Any.Builder_copyCheck_fresh L X b w hA.cell0 hA.shape hA.frozen0).mono ?_
    rintro e w' ⟨rfl, rfl⟩
    have hh : (w.setCell ⟨b, 0, none⟩ (.pointer (some ⟨b, 0, none⟩))).heap[b]? = some (.cells #[.pointer (some ⟨b, 0, none⟩), v] (ρ.t 72) (0, 0)) := by
      simp [World.setCell, Array.getElem?_modify, hbk]
    obtain ⟨_, v', hbk', hown', _⟩ := hA.used (.pointer (some ⟨b, 0, none⟩))
    rw [hh] at hbk'
    have hv : v = v' := by simpa using hbk'
    subst hv
    exact ⟨rfl, hh, hown', (Below.refl B w).setCell (p := ⟨b, 0, none⟩) hB _, fun k hk => Below.heap_setCell _ _ _ _ hk⟩
  · refine (Any.Builder_copyCheck_used L X b w hA.cell0).mono ?_
    rintro e w' ⟨rfl, rfl⟩
    exact ⟨rfl, hbk, hown, Below.refl B _, fun _ _ => rfl⟩
set_option maxRecDepth 100000 in
/-- A text is written into the builder: its bytes lie behind those that were there; but for the builder and its row all memory stands. -/
theorem ws_pf {P : Program} {ρ : Go.Shelf.Ren} (L : Lays.n166 P ρ) (X : Builder.Extra P ρ) (B b : Nat) (bs : List Value) (s : ByteArray) (p v : Value) (w : World) (hB : B ≤ b) (hp : p = .pointer none ∨ p = .pointer (some ⟨b, 0, none⟩)) (hbk0 : w.heap[b]? = some (.cells #[p, v] (ρ.t 72) (0, 0)))
    (hown0 : w.ownsRow B (ρ.t 5) 1 v bs.length bs) (hne : v.ownBlock ≠ some b) (hlen : bs.length + s.size ≤ 140737488355328) (hBw : B ≤ w.heap.size) :
    Calls P (ρ.f 166) #[.pointer (some ⟨b, 0, none⟩), .string s] w fun e w' => e = .returned (.tuple #[.int .i64 s.size, .nilIface]) ∧ Lib.BuilderAt (ρ.t 72) (ρ.t 5) B b (.pointer (some ⟨b, 0, none⟩)) (bs ++ Lib.strCells s) w' ∧ Below B w w' ∧
      ∀ k, k < w.heap.size → k ≠ b → v.ownBlock ≠ some k → w'.heap[k]? = w.heap[k]? := by
  obtain ⟨i0, hi, hz0, hz1, hz2⟩ := info_parts X.infoByte
  have mixed := L.mixed
  have t72 := L.t72; have a72 := L.a72; have z72 := L.z72; have v72 := L.v72; have u72 := run_underlying L.t72
  have t70 := L.t70; have a70 := L.a70; have z70 := L.z70; have v70 := L.v70; have u70 := run_underlying L.t70
  have t37 := L.t37; have a37 := L.a37; have z37 := L.z37; have v37 := L.v37; have u37 := run_underlying L.t37
  have t3 := L.t3; have a3 := L.a3; have z3 := L.z3; have v3 := L.v3; have u3 := run_underlying L.t3
  have t9 := L.t9; have a9 := L.a9; have z9 := L.z9; have v9 := L.v9; have u9 := run_underlying L.t9
  have t4 := L.t4; have a4 := L.a4; have z4 := L.z4; have v4 := L.v4; have u4 := run_underlying L.t4
  have t164 := L.t164; have a164 := L.a164; have z164 := L.z164; have v164 := L.v164; have u164 := run_underlying L.t164
  have t5 := X.t5; have a5 := X.a5; have z5 := X.z5; have v5 := X.v5; have u5 := run_underlying X.t5
  have e240 : ∀ args w, (callFunc (ρ.f 240) args).run P w = .ok (.enter (ρ.f 240) args) w := enters_of L.f240 (by kernel_rfl) rfl
  go_enter L.f166, Go.Proofs.Body.n166_ntmps ρ
  go_wp2_with (go_at_fn (ρ.f 240); refine (cc_pf { L with } X.toX72 B b bs p v _ hB hp hbk0 hown0 hne).mono ?_)
  rintro e w1 ⟨rfl, hbk, hown, hb1, hk1⟩
  have c0 : w1.cell? ⟨b, 0, none⟩ = some (.pointer (some ⟨b, 0, none⟩)) := by rw [Lib.cell_of_heap hbk]; rfl
  have c1 : w1.cell? ⟨b, 1, none⟩ = some v := by rw [Lib.cell_of_heap hbk]; rfl
  go_wp2_with (at_builtin; refine Lib.wpList_append_own_string _ rfl _ _ (ρ.t 37) (ρ.t 9) rfl B (ρ.t 5) i0 L.t37 L.t9 hi hz0 hz1 hz2 _ _ _ rfl hown s rfl ?c3 ?c4 ?c5 ?_)
  case c3 => unfold maxLen; omega
  case c4 => omega
  case c5 => have := hb1.size; omega
  intro v' w2 hown' hgrow _
  have hlt : b < w1.heap.size := by
    rcases Nat.lt_or_ge b w1.heap.size with h' | h'
    · exact h'
    · simp [Array.getElem?_eq_none h'] at hbk
  have hb2 : w2.heap[b]? = some (.cells #[.pointer (some ⟨b, 0, none⟩), v] (ρ.t 72) (0, 0)) := by
    rw [hgrow.block b hlt (fun e => hne e.symm)]
    exact hbk
  have d0 : w2.cell? ⟨b, 0, none⟩ = some (.pointer (some ⟨b, 0, none⟩)) := by rw [Lib.cell_of_heap hb2]; rfl
  have d1 : w2.cell? ⟨b, 1, none⟩ = some v := by rw [Lib.cell_of_heap hb2]; rfl
  have f1 : w2.frozen? ⟨b, 1, none⟩ = false := Lib.frozen_of_heap hb2 1
  obtain ⟨ao, n', cap, rfl⟩ : ∃ ao n' cap, v' = .slice ao n' cap := by
    rcases hown'.2 with ⟨hv, _⟩ | ⟨g, cap, cur, hv, _⟩
    · exact ⟨_, _, _, hv⟩
    · exact ⟨_, _, _, hv⟩
  go_wp2
  go_ret2
  refine ⟨rfl, ?_, ?_, fun k hk hkb hkv => ?_⟩
  · exact Lib.BuilderAt.put (T := (ρ.t 72)) (e := (ρ.t 5)) hB hb2 (bs' := bs ++ Lib.strCells s) (by simpa [Lib.strCells_length] using hown') X.neB5
  · exact (hb1.grown hgrow (by have := hb1.size; omega) (fun k hk => (hown.lt k hk).1)).setCell (p := ⟨b, 1, none⟩) hB _
  · rw [Below.heap_setCell _ _ _ _ hkb, hgrow.block k (by have := hb1.size; omega) (fun e => hkv e.symm), hk1 k hkb]
def bT : TypeId := lay156_ren.t 72
def b8 : TypeId := lay156_ren.t 5
theorem lay166 : Lays.n166 Tryd.prog lay156_ren := { lay156 with }
theorem lay169 : Lays.n169 Tryd.prog lay156_ren := { lay156 with }
/-- A builder of one's own, with these bytes; H: what else is known: it is older, or no bytes. -/
structure BldS (H G : GH) (b : Nat) (l : List UInt8) : Prop where
  low : ∀ x e, H x = some e → x ≠ b ∧ (x < b ∨ ∃ n r, e.cells = .int .i64 n :: r)
  sub : Sub H G
  at_ : ∃ p v, (p = .pointer none ∨ p = .pointer (some ⟨b, 0, none⟩)) ∧ G b = some ⟨[p, v], ⟨true, some bT⟩⟩ ∧
    ((v = .slice none 0 0 ∧ l = []) ∨ ∃ g cap cur, v = .slice (some ⟨g, 0, none⟩) l.length cap ∧ b < g ∧ H g = none ∧ G g = some ⟨cur, ⟨true, some b8⟩⟩ ∧ l.length ≤ cap ∧ cap ≤ maxLen ∧ cur.length = cap ∧ cur.take l.length = Lib.byteCells l)
theorem none_of_low {H : GH} {b : Nat} (h : ∀ x e, H x = some e → x ≠ b ∧ (x < b ∨ ∃ n r, e.cells = .int .i64 n :: r)) : H b = none := by
  cases hx : H b with
  | none => rfl
  | some e => exact absurd rfl (h b e hx).1
theorem BldS.start {H : GH} {b : Nat} (h : ∀ x e, H x = some e → x < b) : BldS H (put H b ⟨[.pointer none, .slice none 0 0], ⟨true, some bT⟩⟩) b [] := by
  have hl : ∀ x e, H x = some e → x ≠ b ∧ (x < b ∨ ∃ n r, e.cells = .int .i64 n :: r) := fun x e hx => ⟨Nat.ne_of_lt (h x e hx), .inl (h x e hx)⟩
  exact ⟨hl, Sub.put (none_of_low hl) _, _, _, .inl rfl, put_same _ _ _, .inl ⟨rfl, rfl⟩⟩
theorem BldS.mono {H G G' : GH} {b : Nat} {l : List UInt8} (h : BldS H G b l) (s : Sub G G') : BldS H G' b l := by
  obtain ⟨h1, h2, p, v, h3, h4, h5⟩ := h
  refine ⟨h1, h2.trans s, p, v, h3, s _ _ h4, ?_⟩
  rcases h5 with h5 | ⟨g, cap, cur, a1, a2, a0, a3, a4⟩
  · exact .inl h5
  · exact .inr ⟨g, cap, cur, a1, a2, a0, s _ _ a3, a4⟩
/-- a box of numbers beside the builder. -/
theorem BldS.box {H G : GH} {b x : Nat} {l : List UInt8} (h : BldS H G b l) (hx : G x = none) {n : Int} {r : List Value} : BldS (put H x ⟨.int .i64 n :: r, true⟩) (put G x ⟨.int .i64 n :: r, true⟩) b l := by
  obtain ⟨h1, h2, p, v, h3, h4, h5⟩ := h
  have hxb : x ≠ b := fun e => by rw [e, h4] at hx; cases hx
  refine ⟨fun y e hy => ?_, Sub.both h2, p, v, h3, by rw [put_ne _ _ (Ne.symm hxb)]; exact h4, ?_⟩
  · by_cases hyx : y = x
    · subst hyx
      rw [put_same] at hy
      cases hy
      exact ⟨hxb, .inr ⟨n, r, rfl⟩⟩
    · rw [put_ne _ _ hyx] at hy
      exact h1 y e hy
  · rcases h5 with h5 | ⟨g, cap, cur, a1, a2, a0, a3, a4⟩
    · exact .inl h5
    · have hgx : g ≠ x := fun e => by rw [e, hx] at a3; cases a3
      exact .inr ⟨g, cap, cur, a1, a2, by rw [put_ne _ _ hgx]; exact a0, by rw [put_ne _ _ hgx]; exact a3, a4⟩
theorem Holds.putT {W w : World} {H : GH} (hw : Holds W w H) {b : Nat} {cs : List Value} {t : TypeId} (hh : w.heap[b]? = some (.cells cs.toArray t (0, 0))) (hb : W.heap.size ≤ b) : Holds W w (put H b ⟨cs, ⟨true, some t⟩⟩) := by
  refine ⟨hw.below, fun x e hx => ?_, hw.drawn⟩
  by_cases hxb : x = b
  · subst hxb
    rw [put_same] at hx
    cases hx
    exact ⟨t, (0, 0), hh, fun _ => ⟨hb, by simp⟩, fun t' h => by cases h; exact ⟨rfl, rfl⟩⟩
  · rw [put_ne _ _ hxb] at hx
    exact hw.ent x e hx
/-- what the world holds of a builder. -/
theorem BldS.world {W w : World} {H G : GH} {b : Nat} {l : List UInt8} (hw : Holds W w G) (h : BldS H G b l) : ∃ p v, (p = .pointer none ∨ p = .pointer (some ⟨b, 0, none⟩)) ∧ w.heap[b]? = some (.cells #[p, v] bT (0, 0)) ∧
    w.ownsRow b b8 1 v (Lib.byteCells l).length (Lib.byteCells l) ∧ v.ownBlock ≠ some b ∧ b ≤ w.heap.size ∧ W.heap.size ≤ b ∧ ∀ g, v.ownBlock = some g → H g = none := by
  obtain ⟨h1, h2, p, v, h3, h4, h5⟩ := h
  obtain ⟨el, fz, hh, hr, ht⟩ := hw.ent b _ h4
  obtain ⟨hge, _⟩ := hr rfl
  obtain ⟨rfl, rfl⟩ := ht _ rfl
  refine ⟨p, v, h3, by rw [hh], ⟨by simp, ?_⟩, ?_, Nat.le_of_lt (hw.lt h4), hge, ?_⟩
  · rcases h5 with ⟨rfl, rfl⟩ | ⟨g, cap, cur, rfl, a2, a0, a3, a4, a5, a6, a7⟩
    · exact .inl ⟨rfl, rfl⟩
    · obtain ⟨el', fz', hh', _, ht'⟩ := hw.ent g _ a3
      obtain ⟨rfl, rfl⟩ := ht' _ rfl
      exact .inr ⟨g, cap, cur.toArray, by rw [Lib.byteCells_length], Nat.le_of_lt a2, hh', by rw [Lib.byteCells_length]; exact a4, a5, by simpa using a6, by rw [Lib.byteCells_length, Nat.mul_one]; exact a7⟩
  · rcases h5 with ⟨rfl, rfl⟩ | ⟨g, cap, cur, rfl, a2, _⟩
    · simp [Value.ownBlock]
    · simp only [Value.ownBlock]
      intro e
      cases e
      omega
  · rcases h5 with ⟨rfl, rfl⟩ | ⟨g, cap, cur, rfl, a2, a0, _⟩
    · intro g e; simp [Value.ownBlock] at e
    · intro g' e
      simp only [Value.ownBlock, Option.some.injEq] at e
      rw [← e]; exact a0
theorem WriteString_enter : Enterable Tryd.prog 41 := ⟨_, lay166.f166, by kernel_rfl, by kernel_rfl⟩
theorem String_enter : Enterable Tryd.prog 43 := ⟨_, lay169.f169, by kernel_rfl, by kernel_rfl⟩
theorem WriteString_ok {H G : GH} {b : Nat} {l s : List UInt8} (h : BldS H G b l) (hs : s ≠ []) (hl : l.length + s.length < 2 ^ 40) {K : Value → GH → Prop} (hk : ∀ G', BldS H G' b (l ++ s) → K (.tuple [.int .i64 s.length, .nilIface].toArray) G') :
    GC Tryd.prog 41 [.pointer (some ⟨b, 0, none⟩), .string ⟨s.toArray⟩] G K := by
  refine ⟨WriteString_enter, fun W w hw => ?_⟩
  obtain ⟨p, v, hp, hbk, hown, hne, hbw, hWb, hHg⟩ := h.world hw
  refine Calls.mono (ws_pf (P := Tryd.prog) (ρ := lay156_ren) lay166 lay156_X b b (Lib.byteCells l) ⟨s.toArray⟩ p v w (Nat.le_refl _) hp hbk hown hne (by rw [Lib.byteCells_length, bs_size]; omega) hbw) ?_
  rintro e w' ⟨rfl, hA, hB, hk3⟩
  rw [Lib.strCells_eq, ← Lib.byteCells_append, show (⟨s.toArray⟩ : ByteArray).data.toList = s from rfl] at hA
  have hHb := none_of_low h.low
  have hkeep : ∀ x e, H x = some e → w'.heap[x]? = w.heap[x]? := fun x e hx => hk3 x (hw.lt (h.sub _ _ hx)) (h.low x e hx).1 (fun e' => by rw [hHg x e'] at hx; cases hx)
  have hH : Holds W w' H := by
    refine ⟨hw.below.trans (hB.mono hWb), fun x e hx => ?_, fun d => absurd d (by unfold Dr; exact id)⟩
    obtain ⟨el, fz, hh, hr⟩ := hw.ent x e (h.sub _ _ hx)
    exact ⟨el, fz, by rw [hkeep x e hx]; exact hh, hr⟩
  obtain ⟨_, v', hbk', ⟨_, hv⟩, hne'⟩ := hA
  rw [Lib.byteCells_length] at hv
  have hl0 : 0 < (l ++ s).length := by
    have := List.length_pos_iff.2 hs
    rw [List.length_append]; omega
  rcases hv with ⟨rfl, h0⟩ | ⟨g, cap, cur, rfl, a1, a2, a3, a4, a5, a6⟩
  · omega
  · have hgb : g ≠ b := fun e => hne' (by simp [Value.ownBlock, e])
    rw [Nat.mul_one] at a6
    have hHgn : H g = none := by
      cases hx : H g with
      | none => rfl
      | some e =>
        exfalso
        rcases (h.low g e hx).2 with hlt | ⟨n, r, hr⟩
        · omega
        · obtain ⟨el, fz, hh, _⟩ := hw.ent g e (h.sub _ _ hx)
          rw [← hkeep g e hx, a2] at hh
          have hc : cur = e.cells.toArray := by simpa using congrArg (fun o => match o with | some (Obj.cells c _ _) => c | _ => #[]) hh
          rw [hc, hr] at a6
          cases hls : l ++ s with
          | nil => rw [hls] at hl0; simp at hl0
          | cons x y =>
            rw [hls] at a6
            simp [Lib.byteCells] at a6
    refine ⟨_, put (put H b ⟨[.pointer (some ⟨b, 0, none⟩), .slice (some ⟨g, 0, none⟩) (l ++ s).length cap], ⟨true, some bT⟩⟩) g ⟨cur.toList, ⟨true, some b8⟩⟩, by rw [bs_size],
      hk _ ⟨h.low, (Sub.put hHb _).trans (Sub.put (by rw [put_ne _ _ hgb]; exact hHgn) _), _, _, .inr rfl, ?_, .inr ⟨g, cap, cur.toList, rfl, by omega, hHgn, put_same _ _ _, a3, a4, by simpa using a5, a6⟩⟩, ?_⟩
    · rw [put_ne _ _ (Ne.symm hgb), put_same]
    · exact (hH.putT (cs := [_, _]) hbk' hWb).putT (by rw [Array.toArray_toList]; exact a2) (by omega)
theorem String_ok {H G : GH} {b : Nat} {l : List UInt8} (h : BldS H G b l) (hlow : ∀ x e, H x = some e → x < b) {K : Value → GH → Prop} (hk : K (.string ⟨l.toArray⟩) H) : GC Tryd.prog 43 [.pointer (some ⟨b, 0, none⟩)] G K := by
  refine ⟨String_enter, fun W w hw => ?_⟩
  obtain ⟨p, v, hp, hbk, hown, hne, hbw, hWb, hHg⟩ := h.world hw
  have hI : Lib.IsBuilder bT b8 b b (Lib.byteCells l) w := by
    rcases hp with rfl | rfl
    · exact .inl ⟨Nat.le_refl _, v, hbk, hown, hne⟩
    · exact .inr ⟨Nat.le_refl _, v, hbk, hown, hne⟩
  refine Calls.mono (Any.Builder_String_any (P := Tryd.prog) (ρ := lay156_ren) lay169 lay156_X b b l w hI hbw) ?_
  rintro e w' ⟨rfl, hB⟩
  refine ⟨_, H, rfl, hk, hw.below.trans (hB.mono hWb), fun x e hx => ?_, fun d => absurd d (by unfold Dr; exact id)⟩
  obtain ⟨el, fz, hh, hr⟩ := hw.ent x e (h.sub _ _ hx)
  exact ⟨el, fz, by rw [hB.block x (hlow x e hx)]; exact hh, hr⟩
theorem below_grow (w : World) (k : Nat) (os : Array Obj) : Below w.heap.size w (Go.Sort.grow (w.drewN k) os) :=
  ⟨rfl, rfl, rfl, by simp [Go.Sort.grow, World.drewN], fun i hi => by
    show (w.heap ++ os)[i]? = _
    rw [Array.getElem?_append_left hi]⟩
/-- What the library's variables hold. -/
structure LibG (G : GH) : Prop where
  tab : ∃ g r, Tryd.prog.globalNamed "internal/strconv.uint64pow10" = some g ∧ G g = some ⟨Lib.pow10Tab.map fun z => Value.int .u64 z, r⟩
theorem LibG.sub {G G' : GH} (h : LibG G) (s : Sub G G') : LibG G' := by
  obtain ⟨g, r, h1, h2⟩ := h.tab
  exact ⟨⟨g, r, h1, s _ _ h2⟩⟩
theorem LibG.tabIs {W w : World} {G : GH} (h : LibG G) (hw : Holds W w G) : Lib.TabIs Tryd.prog w "internal/strconv.uint64pow10" .u64 Lib.pow10Tab := by
  obtain ⟨g, r, h1, h2⟩ := h.tab
  obtain ⟨el, fz, hh, _⟩ := hw.ent g _ h2
  simp only [Lib.TabIs, World.var?, h1, Option.bind_some, hh]
theorem FormatInt_ok {G : GH} (hL : LibG G) {n : Int} (h0 : -9223372036854775808 ≤ n) (h1 : n ≤ 9223372036854775807) {K : Value → GH → Prop} (hk : K (.string ⟨(Lib.itoa n).toArray⟩) G) : GC Tryd.prog 86 [.int .i64 n, .int .i64 10] G K :=
  GC_kit ⟨_, lay173.f173, by kernel_rfl, by kernel_rfl⟩ (fun W w hw => Calls.mono (Any.strconv_FormatInt_10 (P := Tryd.prog) (ρ := lay173_ren) lay173 n h0 h1 w (hL.tabIs hw)) (by rintro e w' ⟨rfl, k, os, rfl⟩; exact ⟨rfl, below_grow _ _ _⟩)) hk
theorem Join_ok {G : GH} {bk o c : Nat} {xs : List (List UInt8)} {sep : List UInt8} (hx : Cells G (some ⟨bk, o, none⟩) (xs.map sv)) (h0 : 0 < xs.length) (hc : xs.length ≤ c) (hN : xs.length ≤ 2 ^ 40) (hlen : (Lib.join xs sep).length ≤ 2 ^ 40) {K : Value → GH → Prop}
    (hk : K (.string ⟨(Lib.join xs sep).toArray⟩) G) : GC Tryd.prog 51 [.slice (some ⟨bk, o, none⟩) xs.length c, .string ⟨sep.toArray⟩] G K := by
  have hm : (xs.map fun l => (⟨l.toArray⟩ : ByteArray)).map (·.data.toList) = xs := by
    rw [List.map_map]
    have : ((fun x : ByteArray => x.data.toList) ∘ fun l : List UInt8 => (⟨l.toArray⟩ : ByteArray)) = id := by funext l; rfl
    rw [this, List.map_id]
  have hr : ∀ (j : Nat) x, xs[j]? = some x → rd G (some ⟨bk, o + j, none⟩) = some (.string ⟨x.toArray⟩) := fun j x hj => by
    have := hx j (sv x) (by rw [List.getElem?_map, hj]; rfl)
    rwa [pa_mk] at this
  refine GC_kit ⟨_, lay156.f156, by kernel_rfl, by kernel_rfl⟩ (fun W w hw => ?_) hk
  have hbk : bk < w.heap.size := by
    have := hr 0 xs[0] (by simp [h0])
    have hc := hw.cell' this
    exact World.block_lt_of_cell? _ _ hc
  have h := Any.strings_Join (P := Tryd.prog) (ρ := lay156_ren) lay156 lay156_X bk o c (xs.map fun l => (⟨l.toArray⟩ : ByteArray)) ⟨sep.toArray⟩ w (fun j x hj => by
    rw [List.getElem?_map] at hj
    obtain ⟨l, hl, rfl⟩ := Option.map_eq_some_iff.1 hj
    exact hw.cell' (hr j l hl)) hbk (by rw [List.length_map]; omega) (by rw [List.length_map]; exact hc) (by rw [hm]; exact Nat.le_trans hlen (by decide))
  rw [List.length_map, hm] at h
  exact h
theorem join_two (a : List UInt8) {ws : List (List UInt8)} (h : ws ≠ []) (c : UInt8) : Lib.join (a :: ws) [c] = a ++ c :: Lib.join ws [c] := by
  cases ws with
  | nil => exact absurd rfl h
  | cons w ws =>
    rw [Lib.join_cons, Lib.join_cons]
    simp [Lib.joinTail]
theorem New.cast {G G' : GH} {A : Option Addr} {c sz n : Nat} {cs cs' : List Value} (h : New G G' A c cs sz n) (e : cs = cs') {n' : Nat} (en : n = n') : New G G' A c cs' sz n' := e ▸ en ▸ h
theorem tm10 (m : Int) : m.tmod 10 = if m < 0 then -((m.natAbs % 10 : Nat) : Int) else ((m.natAbs % 10 : Nat) : Int) := by
  cases m with
  | ofNat k => rw [if_neg (by simp)]; rfl
  | negSucc k => rw [if_pos (Int.negSucc_lt_zero k)]; rfl
theorem td10 (m : Int) : m.tdiv 10 = if m < 0 then -((m.natAbs / 10 : Nat) : Int) else ((m.natAbs / 10 : Nat) : Int) := by
  cases m with
  | ofNat k => rw [if_neg (by simp)]; rfl
  | negSucc k => rw [if_pos (Int.negSucc_lt_zero k)]; rfl
theorem impl_Decimal_ok {G : GH} (hL : LibG G) {n : Int} (h0 : -9223372036854775808 ≤ n) (h1 : n ≤ 9223372036854775807) {K : Value → GH → Prop} (hk : K (.string ⟨(Lib.itoa n).toArray⟩) G) : GC Tryd.prog 42 [.int .i64 n] G K := by
  refine kq (by simp) ?_
  simp (maxSteps := 300000) (disch := omega) only [gws, ↓reduceIte, reduceEqDiff, reduceToNat, reduceMul, reduceAdd, Nat.reduceBEq, isLd]
  refine FormatInt_ok hL h0 h1 ?_
  simp (maxSteps := 300000) (disch := omega) only [gws, ↓reduceIte, reduceEqDiff, reduceToNat, reduceMul, reduceAdd, Nat.reduceBEq, isLd]
  exact hk
theorem dec_l1 {G0 G : GH} {Q : Cont} {T : Nat → Value} {R : List UInt8} {A B : Option Addr} {c d : Nat} (hc : Cells G0 A (R.map B8)) (hRl : R.length ≤ 20) (t3 : T 3 = .slice A R.length c) (t7 : T 7 = .int .i64 ((R.length : Int) - 1)) (t6 : T 6 = .slice B 0 d)
    (hN : New G0 G B d (([] : List UInt8).map B8) 1 0) (hQ : ∀ T' G' B' d', T' 6 = .slice B' R.length d' → New G0 G' B' d' (R.reverse.map B8) 1 R.length → Q (.ex 2) T' G') : gLoop (gW Tryd.prog k8l) Q T G := by
  refine gLoop_intro (fun m T G' => ∃ (k : Nat) (B' : Option Addr) (d' : Nat), T 3 = .slice A R.length c ∧ T 7 = .int .i64 ((R.length : Int) - 1 - k) ∧ T 6 = .slice B' k d' ∧ m + k = R.length ∧ k ≤ R.length ∧ New G0 G' B' d' ((R.reverse.take k).map B8) 1 k)
    R.length ⟨0, B, d, t3, by rw [t7]; simp, t6, by omega, by omega, by simpa using hN⟩ ?_
  clear hN t3 t6 t7
  rintro m T G' ⟨k, B', d', t3, t7, t6, hm, hk, hN⟩
  by_cases hi : 0 ≤ (R.length : Int) - 1 - k
  · have hidx : R.length - 1 - k < R.length := by omega
    have hrv : R.reverse[k]? = some (R.getD (R.length - 1 - k) 0) := by
      rw [List.getElem?_reverse (by omega)]; simp [List.getD, hidx]
    have hr0 : rd G' (pa A ((R.length : Int) - 1 - k).toNat) = some (.int .u8 ((R.getD (R.length - 1 - k) 0).toNat : Int)) := by
      rw [show ((R.length : Int) - 1 - k).toNat = R.length - 1 - k by omega]
      refine rd_sub hN.sub (hc (R.length - 1 - k) _ ?_)
      simp [List.getD, hidx, B8]
    have hsn := rd_some hr0
    rw [sn_pa] at hsn
    have wk : IntKind.i64.wrap ((R.length : Int) - 1 - k - 1) = (R.length : Int) - 1 - (k + 1 : Nat) := by rw [w64 _ (by omega) (by omega)]; omega
    simp (maxSteps := 300000) (disch := omega) only [gws, ↓reduceIte, reduceEqDiff, reduceToNat, reduceMul, reduceAdd, Nat.reduceBEq, isLd, t3, t7, t6, hi, hr0, gBs]
    refine ⟨by intro v hv; simp at hv; subst hv; rfl, fun b hb => ?_⟩
    refine ap_new hN (Sub.put hb _) (cells_one [B8 (R.getD (R.length - 1 - k) 0)] true) (by rfl) (by intro v hv; simp at hv; subst hv; rfl) rfl (by omega) (by omega) (by omega) fun G4 B2 d2 hN' => ?_
    simp (maxSteps := 300000) (disch := omega) only [gws, ↓reduceIte, reduceEqDiff, reduceToNat, reduceMul, reduceAdd, Nat.reduceBEq, isLd, t3, t7, t6, wk]
    exact ⟨m - 1, by omega, _, Sub.refl _, k + 1, B2, d2, rfl, rfl, by omega, by omega, New.cast hN' (by rw [List.take_add_one, hrv]; simp) rfl⟩
  · have hkl : k = R.length := by omega
    simp (maxSteps := 300000) (disch := omega) only [gws, ↓reduceIte, reduceEqDiff, reduceToNat, reduceMul, reduceAdd, Nat.reduceBEq, isLd, t3, t7, t6, hi]
    subst hkl
    refine hQ _ _ B' d' (by simp (maxSteps := 300000) (disch := omega) only [gws, ↓reduceIte, reduceEqDiff, reduceToNat, reduceMul, reduceAdd, Nat.reduceBEq, isLd, t6]) (New.cast hN (by rw [List.take_of_length_le (by simp)]) rfl)
theorem spec_l01Dec_ok {G : GH} {n : Int} (h0 : -9223372036854775808 ≤ n) (h1 : n ≤ 9223372036854775807) {K : Value → GH → Prop} (hk : K (.string ⟨(Lib.itoa n).toArray⟩) G) : GC Tryd.prog 81 [.int .i64 n] G K := by
  refine GC_drop (k8p (by simp) ?_)
  by_cases hn : n = 0
  · simp (maxSteps := 300000) (disch := omega) only [gws, ↓reduceIte, reduceEqDiff, reduceToNat, reduceMul, reduceAdd, Nat.reduceBEq, isLd, hn]
    rw [hn, itoa_zero] at hk
    exact ⟨G, Sub.refl _, hk⟩
  simp (maxSteps := 300000) (disch := omega) only [gws, ↓reduceIte, reduceEqDiff, reduceToNat, reduceMul, reduceAdd, Nat.reduceBEq, isLd, hn, gBs]
  refine ⟨by intro v hv; simp at hv, fun b3 hb3 => ?_⟩
  simp only [List.flatMap_nil]
  have hN0 : New G (put G b3 ⟨[], true⟩) (some ⟨b3, 0, none⟩) 0 (([] : List UInt8).map B8) 1 ([] : List UInt8).length := .inr ⟨b3, [], rfl, hb3, rfl, rfl, rfl, Nat.le_refl _⟩
  refine gLoop_intro (fun m T G' => ∃ (x : Int) (D : List UInt8) (A : Option Addr) (c : Nat), T 0 = .int .i64 n ∧ T 3 = .slice A D.length c ∧ T 4 = .int .i64 x ∧ m = x.natAbs ∧ -9223372036854775808 ≤ x ∧ x ≤ 9223372036854775807 ∧ New G G' A c (D.map B8) 1 D.length ∧ D ++ dgs x.natAbs = dgs n.natAbs)
    n.natAbs ⟨n, [], _, _, by simp (maxSteps := 300000) (disch := omega) only [gws, ↓reduceIte, reduceEqDiff, reduceToNat, reduceMul, reduceAdd, Nat.reduceBEq, isLd], by simp (maxSteps := 300000) (disch := omega) only [gws, ↓reduceIte, reduceEqDiff, reduceToNat, reduceMul, reduceAdd, Nat.reduceBEq, isLd] <;> rfl, by simp (maxSteps := 300000) (disch := omega) only [gws, ↓reduceIte, reduceEqDiff, reduceToNat, reduceMul, reduceAdd, Nat.reduceBEq, isLd], rfl, h0, h1, hN0, rfl⟩ ?_
  clear hN0 hb3
  rintro m T G' ⟨x, D, A, c, e0, e3, e4, hm, hx0, hx1, hN, hD⟩
  have hDl : D.length ≤ 19 := by
    have := congrArg List.length hD
    rw [List.length_append] at this
    have := dgs_len 19 n.natAbs (by have : n.natAbs < 10 ^ 19 := by omega
                                    exact this)
    omega
  by_cases hx : x = 0
  · subst hx
    rw [show (0 : Int).natAbs = 0 from rfl, dgs_zero, List.append_nil] at hD
    have hit := itoa_dgs hn
    rw [← hD] at hit
    by_cases hs : n < 0
    · simp (maxSteps := 300000) (disch := omega) only [gws, ↓reduceIte, reduceEqDiff, reduceToNat, reduceMul, reduceAdd, Nat.reduceBEq, isLd, e0, e3, e4, hs, gBs]
      refine ⟨by intro v hv; simp at hv; subst hv; rfl, fun b hb => ?_⟩
      refine ap_new hN (Sub.put hb _) (cells_one [B8 45] true) (by rfl) (by intro v hv; simp at hv; subst hv; rfl) rfl (by omega) (by omega) (by omega) fun G4 A' c' hN' => ?_
      simp (maxSteps := 300000) (disch := omega) only [gws, ↓reduceIte, reduceEqDiff, reduceToNat, reduceMul, reduceAdd, Nat.reduceBEq, isLd, e0, e3, e4, hs, gBs]
      have hl : (D ++ [(45 : UInt8)]).length = D.length + 1 := by simp
      have hN2 : New G G4 A' c' ((D ++ [(45 : UInt8)]).map B8) 1 (D ++ [(45 : UInt8)]).length := New.cast hN' (by simp) (by simp)
      refine ⟨by intro v hv; simp at hv, fun b2 hb2 => ?_⟩
      simp only [List.flatMap_nil]
      refine dec_l1 (G0 := G4) (R := D ++ [45]) (A := A') (c := c') (d := 0) (B := some ⟨b2, 0, none⟩) hN2.cells (by omega) (by simp (maxSteps := 300000) (disch := omega) only [gws, ↓reduceIte, reduceEqDiff, reduceToNat, reduceMul, reduceAdd, Nat.reduceBEq, isLd, hl]) (by simp (maxSteps := 300000) (disch := omega) only [gws, ↓reduceIte, reduceEqDiff, reduceToNat, reduceMul, reduceAdd, Nat.reduceBEq, isLd, hl]) (by simp (maxSteps := 300000) (disch := omega) only [gws, ↓reduceIte, reduceEqDiff, reduceToNat, reduceMul, reduceAdd, Nat.reduceBEq, isLd]) (.inr ⟨b2, [], rfl, hb2, rfl, rfl, rfl, Nat.le_refl _⟩) fun T' G5 B' d' t6 hN5 => ?_
      simp (maxSteps := 300000) (disch := omega) only [gws, ↓reduceIte, reduceEqDiff, reduceToNat, reduceMul, reduceAdd, Nat.reduceBEq, isLd, t6]
      have hit : Lib.itoa n = (D ++ [45]).reverse := by rw [hit, if_pos hs]
      rw [hit] at hk
      exact ⟨B', (D ++ [45]).length, d', (D ++ [45]).reverse, rfl, by simp, b8_get hN5.cells, by simp (maxSteps := 300000) (disch := omega) only [gws, ↓reduceIte, reduceEqDiff, reduceToNat, reduceMul, reduceAdd, Nat.reduceBEq, isLd]; exact ⟨G, hN'.sub.trans hN5.sub, hk⟩⟩
    · simp (maxSteps := 300000) (disch := omega) only [gws, ↓reduceIte, reduceEqDiff, reduceToNat, reduceMul, reduceAdd, Nat.reduceBEq, isLd, e0, e3, e4, hs, gBs]
      refine ⟨by intro v hv; simp at hv, fun b hb => ?_⟩
      simp only [List.flatMap_nil]
      refine dec_l1 (G0 := G') (R := D) (A := A) (c := c) (d := 0) (B := some ⟨b, 0, none⟩) hN.cells (by omega) (by simp (maxSteps := 300000) (disch := omega) only [gws, ↓reduceIte, reduceEqDiff, reduceToNat, reduceMul, reduceAdd, Nat.reduceBEq, isLd, e3]) (by simp (maxSteps := 300000) (disch := omega) only [gws, ↓reduceIte, reduceEqDiff, reduceToNat, reduceMul, reduceAdd, Nat.reduceBEq, isLd]) (by simp (maxSteps := 300000) (disch := omega) only [gws, ↓reduceIte, reduceEqDiff, reduceToNat, reduceMul, reduceAdd, Nat.reduceBEq, isLd]) (.inr ⟨b, [], rfl, hb, rfl, rfl, rfl, Nat.le_refl _⟩) fun T' G4 B' d' t6 hN' => ?_
      simp (maxSteps := 300000) (disch := omega) only [gws, ↓reduceIte, reduceEqDiff, reduceToNat, reduceMul, reduceAdd, Nat.reduceBEq, isLd, t6]
      have hit : Lib.itoa n = D.reverse := by rw [hit, if_neg hs, List.append_nil]
      rw [hit] at hk
      exact ⟨B', D.length, d', D.reverse, rfl, by simp, b8_get hN'.cells, by simp (maxSteps := 300000) (disch := omega) only [gws, ↓reduceIte, reduceEqDiff, reduceToNat, reduceMul, reduceAdd, Nat.reduceBEq, isLd]; exact ⟨G, hN.sub.trans hN'.sub, hk⟩⟩
  · have hr : x.natAbs % 10 < 10 := Nat.mod_lt _ (by decide)
    have w48 : IntKind.i64.wrap (48 + ((x.natAbs % 10 : Nat) : Int)) = 48 + ((x.natAbs % 10 : Nat) : Int) := w64 _ (by omega) (by omega)
    have hq : x.tdiv 10 = if x < 0 then -((x.natAbs / 10 : Nat) : Int) else ((x.natAbs / 10 : Nat) : Int) := td10 x
    have wq : IntKind.i64.wrap (x.tdiv 10) = x.tdiv 10 := w64 _ (by rw [hq]; split <;> omega) (by rw [hq]; split <;> omega)
    have hqa : (x.tdiv 10).natAbs = x.natAbs / 10 := by rw [hq]; split <;> omega
    have fin : ∀ (G2 : GH) (A' : Option Addr) (c' : Nat), New G G2 A' c' ((D.map B8) ++ [B8 (UInt8.ofNat (48 + x.natAbs % 10))]) 1 (D.length + 1) →
        New G G2 A' c' ((D ++ [UInt8.ofNat (48 + x.natAbs % 10)]).map B8) 1 (D ++ [UInt8.ofNat (48 + x.natAbs % 10)]).length := fun G2 A' c' h => New.cast h (by simp) (by simp)
    have hD' : (D ++ [UInt8.ofNat (48 + x.natAbs % 10)]) ++ dgs (x.tdiv 10).natAbs = dgs n.natAbs := by
      rw [← hD, dgs_pos (m := x.natAbs) (by omega), hqa]; simp
    by_cases hs : x.tmod 10 < 0
    · have ht : x.tmod 10 = -((x.natAbs % 10 : Nat) : Int) := by have := tm10 x; split at this <;> omega
      have wn : IntKind.i64.wrap (0 - x.tmod 10) = ((x.natAbs % 10 : Nat) : Int) := by rw [ht, w64 _ (by omega) (by omega)]; omega
      simp (maxSteps := 300000) (disch := omega) only [gws, ↓reduceIte, reduceEqDiff, reduceToNat, reduceMul, reduceAdd, Nat.reduceBEq, isLd, e0, e3, e4, hx, hs, bin_rem (h := (by decide : (10 : Int) ≠ 0)), wn, w48, digit_byte _ hr, gBs]
      refine ⟨by intro v hv; simp at hv; subst hv; rfl, fun b hb => ?_⟩
      refine ap_new hN (Sub.put hb _) (cells_one [B8 (UInt8.ofNat (48 + x.natAbs % 10))] true) (by rfl) (by intro v hv; simp at hv; subst hv; rfl) rfl (by omega) (by omega) (by omega) fun G4 A' c' hN' => ?_
      simp (maxSteps := 300000) (disch := omega) only [gws, ↓reduceIte, reduceEqDiff, reduceToNat, reduceMul, reduceAdd, Nat.reduceBEq, isLd, e0, e3, e4, hx, hs, bin_quo (h := (by decide : (10 : Int) ≠ 0)), wq]
      exact ⟨x.natAbs / 10, by omega, _, Sub.refl _, x.tdiv 10, D ++ [UInt8.ofNat (48 + x.natAbs % 10)], A', c', by simp, rfl, by rw [hqa], by rw [hq]; split <;> omega, by rw [hq]; split <;> omega, fin _ _ _ hN', hD'⟩
    · have ht : x.tmod 10 = ((x.natAbs % 10 : Nat) : Int) := by have := tm10 x; split at this <;> omega
      simp (maxSteps := 300000) (disch := omega) only [gws, ↓reduceIte, reduceEqDiff, reduceToNat, reduceMul, reduceAdd, Nat.reduceBEq, isLd, e0, e3, e4, hx, bin_rem (h := (by decide : (10 : Int) ≠ 0)), ht, show ((((x.natAbs % 10 : Nat) : Int)) < 0) = False from eq_false (by omega), w48, digit_byte _ hr, gBs]
      refine ⟨by intro v hv; simp at hv; subst hv; rfl, fun b hb => ?_⟩
      refine ap_new hN (Sub.put hb _) (cells_one [B8 (UInt8.ofNat (48 + x.natAbs % 10))] true) (by rfl) (by intro v hv; simp at hv; subst hv; rfl) rfl (by omega) (by omega) (by omega) fun G4 A' c' hN' => ?_
      simp (maxSteps := 300000) (disch := omega) only [gws, ↓reduceIte, reduceEqDiff, reduceToNat, reduceMul, reduceAdd, Nat.reduceBEq, isLd, e0, e3, e4, hx, bin_quo (h := (by decide : (10 : Int) ≠ 0)), wq]
      exact ⟨x.natAbs / 10, by omega, _, Sub.refl _, x.tdiv 10, D ++ [UInt8.ofNat (48 + x.natAbs % 10)], A', c', by simp, rfl, by rw [hqa], by rw [hq]; split <;> omega, by rw [hq]; split <;> omega, fin _ _ _ hN', hD'⟩
theorem cat_ex (a b : List UInt8) (h : a.length + b.length ≤ 9223372036854775807) : ∃ X : List UInt8, X = a ++ b ∧ X.length = a.length + b.length ∧ binV .add (.string ⟨a.toArray⟩) (.string ⟨b.toArray⟩) = some (.string ⟨X.toArray⟩) :=
  ⟨a ++ b, rfl, List.length_append, cat_ok h⟩
theorem join_snoc {c : UInt8} : ∀ {ws : List (List UInt8)} (w : List UInt8), ws ≠ [] → Lib.join (ws ++ [w]) [c] = Lib.join ws [c] ++ [c] ++ w
  | [], w, h => absurd rfl h
  | [v], w, _ => by rw [List.singleton_append, join_two v (by simp), Lib.join_one, Lib.join_one]; simp
  | v :: u :: ws, w, _ => by
    rw [List.cons_append, join_two v (by simp), join_snoc (ws := u :: ws) w (by simp), join_two v (ws := u :: ws) (by simp)]
    simp
theorem join_len (c : UInt8) (M : Nat) : ∀ (ws : List (List UInt8)), (∀ w ∈ ws, w.length ≤ M) → (Lib.join ws [c]).length ≤ (M + 1) * ws.length
  | [], _ => by simp [Lib.join_nil]
  | [w], h => by
    have := h w (by simp)
    rw [Lib.join_one, List.length_singleton]; omega
  | w :: v :: ws, h => by
    have h1 := h w (by simp)
    have h2 := join_len c M (v :: ws) (fun x hx => h x (by simp [hx]))
    rw [join_two w (by simp), List.length_append, List.length_cons, List.length_cons (a := w), Nat.mul_succ]
    omega
/-- the text of a list. -/
def ltxt (xs : List Int) : List UInt8 := if xs = [] then [45] else Lib.join (xs.map Lib.itoa) [44]
def ltk (xs : List Int) (k : Nat) : List UInt8 := Lib.join ((xs.take k).map Lib.itoa) [44]
theorem ltk_zero (xs : List Int) : ltk xs 0 = [] := rfl
theorem ltk_one {xs : List Int} (h : 0 < xs.length) : ltk xs 1 = Lib.itoa (xs.getD 0 0) := by
  cases xs with
  | nil => simp at h
  | cons x xs => simp [ltk, Lib.join_one]
theorem ltk_succ {xs : List Int} {k : Nat} (h0 : 0 < k) (h : k < xs.length) : ltk xs (k + 1) = ltk xs k ++ [44] ++ Lib.itoa (xs.getD k 0) := by
  unfold ltk
  rw [List.take_add_one, List.map_append, show ((xs[k]?).toList.map Lib.itoa) = [Lib.itoa (xs.getD k 0)] by simp [List.getD, h], join_snoc _ (by
    intro e
    rw [List.map_eq_nil_iff, List.take_eq_nil_iff] at e
    rcases e with e | e
    · omega
    · rw [e] at h; simp at h)]
theorem ltk_all {xs : List Int} (h : xs ≠ []) : ltk xs xs.length = ltxt xs := by unfold ltk ltxt; rw [if_neg h, List.take_length]
theorem ltk_len {xs : List Int} (hr : ∀ x ∈ xs, R64 x) (k : Nat) : (ltk xs k).length ≤ 21 * k := by
  have h := join_len 44 20 ((xs.take k).map Lib.itoa) (fun w hw => by
    obtain ⟨x, hx, rfl⟩ := List.mem_map.1 hw
    have := hr x (List.mem_of_mem_take hx)
    exact itoa_len this.1 this.2)
  rw [List.length_map, List.length_take] at h
  unfold ltk
  have : min k xs.length ≤ k := Nat.min_le_left _ _
  omega
theorem ltxt_len {xs : List Int} (hr : ∀ x ∈ xs, R64 x) : (ltxt xs).length ≤ 21 * xs.length + 1 := by
  by_cases h : xs = []
  · subst h; simp [ltxt]
  · rw [← ltk_all h]; have := ltk_len hr xs.length; omega
theorem mem_R64 {xs : List Int} (hr : ∀ x ∈ xs, R64 x) {k : Nat} (h : k < xs.length) : R64 (xs.getD k 0) := hr _ (by simp [List.getD, h])
theorem spec_l01List_ok {G : GH} {A : Option Addr} {c : Nat} {xs : List Int} (h : IntS G A c xs) (hr : ∀ x ∈ xs, R64 x) (hl : xs.length < 2 ^ 30) {K : Value → GH → Prop} (hk : K (.string ⟨(ltxt xs).toArray⟩) G) : GC Tryd.prog 88 [.slice A xs.length c] G K := by
  refine k94 (by simp) ?_
  have hsn := h.sn
  have r := h.rd
  by_cases h0 : (xs.length : Int) = 0
  · simp (maxSteps := 300000) (disch := omega) only [gws, ↓reduceIte, reduceEqDiff, reduceToNat, reduceMul, reduceAdd, Nat.reduceBEq, isLd, eq_true h0]
    have : xs = [] := List.length_eq_zero_iff.1 (by omega)
    rw [this] at hk
    exact hk
  have hne : xs ≠ [] := fun e => h0 (by rw [e]; rfl)
  simp (maxSteps := 300000) (disch := omega) only [gws, ↓reduceIte, reduceEqDiff, reduceToNat, reduceMul, reduceAdd, Nat.reduceBEq, isLd, h0]
  refine gLoop_intro (fun m T G' => ∃ k : Nat, T 0 = .slice A xs.length c ∧ T 3 = .string ⟨(ltk xs k).toArray⟩ ∧ T 4 = .int .i64 k ∧ m + k = xs.length ∧ k ≤ xs.length ∧ G' = G)
    xs.length ⟨0, by simp (maxSteps := 300000) (disch := omega) only [gws, ↓reduceIte, reduceEqDiff, reduceToNat, reduceMul, reduceAdd, Nat.reduceBEq, isLd], by simp (maxSteps := 300000) (disch := omega) only [gws, ↓reduceIte, reduceEqDiff, reduceToNat, reduceMul, reduceAdd, Nat.reduceBEq, isLd] <;> rfl, by simp (maxSteps := 300000) (disch := omega) only [gws, ↓reduceIte, reduceEqDiff, reduceToNat, reduceMul, reduceAdd, Nat.reduceBEq, isLd] <;> rfl, by omega, by omega, rfl⟩ ?_
  rintro m T G' ⟨k, e0, e3, e4, hm, hkl, rfl⟩
  by_cases hkk : (k : Int) < xs.length
  · have hR := mem_R64 hr (k := k) (by omega)
    have li := itoa_len hR.1 hR.2
    have lk := ltk_len hr k
    by_cases hk0 : (0 : Int) < k
    · obtain ⟨X1, a1, n1, c1⟩ := cat_ex (ltk xs k) [44] (by simp; omega)
      rw [List.length_singleton] at n1
      obtain ⟨X2, a2, n2, c2⟩ := cat_ex X1 (Lib.itoa (xs.getD k 0)) (by omega)
      simp (maxSteps := 300000) (disch := omega) only [gws, ↓reduceIte, reduceEqDiff, reduceToNat, reduceMul, reduceAdd, Nat.reduceBEq, isLd, e0, e3, e4, hkk, hk0, c1, r]
      refine spec_l01Dec_ok hR.1 hR.2 ?_
      simp (maxSteps := 300000) (disch := omega) only [gws, ↓reduceIte, reduceEqDiff, reduceToNat, reduceMul, reduceAdd, Nat.reduceBEq, isLd, e0, e3, e4, c2]
      exact ⟨m - 1, by omega, G', Sub.refl _, k + 1, by rw [a2, a1, ltk_succ (by omega) (by omega)], rfl, by omega, by omega, rfl⟩
    · have : k = 0 := by omega
      subst this
      rw [ltk_zero] at e3
      obtain ⟨X2, a2, n2, c2⟩ := cat_ex [] (Lib.itoa (xs.getD 0 0)) (by rw [List.length_nil]; omega)
      have r0 : rd G' A = some (.int .i64 (xs.getD 0 0)) := by have := h.2 0 (by omega); rwa [pa_zero] at this
      simp (maxSteps := 300000) (disch := omega) only [gws, ↓reduceIte, reduceEqDiff, reduceToNat, reduceMul, reduceAdd, Nat.reduceBEq, isLd, e0, e3, e4, hkk, hk0, r0]
      refine spec_l01Dec_ok hR.1 hR.2 ?_
      simp (maxSteps := 300000) (disch := omega) only [gws, ↓reduceIte, reduceEqDiff, reduceToNat, reduceMul, reduceAdd, Nat.reduceBEq, isLd, e0, e3, e4, c2]
      exact ⟨m - 1, by omega, G', Sub.refl _, 1, by rw [a2, List.nil_append, ltk_one (by omega)], rfl, by omega, by omega, rfl⟩
  · simp (maxSteps := 300000) (disch := omega) only [gws, ↓reduceIte, reduceEqDiff, reduceToNat, reduceMul, reduceAdd, Nat.reduceBEq, isLd, e0, e3, e4, hkk]
    have : k = xs.length := by omega
    subst this
    rw [ltk_all hne]
    exact hk
/-- a list that has a text. -/
def FitL (xs : List Int) : Prop := xs.length ≤ 64 ∧ ∀ x ∈ xs, -1000000000000 ≤ x ∧ x ≤ 1000000000000
theorem impl_ListText_ok {G : GH} (hL : LibG G) {A : Option Addr} {c : Nat} {xs : List Int} (h : IntS G A c xs) (hl : xs.length < 2 ^ 40) {K : Value → GH → Prop} (hy : FitL xs → K (.string ⟨(ltxt xs).toArray⟩) G) (hn : ¬ FitL xs → K (.string ⟨[].toArray⟩) G) :
    GC Tryd.prog 50 [.slice A xs.length c] G K := by
  refine GC_drop (k16 (by simp) ?_)
  have hsn := h.sn
  have r := h.rd
  have hm : (xs.any fun n => !decide (-1000000000000 ≤ n ∧ n ≤ 1000000000000)) = true ↔ ¬ ∀ x ∈ xs, -1000000000000 ≤ x ∧ x ≤ 1000000000000 := by
    rw [List.any_eq_true]
    constructor
    · rintro ⟨x, hx, h1⟩ h2
      simp [h2 x hx] at h1
    · intro h1
      apply Classical.byContradiction
      intro h2
      exact h1 fun x hx => Classical.byContradiction fun h3 => h2 ⟨x, hx, by rw [decide_eq_false h3]; rfl⟩
  by_cases h64 : (64 : Int) < xs.length
  · simp (maxSteps := 300000) (disch := omega) only [gws, ↓reduceIte, reduceEqDiff, reduceToNat, reduceMul, reduceAdd, Nat.reduceBEq, isLd, h64]
    exact ⟨G, Sub.refl _, hn fun x => by have := x.1; omega⟩
  simp (maxSteps := 300000) (disch := omega) only [gws, ↓reduceIte, reduceEqDiff, reduceToNat, reduceMul, reduceAdd, Nat.reduceBEq, isLd, h64]
  refine slices_ContainsFunc_ok (fun n => !decide (-1000000000000 ≤ n ∧ n ≤ 1000000000000)) h hl (fun i hi K' hK' => ?_) ?_
  · simp (maxSteps := 300000) (disch := omega) only [gws, ↓reduceIte, reduceEqDiff, reduceToNat, reduceMul, reduceAdd, Nat.reduceBEq, isLd]
    refine k1b (by simp) ?_
    simp (maxSteps := 300000) (disch := omega) only [gws, ↓reduceIte, reduceEqDiff, reduceToNat, reduceMul, reduceAdd, Nat.reduceBEq, isLd]
    refine k2r (by simp) ?_
    simp (maxSteps := 300000) (disch := omega) only [gws, ↓reduceIte, reduceEqDiff, reduceToNat, reduceMul, reduceAdd, Nat.reduceBEq, isLd]
    refine impl_within_ok _ _ _ ?_
    simp (maxSteps := 300000) (disch := omega) only [gws, ↓reduceIte, reduceEqDiff, reduceToNat, reduceMul, reduceAdd, Nat.reduceBEq, isLd]
    exact hK'
  cases hb : xs.any fun n => !decide (-1000000000000 ≤ n ∧ n ≤ 1000000000000)
  rotate_left
  · simp (maxSteps := 300000) (disch := omega) only [gws, ↓reduceIte, reduceEqDiff, reduceToNat, reduceMul, reduceAdd, Nat.reduceBEq, isLd]
    exact ⟨G, Sub.refl _, hn fun x => (hm.1 hb) x.2⟩
  have hF : FitL xs := ⟨by omega, Classical.byContradiction fun x => by have := hm.2 x; rw [hb] at this; cases this⟩
  have hk := hy hF
  have hr : ∀ x ∈ xs, R64 x := fun x hx => by have := hF.2 x hx; constructor <;> omega
  by_cases h0 : (xs.length : Int) = 0
  · simp (maxSteps := 300000) (disch := omega) only [gws, ↓reduceIte, reduceEqDiff, reduceToNat, reduceMul, reduceAdd, Nat.reduceBEq, isLd, eq_true h0]
    have : xs = [] := List.length_eq_zero_iff.1 (by omega)
    rw [this] at hk
    exact ⟨G, Sub.refl _, hk⟩
  have hne : xs ≠ [] := fun e => h0 (by rw [e]; rfl)
  simp (maxSteps := 300000) (disch := omega) only [gws, ↓reduceIte, reduceEqDiff, reduceToNat, reduceMul, reduceAdd, Nat.reduceBEq, isLd, h0]
  refine gLoop_intro (fun m T G' => ∃ (k : Nat) (W : Option Addr) (d : Nat), T 3 = .slice W k d ∧ T 16 = .slice A xs.length c ∧ T 17 = .int .i64 xs.length ∧ T 18 = .int .i64 k ∧ m + k = xs.length ∧ k ≤ xs.length ∧ New G G' W d (((xs.take k).map Lib.itoa).map sv) 1 k)
    xs.length ⟨0, none, 0, by simp (maxSteps := 300000) (disch := omega) only [gws, ↓reduceIte, reduceEqDiff, reduceToNat, reduceMul, reduceAdd, Nat.reduceBEq, isLd] <;> rfl, by simp (maxSteps := 300000) (disch := omega) only [gws, ↓reduceIte, reduceEqDiff, reduceToNat, reduceMul, reduceAdd, Nat.reduceBEq, isLd], by simp (maxSteps := 300000) (disch := omega) only [gws, ↓reduceIte, reduceEqDiff, reduceToNat, reduceMul, reduceAdd, Nat.reduceBEq, isLd], by simp (maxSteps := 300000) (disch := omega) only [gws, ↓reduceIte, reduceEqDiff, reduceToNat, reduceMul, reduceAdd, Nat.reduceBEq, isLd] <;> rfl, by omega, by omega, New.nil _ _⟩ ?_
  rintro m T G' ⟨k, W, d, e3, e16, e17, e18, hm', hkl, hN⟩
  by_cases hkk : (k : Int) < xs.length
  · have hR := mem_R64 hr (k := k) (by omega)
    have r' : rd G' (pa A k) = some (.int .i64 (xs.getD k 0)) := rd_sub hN.sub (h.2 k (by omega))
    simp (maxSteps := 300000) (disch := omega) only [gws, ↓reduceIte, reduceEqDiff, reduceToNat, reduceMul, reduceAdd, Nat.reduceBEq, isLd, e3, e16, e17, e18, hkk, r']
    refine impl_Decimal_ok (hL.sub hN.sub) hR.1 hR.2 ?_
    simp (maxSteps := 300000) (disch := omega) only [gws, ↓reduceIte, reduceEqDiff, reduceToNat, reduceMul, reduceAdd, Nat.reduceBEq, isLd, e3, e16, e17, e18, gBs]
    refine ⟨by intro v hv; simp at hv; subst hv; rfl, fun b hb => ?_⟩
    refine ap_new hN (Sub.put hb _) (cells_one [sv (Lib.itoa (xs.getD k 0))] true) (by rfl) (by intro v hv; simp at hv; subst hv; rfl) rfl (by omega) (by omega) (by omega) fun G4 A' c' hN' => ?_
    simp (maxSteps := 300000) (disch := omega) only [gws, ↓reduceIte, reduceEqDiff, reduceToNat, reduceMul, reduceAdd, Nat.reduceBEq, isLd, e3, e16, e17, e18]
    refine ⟨m - 1, by omega, _, Sub.refl _, k + 1, A', c', rfl, rfl, by omega, by omega, New.cast hN' ?_ rfl⟩
    rw [List.take_add_one, List.map_append, List.map_append]
    congr 1
    simp [List.getD, show k < xs.length by omega]
  · simp (maxSteps := 300000) (disch := omega) only [gws, ↓reduceIte, reduceEqDiff, reduceToNat, reduceMul, reduceAdd, Nat.reduceBEq, isLd, e3, e16, e17, e18, hkk]
    have hke : k = xs.length := by omega
    subst hke
    rw [List.take_length] at hN
    obtain ⟨b, rr, rfl, _⟩ : ∃ b r, W = some ⟨b, 0, none⟩ ∧ True := by
      rcases hN with ⟨_, _, h0', _⟩ | ⟨b, r, h1, _⟩
      · omega
      · exact ⟨b, r, h1, trivial⟩
    have hml : (xs.map Lib.itoa).length = xs.length := List.length_map ..
    have hj := ltk_len hr xs.length
    rw [ltk_all hne] at hj
    have hlt : ltxt xs = Lib.join (xs.map Lib.itoa) [44] := if_neg hne
    rw [hlt] at hj hk
    rw [show Value.slice (some ⟨b, 0, none⟩) xs.length d = .slice (some ⟨b, 0, none⟩) (xs.map Lib.itoa).length d by rw [hml]]
    refine Join_ok (xs := xs.map Lib.itoa) hN.cells (by omega) (by have := hN.cap; omega) (by omega) (by omega) ?_
    simp (maxSteps := 300000) (disch := omega) only [gws, ↓reduceIte, reduceEqDiff, reduceToNat, reduceMul, reduceAdd, Nat.reduceBEq, isLd]
    exact ⟨G, hN.sub, hk⟩
theorem laws_szInt64SS_ok {G : GH} {A : Option Addr} {c : Nat} {hs : Nat → Option Addr × Nat} {xss : List (List Int)} {left : Int} (h : RowS G A c hs xss) (h0 : 0 ≤ left ∧ left ≤ 2 ^ 20) (hn : xss.length ≤ 2 ^ 63 - 1) (hn' : ∀ i, i < xss.length → (xss.getD i []).length ≤ 2 ^ 63 - 1) {K : Value → GH → Prop}
    (hk : ∀ l : Int, -1 ≤ l → l ≤ 2 ^ 20 → (0 ≤ l → l ≤ left ∧ Sm xss) → K (.int .i64 l) G) : GC Tryd.prog 54 [.slice A xss.length c, .int .i64 left] G K := by
  refine k5a (by simp) ?_
  have hsn := h.sn
  have r := h.r
  simp (maxSteps := 300000) (disch := omega) only [gws, ↓reduceIte, reduceEqDiff, reduceToNat, reduceMul, reduceAdd, Nat.reduceBEq, isLd]
  by_cases h1 : left - (xss.length : Int) < 0
  · simp (maxSteps := 300000) (disch := omega) only [gws, ↓reduceIte, reduceEqDiff, reduceToNat, reduceMul, reduceAdd, Nat.reduceBEq, isLd, h1]; exact hk _ (by omega) (by omega) (by omega)
  simp (maxSteps := 300000) (disch := omega) only [gws, ↓reduceIte, reduceEqDiff, reduceToNat, reduceMul, reduceAdd, Nat.reduceBEq, isLd, h1]
  refine gLoop_intro (fun m T G' => ∃ (k : Nat) (l : Int), T 0 = .slice A xss.length c ∧ T 1 = .int .i64 l ∧ T 5 = .int .i64 k ∧ m + k = xss.length ∧ k ≤ xss.length ∧ G' = G ∧ (0 ≤ l ∧ l ≤ left) ∧ ∀ i, i < k → (xss.getD i []).length ≤ 2 ^ 20)
    xss.length ⟨0, _, by simp (maxSteps := 300000) (disch := omega) only [gws, ↓reduceIte, reduceEqDiff, reduceToNat, reduceMul, reduceAdd, Nat.reduceBEq, isLd], by simp (maxSteps := 300000) (disch := omega) only [gws, ↓reduceIte, reduceEqDiff, reduceToNat, reduceMul, reduceAdd, Nat.reduceBEq, isLd] <;> rfl, by simp (maxSteps := 300000) (disch := omega) only [gws, ↓reduceIte, reduceEqDiff, reduceToNat, reduceMul, reduceAdd, Nat.reduceBEq, isLd] <;> rfl, by omega, by omega, rfl, by omega, fun i hi => by omega⟩ ?_
  rintro m T G' ⟨k, l, e0, e1, e5, hm, hkl, rfl, hl, hin⟩
  simp (maxSteps := 300000) (disch := omega) only [gws, ↓reduceIte, reduceEqDiff, reduceToNat, reduceMul, reduceAdd, Nat.reduceBEq, isLd, e0, e1, e5]
  by_cases hkk : (k : Int) < xss.length
  · simp (maxSteps := 300000) (disch := omega) only [gws, ↓reduceIte, reduceEqDiff, reduceToNat, reduceMul, reduceAdd, Nat.reduceBEq, isLd, e0, e1, e5, hkk, r]
    have := hn' k (by omega)
    refine laws_szInt64S_ok ⟨by omega, by omega⟩ this fun l' q1 q2 q3 => ?_
    simp (maxSteps := 300000) (disch := omega) only [gws, ↓reduceIte, reduceEqDiff, reduceToNat, reduceMul, reduceAdd, Nat.reduceBEq, isLd, e0, e1, e5]
    by_cases h2 : l' < 0
    · simp (maxSteps := 300000) (disch := omega) only [gws, ↓reduceIte, reduceEqDiff, reduceToNat, reduceMul, reduceAdd, Nat.reduceBEq, isLd, h2]; exact hk _ (by omega) (by omega) (by omega)
    · simp (maxSteps := 300000) (disch := omega) only [gws, ↓reduceIte, reduceEqDiff, reduceToNat, reduceMul, reduceAdd, Nat.reduceBEq, isLd, h2, e0, e1, e5]
      refine ⟨m - 1, by omega, _, Sub.refl _, k + 1, l', rfl, rfl, by omega, by omega, rfl, by omega, fun i hi => ?_⟩
      by_cases hik : i = k
      · subst hik; omega
      · exact hin i (by omega)
  · simp (maxSteps := 300000) (disch := omega) only [gws, ↓reduceIte, reduceEqDiff, reduceToNat, reduceMul, reduceAdd, Nat.reduceBEq, isLd, e0, e1, e5, hkk]
    exact hk _ (by omega) (by omega) fun _ => ⟨by omega, by omega, fun i hi => hin i (by omega)⟩
theorem laws_toInt64SS_ok {G : GH} {A : Option Addr} {c : Nat} {hs : Nat → Option Addr × Nat} {xss : List (List Int)} (h : RowS G A c hs xss) (hsm : Sm xss) {K : Value → GH → Prop}
    (hk : ∀ A' hs' G', Sub G G' → RowS (rest G G') A' xss.length hs' xss → K (.slice A' xss.length xss.length) G') : GC Tryd.prog 58 [.slice A xss.length c] G K := by
  refine k67 (by simp) ?_
  have hsn := h.sn
  obtain ⟨hs1, hs2⟩ := hsm
  simp (maxSteps := 300000) (disch := omega) only [gws, ↓reduceIte, reduceEqDiff, reduceToNat, reduceMul, reduceAdd, Nat.reduceBEq, isLd]
  refine ⟨xss.length, xss.length, rfl, rfl, Nat.le_refl _, by omega, by omega, fun b hb => ?_⟩
  simp (maxSteps := 300000) (disch := omega) only [gws, ↓reduceIte, reduceEqDiff, reduceToNat, reduceMul, reduceAdd, Nat.reduceBEq, isLd]
  refine gLoop_intro (fun m T G' => ∃ (k : Nat) (bs : Nat → Nat), T 0 = .slice A xss.length c ∧ T 3 = .slice (some ⟨b, 0, none⟩) xss.length xss.length ∧ T 4 = .int .i64 k ∧ m + k = xss.length ∧ k ≤ xss.length ∧ Sub G G' ∧
    G' b = some ⟨(List.range k).map (fun i => Value.slice (some ⟨bs i, 0, none⟩) (xss.getD i []).length (xss.getD i []).length) ++ List.replicate (xss.length - k) (.slice none 0 0), true⟩ ∧ ∀ i, i < k → bs i ≠ b ∧ G (bs i) = none ∧ G' (bs i) = some ⟨(xss.getD i []).map I64, true⟩)
    xss.length ⟨0, fun _ => 0, by simp (maxSteps := 300000) (disch := omega) only [gws, ↓reduceIte, reduceEqDiff, reduceToNat, reduceMul, reduceAdd, Nat.reduceBEq, isLd], by simp (maxSteps := 300000) (disch := omega) only [gws, ↓reduceIte, reduceEqDiff, reduceToNat, reduceMul, reduceAdd, Nat.reduceBEq, isLd], by simp (maxSteps := 300000) (disch := omega) only [gws, ↓reduceIte, reduceEqDiff, reduceToNat, reduceMul, reduceAdd, Nat.reduceBEq, isLd] <;> rfl, by omega, by omega, Sub.put hb _, by rw [put_same, zc_one]; simp, fun i hi => by omega⟩ ?_
  rintro m T G' ⟨k, bs, e0, e3, e4, hm, hkl, hS, hB, hR⟩
  have hh := h.sub hS
  have r := hh.r
  simp (maxSteps := 300000) (disch := omega) only [gws, ↓reduceIte, reduceEqDiff, reduceToNat, reduceMul, reduceAdd, Nat.reduceBEq, isLd, e0, e3, e4]
  by_cases hkk : (k : Int) < xss.length
  · simp (maxSteps := 300000) (disch := omega) only [gws, ↓reduceIte, reduceEqDiff, reduceToNat, reduceMul, reduceAdd, Nat.reduceBEq, isLd, e0, e3, e4, hkk, r]
    refine laws_toInt64S_ok (hh.row k (by omega)) (hs2 k (by omega)) fun b2 hb2 => ?_
    have n2 : b ≠ b2 := fun e => by rw [e, hb2] at hB; cases hB
    simp (maxSteps := 300000) (disch := omega) only [gws, ↓reduceIte, reduceEqDiff, reduceToNat, reduceMul, reduceAdd, Nat.reduceBEq, isLd, e0, e3, e4]
    refine st_one (by rw [put_ne _ _ n2]; exact hB) (by simp; omega) rfl ?_
    simp (maxSteps := 300000) (disch := omega) only [gws, ↓reduceIte, reduceEqDiff, reduceToNat, reduceMul, reduceAdd, Nat.reduceBEq, isLd, e0, e3, e4]
    refine ⟨m - 1, by omega, _, Sub.refl _, k + 1, fun i => if i = k then b2 else bs i, rfl, by omega, by omega, (hS.trans (Sub.put hb2 _)).skip hb, ?_, fun i hi => ?_⟩
    · rw [put_same]
      congr 2
      rw [List.set_append_right _ _ (by simp)]
      simp only [List.length_map, List.length_range, Nat.sub_self]
      rw [show xss.length - k = (xss.length - (k + 1)) + 1 by omega, List.replicate_succ, List.set_cons_zero, List.range_succ, List.map_append, List.append_assoc]
      congr 1
      · exact List.map_congr_left fun i hi => by rw [if_neg (by have := List.mem_range.1 hi; omega)]
      · simp
    · dsimp only
      by_cases hik : i = k
      · subst hik
        rw [if_pos rfl]
        exact ⟨fun e => n2 e.symm, hS.none hb2, by rw [put_ne _ _ (fun e => n2 e.symm)]; exact put_same _ _ _⟩
      · rw [if_neg hik]
        obtain ⟨q1, q0, q2⟩ := hR i (by omega)
        have q3 : bs i ≠ b2 := fun e => by rw [e, hb2] at q2; cases q2
        exact ⟨q1, q0, by rw [put_ne _ _ q1, put_ne _ _ q3]; exact q2⟩
  · simp (maxSteps := 300000) (disch := omega) only [gws, ↓reduceIte, reduceEqDiff, reduceToNat, reduceMul, reduceAdd, Nat.reduceBEq, isLd, e0, e3, e4, hkk]
    obtain rfl : k = xss.length := by omega
    refine hk _ (fun i => (some ⟨bs i, 0, none⟩, (xss.getD i []).length)) _ hS ⟨Nat.le_refl _, fun i hi => ?_, fun i hi => blk_ints (rest_some.2 (hR i hi).2)⟩
    have hB' := rest_some.2 ⟨hb, hB⟩
    simp only [pa_mk, rd, hB', Option.bind_some]
    rw [Nat.zero_add, List.getElem?_append_left (by simpa using hi), range_get _ _ _ hi]
theorem laws_eqInt64SS_ok {G : GH} {A B : Option Addr} {c d : Nat} {hs hs' : Nat → Option Addr × Nat} {xs ys : List (List Int)} (h : RowS G A c hs xs) (h' : RowS G B d hs' ys) (hl : xs.length < 2 ^ 40) (hl2 : ∀ i, i < xs.length → (xs.getD i []).length < 2 ^ 40) {K : Value → GH → Prop}
    (hk : ∀ b : Bool, (b = true ↔ xs = ys) → K (.bool b) G) : GC Tryd.prog 62 [.slice A xs.length c, .slice B ys.length d] G K := by
  refine k4e (by simp) ?_
  have hsn := h.sn
  have hsn' := h'.sn
  have r := h.r
  have r' := h'.r
  simp (maxSteps := 300000) (disch := omega) only [gws, ↓reduceIte, reduceEqDiff, reduceToNat, reduceMul, reduceAdd, Nat.reduceBEq, isLd]
  by_cases hne : xs.length = ys.length
  · simp (maxSteps := 300000) (disch := omega) only [gws, ↓reduceIte, reduceEqDiff, reduceToNat, reduceMul, reduceAdd, Nat.reduceBEq, isLd, eq_true (show (xs.length : Int) = ys.length by rw [hne])]
    refine gLoop_intro (fun m T G' => ∃ k : Nat, T 0 = .slice A xs.length c ∧ T 1 = .slice B ys.length d ∧ T 5 = .int .i64 k ∧ m + k = xs.length ∧ k ≤ xs.length ∧ G' = G ∧ ∀ i, i < k → xs.getD i [] = ys.getD i []) xs.length
      ⟨0, by simp (maxSteps := 300000) (disch := omega) only [gws, ↓reduceIte, reduceEqDiff, reduceToNat, reduceMul, reduceAdd, Nat.reduceBEq, isLd], by simp (maxSteps := 300000) (disch := omega) only [gws, ↓reduceIte, reduceEqDiff, reduceToNat, reduceMul, reduceAdd, Nat.reduceBEq, isLd], by simp (maxSteps := 300000) (disch := omega) only [gws, ↓reduceIte, reduceEqDiff, reduceToNat, reduceMul, reduceAdd, Nat.reduceBEq, isLd] <;> rfl, by omega, by omega, rfl, fun i hi => by omega⟩ ?_
    rintro m T G' ⟨k, e0, e1, e5, hm, hkl, rfl, hin⟩
    simp (maxSteps := 300000) (disch := omega) only [gws, ↓reduceIte, reduceEqDiff, reduceToNat, reduceMul, reduceAdd, Nat.reduceBEq, isLd, e0, e1, e5]
    by_cases hkk : (k : Int) < xs.length
    · simp (maxSteps := 300000) (disch := omega) only [gws, ↓reduceIte, reduceEqDiff, reduceToNat, reduceMul, reduceAdd, Nat.reduceBEq, isLd, e0, e1, e5, hkk, r, r']
      refine laws_eqInt64S_ok (h.row k (by omega)) (h'.row k (by omega)) (hl2 k (by omega)) ?_
      cases g : decide (xs.getD k [] = ys.getD k [])
      · simp (maxSteps := 300000) (disch := omega) only [gws, ↓reduceIte, reduceEqDiff, reduceToNat, reduceMul, reduceAdd, Nat.reduceBEq, isLd, e0, e1, e5, hkk, r, r']
        have g := of_decide_eq_false g
        exact hk false (by simp; rintro rfl; exact g rfl)
      · simp (maxSteps := 300000) (disch := omega) only [gws, ↓reduceIte, reduceEqDiff, reduceToNat, reduceMul, reduceAdd, Nat.reduceBEq, isLd, e0, e1, e5, hkk, r, r']
        have g := of_decide_eq_true g
        refine ⟨m - 1, by omega, _, Sub.refl _, k + 1, rfl, by omega, by omega, rfl, fun i hi => ?_⟩
        by_cases hik : i = k
        · subst hik; exact g
        · exact hin i (by omega)
    · simp (maxSteps := 300000) (disch := omega) only [gws, ↓reduceIte, reduceEqDiff, reduceToNat, reduceMul, reduceAdd, Nat.reduceBEq, isLd, e0, e1, e5, hkk]
      exact hk true (by simp; exact (rows_eq_iff hne).2 fun i hi => hin i (by omega))
  · simp (maxSteps := 300000) (disch := omega) only [gws, ↓reduceIte, reduceEqDiff, reduceToNat, reduceMul, reduceAdd, Nat.reduceBEq, isLd, eq_false (show ¬ (xs.length : Int) = ys.length by omega)]
    exact hk false (by simp; rintro rfl; exact hne rfl)
theorem tab_ext (N M : Tab) : N = M ↔ N.cols = M.cols ∧ N.rows = M.rows := by cases N; cases M; simp
theorem tabC_one (N : Tab) (A : Option Addr) (c : Nat) (B : Option Addr) (d : Nat) : ∀ v ∈ tabC N A c B d, oneB v = true := by
  intro v hv; simp [tabC] at hv; rcases hv with rfl | rfl <;> rfl
theorem laws_szTable_ok {G : GH} {N : Tab} {A B : Option Addr} {c d : Nat} {hs : Nat → Option Addr × Nat} {left : Int} (h : RowS G B d hs N.rows) (h0 : 0 ≤ left ∧ left ≤ 2 ^ 20) (hc : N.cols.length ≤ 2 ^ 63 - 1) (hn : N.rows.length ≤ 2 ^ 63 - 1) (hn' : ∀ i, i < N.rows.length → (N.rows.getD i []).length ≤ 2 ^ 63 - 1) {K : Value → GH → Prop}
    (hk : ∀ l : Int, -1 ≤ l → l ≤ 2 ^ 20 → (0 ≤ l → l ≤ left ∧ N.cols.length ≤ 2 ^ 20 ∧ Sm N.rows) → K (.int .i64 l) G) : GC Tryd.prog 19 [tabV N A c B d, .int .i64 left] G K := by
  refine GC_drop (k5l (by simp) ?_)
  unfold tabV tabC
  simp (maxSteps := 300000) (disch := omega) only [gws, ↓reduceIte, reduceEqDiff, reduceToNat, reduceMul, reduceAdd, Nat.reduceBEq, isLd]
  intro b1 hb1
  have s1 := Sub.put hb1 ⟨[.slice A N.cols.length c, .slice B N.rows.length d], true⟩
  simp (maxSteps := 300000) (disch := omega) only [gws, ↓reduceIte, reduceEqDiff, reduceToNat, reduceMul, reduceAdd, Nat.reduceBEq, isLd]
  refine laws_szInt64S_ok ⟨by omega, by omega⟩ hc fun l q1 q2 q3 => ?_
  simp (maxSteps := 300000) (disch := omega) only [gws, ↓reduceIte, reduceEqDiff, reduceToNat, reduceMul, reduceAdd, Nat.reduceBEq, isLd]
  by_cases h1 : l < 0
  · simp (maxSteps := 300000) (disch := omega) only [gws, ↓reduceIte, reduceEqDiff, reduceToNat, reduceMul, reduceAdd, Nat.reduceBEq, isLd, h1]; exact ⟨G, s1, hk _ (by omega) (by omega) (by omega)⟩
  simp (maxSteps := 300000) (disch := omega) only [gws, ↓reduceIte, reduceEqDiff, reduceToNat, reduceMul, reduceAdd, Nat.reduceBEq, isLd, h1]
  refine laws_szInt64SS_ok (h.sub s1) ⟨by omega, by omega⟩ hn hn' fun l' r1 r2 r3 => ?_
  simp (maxSteps := 300000) (disch := omega) only [gws, ↓reduceIte, reduceEqDiff, reduceToNat, reduceMul, reduceAdd, Nat.reduceBEq, isLd]
  by_cases h2 : l' < 0
  · simp (maxSteps := 300000) (disch := omega) only [gws, ↓reduceIte, reduceEqDiff, reduceToNat, reduceMul, reduceAdd, Nat.reduceBEq, isLd, h2]; exact ⟨G, s1, hk _ (by omega) (by omega) (by omega)⟩
  simp (maxSteps := 300000) (disch := omega) only [gws, ↓reduceIte, reduceEqDiff, reduceToNat, reduceMul, reduceAdd, Nat.reduceBEq, isLd, h2]
  exact ⟨G, s1, hk _ (by omega) (by omega) fun _ => ⟨by have := (r3 (by omega)).1; omega, by omega, (r3 (by omega)).2⟩⟩
theorem laws_toTable_ok {G : GH} {N : Tab} {A B : Option Addr} {c d : Nat} {hs : Nat → Option Addr × Nat} (h : IntS G A c N.cols) (h' : RowS G B d hs N.rows) (hc : N.cols.length ≤ 2 ^ 20) (hsm : Sm N.rows) {K : Value → GH → Prop}
    (hk : ∀ A' B' hs' G', Sub G G' → IntS (rest G G') A' N.cols.length N.cols → RowS (rest G G') B' N.rows.length hs' N.rows → K (tabV N A' N.cols.length B' N.rows.length) G') : GC Tryd.prog 21 [tabV N A c B d] G K := by
  refine GC_drop (k6f (by simp) ?_)
  unfold tabV tabC at *
  simp (maxSteps := 300000) (disch := omega) only [gws, ↓reduceIte, reduceEqDiff, reduceToNat, reduceMul, reduceAdd, Nat.reduceBEq, isLd]
  intro b1 hb1
  simp (maxSteps := 300000) (disch := omega) only [gws, ↓reduceIte, reduceEqDiff, reduceToNat, reduceMul, reduceAdd, Nat.reduceBEq, isLd]
  intro b2 hb2
  simp (maxSteps := 300000) (disch := omega) only [gws, ↓reduceIte, reduceEqDiff, reduceToNat, reduceMul, reduceAdd, Nat.reduceBEq, isLd]
  intro b3 hb3
  simp only [put_none] at hb2 hb3
  obtain ⟨n12, f2⟩ := hb2
  obtain ⟨n23, n13, f3⟩ := hb3
  simp (maxSteps := 300000) (disch := omega) only [gws, ↓reduceIte, reduceEqDiff, reduceToNat, reduceMul, reduceAdd, Nat.reduceBEq, isLd]
  have s3 := ((((Sub.refl G).skip hb1 (e := ⟨[.slice A N.cols.length c, .slice B N.rows.length d], true⟩)).skip f2 (e := ⟨[.slice none 0 0, .slice none 0 0], true⟩)).skip f3 (e := ⟨[.slice none 0 0, .slice none 0 0], true⟩))
  refine laws_toInt64S_ok (h.sub s3) hc fun b4 hb4 => ?_
  simp only [put_none] at hb4
  obtain ⟨n34, n24, n14, f4⟩ := hb4
  simp (maxSteps := 300000) (disch := omega) only [gws, ↓reduceIte, reduceEqDiff, reduceToNat, reduceMul, reduceAdd, Nat.reduceBEq, isLd]
  refine st_one (by rw [put_ne _ _ (by omega)]; exact put_same _ _ _) (by simp) rfl ?_
  have s5 := ((s3.skip f4 (e := ⟨N.cols.map I64, true⟩)).skip f3 (e := ⟨[.slice (some ⟨b4, 0, none⟩) N.cols.length N.cols.length, .slice none 0 0], true⟩))
  simp (maxSteps := 300000) (disch := omega) only [gws, ↓reduceIte, reduceEqDiff, reduceToNat, reduceMul, reduceAdd, Nat.reduceBEq, isLd]
  refine laws_toInt64SS_ok (h'.sub s5) hsm fun B' hs' G' hS hR => ?_
  have g2 : G' b2 = some ⟨[.slice none 0 0, .slice none 0 0], true⟩ := hS _ _ (by rw [put_ne _ _ (by omega), put_ne _ _ (by omega), put_ne _ _ (by omega)]; exact put_same _ _ _)
  have g3 : G' b3 = some ⟨[.slice (some ⟨b4, 0, none⟩) N.cols.length N.cols.length, .slice none 0 0], true⟩ := hS _ _ (put_same _ _ _)
  have g4 : G' b4 = some ⟨N.cols.map I64, true⟩ := hS _ _ (by rw [put_ne _ _ (by omega)]; exact put_same _ _ _)
  simp (maxSteps := 300000) (disch := omega) only [gws, ↓reduceIte, reduceEqDiff, reduceToNat, reduceMul, reduceAdd, Nat.reduceBEq, isLd]
  refine st_one g3 (by simp) rfl ?_
  simp (maxSteps := 300000) (disch := omega) only [gws, ↓reduceIte, reduceEqDiff, reduceToNat, reduceMul, reduceAdd, Nat.reduceBEq, isLd]
  refine st_many (vs := tabC N (some ⟨b4, 0, none⟩) N.cols.length B' N.rows.length) rfl (by rw [put_ne _ _ (by omega)]; exact g2) rfl (by simp) (tabC_one _ _ _ _ _) ?_
  simp (maxSteps := 300000) (disch := omega) only [gws, ↓reduceIte, reduceEqDiff, reduceToNat, reduceMul, reduceAdd, Nat.reduceBEq, isLd, over, tabC]
  have t1 : Sub (put G b4 ⟨N.cols.map I64, true⟩) (put (put (put (put (put G b1 ⟨[.slice A N.cols.length c, .slice B N.rows.length d], true⟩) b2 ⟨[.slice none 0 0, .slice none 0 0], true⟩) b3 ⟨[.slice none 0 0, .slice none 0 0], true⟩) b4 ⟨N.cols.map I64, true⟩) b3 ⟨[.slice (some ⟨b4, 0, none⟩) N.cols.length N.cols.length, .slice none 0 0], true⟩) :=
    Sub.of_put s5 (by rw [put_ne _ _ (by omega)]; exact put_same _ _ _)
  have t0 := Sub.put f4 ⟨N.cols.map I64, true⟩
  refine ⟨join (put G b4 ⟨N.cols.map I64, true⟩) (rest _ G'), Sub.join ?_ ?_, hk (some ⟨b4, 0, none⟩) B' hs' _ (t0.trans (Sub.joinL _ _)) (blk_ints (w := true) (rest_some.2 ⟨f4, Sub.joinL _ _ _ _ (put_same _ _ _)⟩)) (hR.sub ((Sub.rest_join t1).trans (Sub.rest_anti t0)))⟩
  · exact Sub.of_put (((s5.trans hS).skip f3).skip f2) (by rw [put_ne _ _ (by omega), put_ne _ _ (by omega)]; exact g4)
  · intro x e hx
    have h1 := rest_some.1 hx
    rw [put_ne, put_ne]
    · exact h1.2
    · rintro rfl; rw [put_same] at h1; cases h1.1
    · rintro rfl; rw [put_ne _ _ (by omega), put_ne _ _ (by omega), put_ne _ _ (by omega), put_same] at h1; cases h1.1
theorem laws_toTable_ok' {G : GH} {N : Tab} {A B : Option Addr} {c d : Nat} {hs : Nat → Option Addr × Nat} (h : IntS G A c N.cols) (h' : RowS G B d hs N.rows) (hc : N.cols.length ≤ 2 ^ 20) (hsm : Sm N.rows) {K : Value → GH → Prop}
    (hk : ∀ A' B' hs' G', Sub G G' → IntS G' A' N.cols.length N.cols → RowS G' B' N.rows.length hs' N.rows → K (tabV N A' N.cols.length B' N.rows.length) G') : GC Tryd.prog 21 [tabV N A c B d] G K :=
  laws_toTable_ok h h' hc hsm fun A' B' hs' G' s q1 q2 => hk A' B' hs' G' s (q1.sub (Sub.rest _ _)) (q2.sub (Sub.rest _ _))
theorem laws_eqTable_ok {G : GH} {N M : Tab} {A B A' B' : Option Addr} {c d c' d' : Nat} {hs hs' : Nat → Option Addr × Nat} (h : IntS G A c N.cols) (h' : RowS G B d hs N.rows) (k : IntS G A' c' M.cols) (k' : RowS G B' d' hs' M.rows)
    (hl : N.cols.length < 2 ^ 40) (hl1 : N.rows.length < 2 ^ 40) (hl2 : ∀ i, i < N.rows.length → (N.rows.getD i []).length < 2 ^ 40) {K : Value → GH → Prop}
    (hk : ∀ b : Bool, (b = true ↔ N = M) → K (.bool b) G) : GC Tryd.prog 23 [tabV N A c B d, tabV M A' c' B' d'] G K := by
  refine GC_drop (k4n (by simp) ?_)
  rw [tab_ext] at hk
  unfold tabV tabC
  simp (maxSteps := 300000) (disch := omega) only [gws, ↓reduceIte, reduceEqDiff, reduceToNat, reduceMul, reduceAdd, Nat.reduceBEq, isLd]
  intro b1 hb1
  simp (maxSteps := 300000) (disch := omega) only [gws, ↓reduceIte, reduceEqDiff, reduceToNat, reduceMul, reduceAdd, Nat.reduceBEq, isLd]
  intro b2 hb2
  simp only [put_none] at hb2
  obtain ⟨n12, f2⟩ := hb2
  have s2 := ((Sub.refl G).skip hb1 (e := ⟨[.slice A N.cols.length c, .slice B N.rows.length d], true⟩)).skip f2 (e := ⟨[.slice A' M.cols.length c', .slice B' M.rows.length d'], true⟩)
  simp (maxSteps := 300000) (disch := omega) only [gws, ↓reduceIte, reduceEqDiff, reduceToNat, reduceMul, reduceAdd, Nat.reduceBEq, isLd]
  refine laws_eqInt64S_ok (h.sub s2) (k.sub s2) hl ?_
  cases g : decide (N.cols = M.cols)
  · simp (maxSteps := 300000) (disch := omega) only [gws, ↓reduceIte, reduceEqDiff, reduceToNat, reduceMul, reduceAdd, Nat.reduceBEq, isLd]
    have g := of_decide_eq_false g
    exact ⟨G, s2, hk false (by simp [g])⟩
  · have g := of_decide_eq_true g
    simp (maxSteps := 300000) (disch := omega) only [gws, ↓reduceIte, reduceEqDiff, reduceToNat, reduceMul, reduceAdd, Nat.reduceBEq, isLd]
    refine laws_eqInt64SS_ok (h'.sub s2) (k'.sub s2) hl1 hl2 fun b hb => ?_
    cases b
    · simp (maxSteps := 300000) (disch := omega) only [gws, ↓reduceIte, reduceEqDiff, reduceToNat, reduceMul, reduceAdd, Nat.reduceBEq, isLd]
      exact ⟨G, s2, hk false (by simp at hb; simp [hb])⟩
    · simp (maxSteps := 300000) (disch := omega) only [gws, ↓reduceIte, reduceEqDiff, reduceToNat, reduceMul, reduceAdd, Nat.reduceBEq, isLd]
      exact ⟨G, s2, hk true (by simp at hb; simp [hb, g])⟩
/-- a pointer to a table. -/
structure TabP (G : GH) (q : Option Addr) (N : Tab) (A : Option Addr) (c : Nat) (B : Option Addr) (d : Nat) (hs : Nat → Option Addr × Nat) : Prop where
  f0 : rd G q = some (.slice A N.cols.length c)
  f1 : rd G (pa q 1) = some (.slice B N.rows.length d)
  cols : IntS G A c N.cols
  rows : RowS G B d hs N.rows
theorem TabP.sub {G G' : GH} {q : Option Addr} {N : Tab} {A B : Option Addr} {c d : Nat} {hs : Nat → Option Addr × Nat} (h : TabP G q N A c B d hs) (s : Sub G G') : TabP G' q N A c B d hs := ⟨rd_sub s h.f0, rd_sub s h.f1, h.cols.sub s, h.rows.sub s⟩
theorem TabP.box {G : GH} {b : Nat} (hb : G b = none) {N : Tab} {A B : Option Addr} {c d : Nat} {hs : Nat → Option Addr × Nat} (h : IntS G A c N.cols) (h' : RowS G B d hs N.rows) : TabP (put G b ⟨tabC N A c B d, true⟩) (some ⟨b, 0, none⟩) N A c B d hs :=
  ⟨by rw [rd_put]; rfl, by rw [pa_mk, rd_put]; rfl, h.sub (Sub.put hb _), h'.sub (Sub.put hb _)⟩
/-- rows that are short. -/
def Sh (xss : List (List Int)) : Prop := xss.length < 2 ^ 40 ∧ ∀ i, i < xss.length → (xss.getD i []).length < 2 ^ 40
theorem Sm.sh {xss : List (List Int)} (h : Sm xss) : Sh xss := ⟨by have := h.1; omega, fun i hi => by have := h.2 i hi; omega⟩
/-- two lists of integers, compared place by place. -/
def lexC : List Int → List Int → Int
  | [], [] => 0
  | [], _ :: _ => -1
  | _ :: _, [] => 1
  | x :: xs, y :: ys => if cmp3 x y = 0 then lexC xs ys else cmp3 x y
theorem drop_cons {xs : List Int} {k : Nat} (h : k < xs.length) : xs.drop k = xs.getD k 0 :: xs.drop (k + 1) := by
  rw [List.drop_eq_getElem_cons h]; simp [List.getD, h]
theorem lexC_drop {xs ys : List Int} : ∀ k : Nat, k ≤ xs.length → k ≤ ys.length → (∀ i, i < k → xs.getD i 0 = ys.getD i 0) → lexC xs ys = lexC (xs.drop k) (ys.drop k)
  | 0, _, _, _ => by simp
  | k + 1, h1, h2, h => by
    rw [lexC_drop k (by omega) (by omega) fun i hi => h i (by omega), drop_cons (show k < xs.length by omega), drop_cons (show k < ys.length by omega)]
    have := h k (by omega)
    rw [lexC, if_pos (by rw [this]; simp [cmp3])]
theorem lexC_at {xs ys : List Int} {k : Nat} (h1 : k < xs.length) (h2 : k < ys.length) (h : ∀ i, i < k → xs.getD i 0 = ys.getD i 0) (hne : cmp3 (xs.getD k 0) (ys.getD k 0) ≠ 0) : lexC xs ys = cmp3 (xs.getD k 0) (ys.getD k 0) := by
  rw [lexC_drop k (by omega) (by omega) h, drop_cons h1, drop_cons h2, lexC, if_neg hne]
theorem lexC_end {xs ys : List Int} (h : xs.length ≤ ys.length) (he : ∀ i, i < xs.length → xs.getD i 0 = ys.getD i 0) : lexC xs ys = if xs.length < ys.length then -1 else 0 := by
  rw [lexC_drop xs.length (by omega) h he, List.drop_length]
  by_cases hl : xs.length < ys.length
  · rw [drop_cons hl, lexC, if_pos hl]
  · rw [List.drop_eq_nil_of_le (show ys.length ≤ xs.length by omega), lexC, if_neg hl]
theorem lexC_long {xs ys : List Int} (h : ys.length < xs.length) (he : ∀ i, i < ys.length → xs.getD i 0 = ys.getD i 0) : lexC xs ys = 1 := by
  rw [lexC_drop ys.length (by omega) (by omega) he, List.drop_length, drop_cons h, lexC]
theorem cmp3_zero {a b : Int} : cmp3 a b = 0 ↔ a = b := by unfold cmp3; split <;> (try split) <;> omega
theorem cmp3_neg {a b : Int} : cmp3 a b < 0 ↔ a < b := by unfold cmp3; split <;> (try split) <;> omega
theorem slices_Compare_ok {G : GH} {A B : Option Addr} {c d : Nat} {xs ys : List Int} (h : IntS G A c xs) (h' : IntS G B d ys) (hl : xs.length < 2 ^ 40) (hl' : ys.length < 2 ^ 40) {K : Value → GH → Prop}
    (hk : K (.int .i64 (lexC xs ys)) G) : GC Tryd.prog 102 [.slice A xs.length c, .slice B ys.length d] G K := by
  refine k6x (by simp) ?_
  have hsn := h.sn
  have r := h.rd
  have hsn' := h'.sn
  have r' := h'.rd
  simp (maxSteps := 300000) (disch := omega) only [gws, ↓reduceIte, reduceEqDiff, reduceToNat, reduceMul, reduceAdd, Nat.reduceBEq, isLd]
  refine gLoop_intro (fun m T G' => ∃ k : Nat, T 0 = .slice A xs.length c ∧ T 1 = .slice B ys.length d ∧ T 9 = .slice A xs.length c ∧ T 10 = .int .i64 xs.length ∧ T 11 = .int .i64 k ∧ m + k = xs.length ∧ k ≤ xs.length ∧ k ≤ ys.length ∧ G' = G ∧ ∀ i, i < k → xs.getD i 0 = ys.getD i 0) xs.length
    ⟨0, by simp (maxSteps := 300000) (disch := omega) only [gws, ↓reduceIte, reduceEqDiff, reduceToNat, reduceMul, reduceAdd, Nat.reduceBEq, isLd], by simp (maxSteps := 300000) (disch := omega) only [gws, ↓reduceIte, reduceEqDiff, reduceToNat, reduceMul, reduceAdd, Nat.reduceBEq, isLd], by simp (maxSteps := 300000) (disch := omega) only [gws, ↓reduceIte, reduceEqDiff, reduceToNat, reduceMul, reduceAdd, Nat.reduceBEq, isLd], by simp (maxSteps := 300000) (disch := omega) only [gws, ↓reduceIte, reduceEqDiff, reduceToNat, reduceMul, reduceAdd, Nat.reduceBEq, isLd], by simp (maxSteps := 300000) (disch := omega) only [gws, ↓reduceIte, reduceEqDiff, reduceToNat, reduceMul, reduceAdd, Nat.reduceBEq, isLd] <;> rfl, by omega, by omega, by omega, rfl, fun i hi => by omega⟩ ?_
  rintro m T G' ⟨k, e0, e1, e9, e10, e11, hm, hkl, hky, rfl, hin⟩
  simp (maxSteps := 300000) (disch := omega) only [gws, ↓reduceIte, reduceEqDiff, reduceToNat, reduceMul, reduceAdd, Nat.reduceBEq, isLd, e0, e1, e9, e10, e11]
  by_cases hkk : (k : Int) < xs.length
  · simp (maxSteps := 300000) (disch := omega) only [gws, ↓reduceIte, reduceEqDiff, reduceToNat, reduceMul, reduceAdd, Nat.reduceBEq, isLd, e0, e1, e9, e10, e11, hkk, r]
    by_cases hy : (ys.length : Int) ≤ k
    · simp (maxSteps := 300000) (disch := omega) only [gws, ↓reduceIte, reduceEqDiff, reduceToNat, reduceMul, reduceAdd, Nat.reduceBEq, isLd, hy, e0, e1, e9, e10, e11]
      rw [lexC_long (by omega) fun i hi => hin i (by omega)] at hk
      exact hk
    · simp (maxSteps := 300000) (disch := omega) only [gws, ↓reduceIte, reduceEqDiff, reduceToNat, reduceMul, reduceAdd, Nat.reduceBEq, isLd, hy, e0, e1, e9, e10, e11, r']
      refine cmp_Compare_ok _ _ ?_
      simp (maxSteps := 300000) (disch := omega) only [gws, ↓reduceIte, reduceEqDiff, reduceToNat, reduceMul, reduceAdd, Nat.reduceBEq, isLd, e0, e1, e9, e10, e11]
      by_cases hc : cmp3 (xs.getD k 0) (ys.getD k 0) = 0
      · simp (maxSteps := 300000) (disch := omega) only [gws, ↓reduceIte, reduceEqDiff, reduceToNat, reduceMul, reduceAdd, Nat.reduceBEq, isLd, eq_true hc, e0, e1, e9, e10, e11]
        refine ⟨m - 1, by omega, _, Sub.refl _, k + 1, rfl, by omega, by omega, by omega, rfl, fun i hi => ?_⟩
        by_cases hik : i = k
        · subst hik; exact cmp3_zero.1 hc
        · exact hin i (by omega)
      · simp (maxSteps := 300000) (disch := omega) only [gws, ↓reduceIte, reduceEqDiff, reduceToNat, reduceMul, reduceAdd, Nat.reduceBEq, isLd, eq_false hc, e0, e1, e9, e10, e11]
        rw [lexC_at (by omega) (by omega) hin hc] at hk
        exact hk
  · simp (maxSteps := 300000) (disch := omega) only [gws, ↓reduceIte, reduceEqDiff, reduceToNat, reduceMul, reduceAdd, Nat.reduceBEq, isLd, e0, e1, e9, e10, e11, hkk]
    rw [lexC_end (by omega) fun i hi => hin i (by omega)] at hk
    by_cases hlt : (xs.length : Int) < ys.length
    · simp (maxSteps := 300000) (disch := omega) only [gws, ↓reduceIte, reduceEqDiff, reduceToNat, reduceMul, reduceAdd, Nat.reduceBEq, isLd, hlt]
      rwa [if_pos (by omega)] at hk
    · simp (maxSteps := 300000) (disch := omega) only [gws, ↓reduceIte, reduceEqDiff, reduceToNat, reduceMul, reduceAdd, Nat.reduceBEq, isLd, hlt]
      rwa [if_neg (by omega)] at hk
theorem spec_l16Before_ok {G : GH} {A B : Option Addr} {c d : Nat} {xs ys : List Int} (h : IntS G A c xs) (h' : IntS G B d ys) (hl : xs.length < 2 ^ 40) (hl' : ys.length < 2 ^ 40) {K : Value → GH → Prop}
    (hk : ∀ b : Bool, (b = true ↔ lexC xs ys < 0) → K (.bool b) G) : GC Tryd.prog 99 [.slice A xs.length c, .slice B ys.length d] G K := by
  refine k9f (by simp) ?_
  have hsn := h.sn
  have r := h.rd
  have hsn' := h'.sn
  have r' := h'.rd
  simp (maxSteps := 300000) (disch := omega) only [gws, ↓reduceIte, reduceEqDiff, reduceToNat, reduceMul, reduceAdd, Nat.reduceBEq, isLd]
  refine gLoop_intro (fun m T G' => ∃ k : Nat, T 0 = .slice A xs.length c ∧ T 1 = .slice B ys.length d ∧ T 5 = .int .i64 k ∧ m + k = xs.length ∧ k ≤ xs.length ∧ k ≤ ys.length ∧ G' = G ∧ ∀ i, i < k → xs.getD i 0 = ys.getD i 0) xs.length
    ⟨0, by simp (maxSteps := 300000) (disch := omega) only [gws, ↓reduceIte, reduceEqDiff, reduceToNat, reduceMul, reduceAdd, Nat.reduceBEq, isLd], by simp (maxSteps := 300000) (disch := omega) only [gws, ↓reduceIte, reduceEqDiff, reduceToNat, reduceMul, reduceAdd, Nat.reduceBEq, isLd], by simp (maxSteps := 300000) (disch := omega) only [gws, ↓reduceIte, reduceEqDiff, reduceToNat, reduceMul, reduceAdd, Nat.reduceBEq, isLd] <;> rfl, by omega, by omega, by omega, rfl, fun i hi => by omega⟩ ?_
  rintro m T G' ⟨k, e0, e1, e5, hm, hkl, hky, rfl, hin⟩
  simp (maxSteps := 300000) (disch := omega) only [gws, ↓reduceIte, reduceEqDiff, reduceToNat, reduceMul, reduceAdd, Nat.reduceBEq, isLd, e0, e1, e5]
  by_cases hkk : (k : Int) < xs.length
  · simp (maxSteps := 300000) (disch := omega) only [gws, ↓reduceIte, reduceEqDiff, reduceToNat, reduceMul, reduceAdd, Nat.reduceBEq, isLd, e0, e1, e5, hkk]
    by_cases hy : (k : Int) < ys.length
    · simp (maxSteps := 300000) (disch := omega) only [gws, ↓reduceIte, reduceEqDiff, reduceToNat, reduceMul, reduceAdd, Nat.reduceBEq, isLd, e0, e1, e5, hy, r, r']
      by_cases hc : xs.getD k 0 = ys.getD k 0
      · simp (maxSteps := 300000) (disch := omega) only [gws, ↓reduceIte, reduceEqDiff, reduceToNat, reduceMul, reduceAdd, Nat.reduceBEq, isLd, eq_true hc, e0, e1, e5, r, r']
        refine ⟨m - 1, by omega, _, Sub.refl _, k + 1, rfl, by omega, by omega, by omega, rfl, fun i hi => ?_⟩
        by_cases hik : i = k
        · subst hik; exact hc
        · exact hin i (by omega)
      · simp (maxSteps := 300000) (disch := omega) only [gws, ↓reduceIte, reduceEqDiff, reduceToNat, reduceMul, reduceAdd, Nat.reduceBEq, isLd, eq_false hc, e0, e1, e5, r, r']
        refine hk _ ?_
        rw [lexC_at (by omega) (by omega) hin (fun h => hc (cmp3_zero.1 h)), cmp3_neg, decide_eq_true_eq]
    · simp (maxSteps := 300000) (disch := omega) only [gws, ↓reduceIte, reduceEqDiff, reduceToNat, reduceMul, reduceAdd, Nat.reduceBEq, isLd, e0, e1, e5, hy]
      refine hk _ ?_
      rw [lexC_long (by omega) fun i hi => hin i (by omega), decide_eq_true_eq]
      omega
  · simp (maxSteps := 300000) (disch := omega) only [gws, ↓reduceIte, reduceEqDiff, reduceToNat, reduceMul, reduceAdd, Nat.reduceBEq, isLd, e0, e1, e5, hkk]
    refine hk _ ?_
    rw [lexC_end (by omega) fun i hi => hin i (by omega), decide_eq_true_eq]
    split <;> omega
/-- a valid table. -/
def TabOk (t : Tab) : Prop := Rise t.cols ∧ InB t.cols 0 7 ∧ t.rows.length ≤ 24 ∧ (∀ i, i < t.rows.length → (t.rows.getD i []).length = t.cols.length ∧ InB (t.rows.getD i []) 0 3) ∧ ∀ i, i + 1 < t.rows.length → lexC (t.rows.getD i []) (t.rows.getD (i + 1) []) < 0
theorem impl_ValidTable_ok {G : GH} {N : Tab} {A B : Option Addr} {c d : Nat} {hs : Nat → Option Addr × Nat} (h : IntS G A c N.cols) (h' : RowS G B d hs N.rows) (hl : N.cols.length < 2 ^ 40) (hl1 : Sh N.rows) {K : Value → GH → Prop}
    (hk : ∀ b : Bool, (b = true ↔ TabOk N) → K (.bool b) G) : GC Tryd.prog 59 [tabV N A c B d] G K := by
  refine GC_drop (k1w (by simp) ?_)
  obtain ⟨hl2, hl3⟩ := hl1
  unfold tabV tabC
  simp (maxSteps := 300000) (disch := omega) only [gws, ↓reduceIte, reduceEqDiff, reduceToNat, reduceMul, reduceAdd, Nat.reduceBEq, isLd]
  intro b1 hb1
  simp (maxSteps := 300000) (disch := omega) only [gws, ↓reduceIte, reduceEqDiff, reduceToNat, reduceMul, reduceAdd, Nat.reduceBEq, isLd]
  have s1 := Sub.put hb1 ⟨[.slice A N.cols.length c, .slice B N.rows.length d], true⟩
  have f0 : rd (put G b1 ⟨[.slice A N.cols.length c, .slice B N.rows.length d], true⟩) (some ⟨b1, 0, none⟩) = some (.slice A N.cols.length c) := rd_box _ _ _ 0 _ rfl
  have f1 : rd (put G b1 ⟨[.slice A N.cols.length c, .slice B N.rows.length d], true⟩) (some ⟨b1, 1, none⟩) = some (.slice B N.rows.length d) := rd_box _ _ _ 1 _ rfl
  revert s1 f0 f1
  generalize put G b1 ⟨[.slice A N.cols.length c, .slice B N.rows.length d], true⟩ = G1
  intro s1 f0 f1
  have hc := h.sub s1
  have hr := h'.sub s1
  have hno : ¬ TabOk N → ∃ G'', Sub G'' G1 ∧ K (.bool false) G'' := fun hx => ⟨G, s1, hk false (by simp [hx])⟩
  refine impl_isRising_ok hc hl fun b hb => ?_
  cases b
  · simp (maxSteps := 300000) (disch := omega) only [gws, ↓reduceIte, reduceEqDiff, reduceToNat, reduceMul, reduceAdd, Nat.reduceBEq, isLd, f0, f1]
    exact hno fun hx => by simpa using hb.2 hx.1
  have hb := hb.1 rfl
  simp (maxSteps := 300000) (disch := omega) only [gws, ↓reduceIte, reduceEqDiff, reduceToNat, reduceMul, reduceAdd, Nat.reduceBEq, isLd, f0, f1]
  refine impl_areElements_ok hc hl fun b0 hb0 => ?_
  rw [show IntKind.i64.wrap (8 - 1) = 7 by decide] at hb0
  cases b0
  · simp (maxSteps := 300000) (disch := omega) only [gws, ↓reduceIte, reduceEqDiff, reduceToNat, reduceMul, reduceAdd, Nat.reduceBEq, isLd, f0, f1]
    exact hno fun hx => by simpa using hb0.2 hx.2.1
  have hb0 := hb0.1 rfl
  simp (maxSteps := 300000) (disch := omega) only [gws, ↓reduceIte, reduceEqDiff, reduceToNat, reduceMul, reduceAdd, Nat.reduceBEq, isLd, f0, f1]
  by_cases h24 : (24 : Int) < N.rows.length
  · simp (maxSteps := 300000) (disch := omega) only [gws, ↓reduceIte, reduceEqDiff, reduceToNat, reduceMul, reduceAdd, Nat.reduceBEq, isLd, h24, f0, f1]
    exact hno fun hx => by have := hx.2.2.1; omega
  simp (maxSteps := 300000) (disch := omega) only [gws, ↓reduceIte, reduceEqDiff, reduceToNat, reduceMul, reduceAdd, Nat.reduceBEq, isLd, h24, f0, f1]
  refine gLoop_intro (fun m T G' => ∃ k : Nat, T 1 = .pointer (some ⟨b1, 0, none⟩) ∧ T 22 = .slice B N.rows.length d ∧ T 23 = .int .i64 N.rows.length ∧ T 24 = .int .i64 k ∧ m + k = N.rows.length ∧ k ≤ N.rows.length ∧ G' = G1 ∧
    (∀ i, i < k → (N.rows.getD i []).length = N.cols.length ∧ InB (N.rows.getD i []) 0 3) ∧ ∀ i, i + 1 < k → lexC (N.rows.getD i []) (N.rows.getD (i + 1) []) < 0) N.rows.length
    ⟨0, by simp (maxSteps := 300000) (disch := omega) only [gws, ↓reduceIte, reduceEqDiff, reduceToNat, reduceMul, reduceAdd, Nat.reduceBEq, isLd], by simp (maxSteps := 300000) (disch := omega) only [gws, ↓reduceIte, reduceEqDiff, reduceToNat, reduceMul, reduceAdd, Nat.reduceBEq, isLd], by simp (maxSteps := 300000) (disch := omega) only [gws, ↓reduceIte, reduceEqDiff, reduceToNat, reduceMul, reduceAdd, Nat.reduceBEq, isLd], by simp (maxSteps := 300000) (disch := omega) only [gws, ↓reduceIte, reduceEqDiff, reduceToNat, reduceMul, reduceAdd, Nat.reduceBEq, isLd] <;> rfl, by omega, by omega, rfl, fun i hi => by omega, fun i hi => by omega⟩ ?_
  rintro m T G' ⟨k, e1, e22, e23, e24, hm, hkl, rfl, hin, hlt⟩
  have hsn := hr.sn
  have r := hr.r
  simp (maxSteps := 300000) (disch := omega) only [gws, ↓reduceIte, reduceEqDiff, reduceToNat, reduceMul, reduceAdd, Nat.reduceBEq, isLd, e1, e22, e23, e24]
  by_cases hkk : (k : Int) < N.rows.length
  · simp (maxSteps := 300000) (disch := omega) only [gws, ↓reduceIte, reduceEqDiff, reduceToNat, reduceMul, reduceAdd, Nat.reduceBEq, isLd, e1, e22, e23, e24, hkk, r, f0]
    by_cases hlen : ((N.rows.getD k []).length : Int) = N.cols.length
    · simp (maxSteps := 300000) (disch := omega) only [gws, ↓reduceIte, reduceEqDiff, reduceToNat, reduceMul, reduceAdd, Nat.reduceBEq, isLd, eq_true hlen, e1, e22, e23, e24]
      refine impl_areElements_ok (hr.row k (by omega)) (hl3 k (by omega)) fun b2 hb2 => ?_
      rw [show IntKind.i64.wrap (4 - 1) = 3 by decide] at hb2
      cases b2
      · simp (maxSteps := 300000) (disch := omega) only [gws, ↓reduceIte, reduceEqDiff, reduceToNat, reduceMul, reduceAdd, Nat.reduceBEq, isLd, e1, e22, e23, e24]
        exact hno fun hx => by simpa using hb2.2 (hx.2.2.2.1 k (by omega)).2
      · have hb2 := hb2.1 rfl
        have hin' : ∀ i, i < k + 1 → (N.rows.getD i []).length = N.cols.length ∧ InB (N.rows.getD i []) 0 3 := fun i hi => by
          by_cases hik : i = k
          · subst hik; exact ⟨by omega, hb2⟩
          · exact hin i (by omega)
        simp (maxSteps := 300000) (disch := omega) only [gws, ↓reduceIte, reduceEqDiff, reduceToNat, reduceMul, reduceAdd, Nat.reduceBEq, isLd, e1, e22, e23, e24]
        by_cases hk0 : (0 : Int) < k
        · simp (maxSteps := 300000) (disch := omega) only [gws, ↓reduceIte, reduceEqDiff, reduceToNat, reduceMul, reduceAdd, Nat.reduceBEq, isLd, hk0, e1, e22, e23, e24, f1, r]
          refine slices_Compare_ok (hr.row _ (by omega)) (hr.row k (by omega)) (hl3 _ (by omega)) (hl3 k (by omega)) ?_
          simp (maxSteps := 300000) (disch := omega) only [gws, ↓reduceIte, reduceEqDiff, reduceToNat, reduceMul, reduceAdd, Nat.reduceBEq, isLd, e1, e22, e23, e24, f1, r]
          by_cases hx : 0 ≤ lexC (N.rows.getD ((k : Int) - 1).toNat []) (N.rows.getD k [])
          · simp (maxSteps := 300000) (disch := omega) only [gws, ↓reduceIte, reduceEqDiff, reduceToNat, reduceMul, reduceAdd, Nat.reduceBEq, isLd, hx, e1, e22, e23, e24]
            exact hno fun hy => by
              have := hy.2.2.2.2 (k - 1) (by omega)
              rw [show k - 1 + 1 = k by omega, show k - 1 = ((k : Int) - 1).toNat by omega] at this
              omega
          · simp (maxSteps := 300000) (disch := omega) only [gws, ↓reduceIte, reduceEqDiff, reduceToNat, reduceMul, reduceAdd, Nat.reduceBEq, isLd, hx, e1, e22, e23, e24]
            refine ⟨m - 1, by omega, _, Sub.refl _, k + 1, rfl, by omega, by omega, rfl, hin', fun i hi => ?_⟩
            by_cases hik : i + 1 = k
            · rw [hik, show i = ((k : Int) - 1).toNat by omega]; omega
            · exact hlt i (by omega)
        · simp (maxSteps := 300000) (disch := omega) only [gws, ↓reduceIte, reduceEqDiff, reduceToNat, reduceMul, reduceAdd, Nat.reduceBEq, isLd, hk0, e1, e22, e23, e24]
          exact ⟨m - 1, by omega, _, Sub.refl _, k + 1, rfl, by omega, by omega, rfl, hin', fun i hi => by omega⟩
    · simp (maxSteps := 300000) (disch := omega) only [gws, ↓reduceIte, reduceEqDiff, reduceToNat, reduceMul, reduceAdd, Nat.reduceBEq, isLd, eq_false hlen, e1, e22, e23, e24]
      exact hno fun hx => hlen (by have := (hx.2.2.2.1 k (by omega)).1; omega)
  · simp (maxSteps := 300000) (disch := omega) only [gws, ↓reduceIte, reduceEqDiff, reduceToNat, reduceMul, reduceAdd, Nat.reduceBEq, isLd, e1, e22, e23, e24, hkk]
    exact ⟨G, s1, hk true (by simp; exact ⟨hb, hb0, by omega, fun i hi => hin i (by omega), fun i hi => hlt i (by omega)⟩)⟩
theorem spec_l20Ok_ok {G : GH} {q : Option Addr} {N : Tab} {A B : Option Addr} {c d : Nat} {hs : Nat → Option Addr × Nat} (h : TabP G q N A c B d hs) (hl : N.cols.length < 2 ^ 40) (hl1 : Sh N.rows) {K : Value → GH → Prop}
    (hk : ∀ b : Bool, (b = true ↔ TabOk N) → K (.bool b) G) : GC Tryd.prog 55 [.pointer q] G K := by
  refine k9y (by simp) ?_
  obtain ⟨hl2, hl3⟩ := hl1
  have hq := rd_some h.f0
  have f0 := h.f0
  have f1 := h.f1
  have hr := h.rows
  have hno : ¬ TabOk N → K (.bool false) G := fun hx => hk false (by simp [hx])
  simp (maxSteps := 300000) (disch := omega) only [gws, ↓reduceIte, reduceEqDiff, reduceToNat, reduceMul, reduceAdd, Nat.reduceBEq, isLd, f0]
  refine spec_l00Rises_ok h.cols hl fun b hb => ?_
  cases b
  · simp (maxSteps := 300000) (disch := omega) only [gws, ↓reduceIte, reduceEqDiff, reduceToNat, reduceMul, reduceAdd, Nat.reduceBEq, isLd, f0, f1]
    exact hno fun hx => by simpa using hb.2 ⟨hx.2.1, hx.1⟩
  have hb := hb.1 rfl
  simp (maxSteps := 300000) (disch := omega) only [gws, ↓reduceIte, reduceEqDiff, reduceToNat, reduceMul, reduceAdd, Nat.reduceBEq, isLd, f0, f1]
  by_cases h24 : (24 : Int) < N.rows.length
  · simp (maxSteps := 300000) (disch := omega) only [gws, ↓reduceIte, reduceEqDiff, reduceToNat, reduceMul, reduceAdd, Nat.reduceBEq, isLd, h24, f0, f1]
    exact hno fun hx => by have := hx.2.2.1; omega
  simp (maxSteps := 300000) (disch := omega) only [gws, ↓reduceIte, reduceEqDiff, reduceToNat, reduceMul, reduceAdd, Nat.reduceBEq, isLd, h24, f0, f1]
  refine gLoop_intro (fun m T G' => ∃ k : Nat, T 0 = .pointer q ∧ T 3 = .int .i64 k ∧ m + k = N.rows.length ∧ k ≤ N.rows.length ∧ G' = G ∧
    (∀ i, i < k → (N.rows.getD i []).length = N.cols.length ∧ InB (N.rows.getD i []) 0 3) ∧ ∀ i, i + 1 < k → lexC (N.rows.getD i []) (N.rows.getD (i + 1) []) < 0) N.rows.length
    ⟨0, by simp (maxSteps := 300000) (disch := omega) only [gws, ↓reduceIte, reduceEqDiff, reduceToNat, reduceMul, reduceAdd, Nat.reduceBEq, isLd], by simp (maxSteps := 300000) (disch := omega) only [gws, ↓reduceIte, reduceEqDiff, reduceToNat, reduceMul, reduceAdd, Nat.reduceBEq, isLd] <;> rfl, by omega, by omega, rfl, fun i hi => by omega, fun i hi => by omega⟩ ?_
  rintro m T G' ⟨k, e0, e3, hm, hkl, rfl, hin, hlt⟩
  have hsn := hr.sn
  have r := hr.r
  simp (maxSteps := 300000) (disch := omega) only [gws, ↓reduceIte, reduceEqDiff, reduceToNat, reduceMul, reduceAdd, Nat.reduceBEq, isLd, e0, e3, f0, f1]
  by_cases hkk : (k : Int) < N.rows.length
  · simp (maxSteps := 300000) (disch := omega) only [gws, ↓reduceIte, reduceEqDiff, reduceToNat, reduceMul, reduceAdd, Nat.reduceBEq, isLd, e0, e3, f0, f1, hkk, r]
    have inner : ((N.rows.getD k []).length = N.cols.length) → (∀ i, i + 1 < k + 1 → lexC (N.rows.getD i []) (N.rows.getD (i + 1) []) < 0) → True := fun _ _ => trivial
    by_cases hlen : ((N.rows.getD k []).length : Int) = N.cols.length
    · simp (maxSteps := 300000) (disch := omega) only [gws, ↓reduceIte, reduceEqDiff, reduceToNat, reduceMul, reduceAdd, Nat.reduceBEq, isLd, eq_true hlen, e0, e3, f0, f1, r]
      by_cases hk0 : (0 : Int) < k
      · simp (maxSteps := 300000) (disch := omega) only [gws, ↓reduceIte, reduceEqDiff, reduceToNat, reduceMul, reduceAdd, Nat.reduceBEq, isLd, hk0, e0, e3, f0, f1, r]
        refine spec_l16Before_ok (hr.row _ (by omega)) (hr.row k (by omega)) (hl3 _ (by omega)) (hl3 k (by omega)) fun b hb => ?_
        cases b
        · simp (maxSteps := 300000) (disch := omega) only [gws, ↓reduceIte, reduceEqDiff, reduceToNat, reduceMul, reduceAdd, Nat.reduceBEq, isLd, e0, e3, f0, f1, r]
          exact hno fun hy => by
            have := hy.2.2.2.2 (k - 1) (by omega)
            rw [show k - 1 + 1 = k by omega, show k - 1 = ((k : Int) - 1).toNat by omega] at this
            simpa using hb.2 this
        · have hb := hb.1 rfl
          have hlt' : ∀ i, i + 1 < k + 1 → lexC (N.rows.getD i []) (N.rows.getD (i + 1) []) < 0 := fun i hi => by
            by_cases hik : i + 1 = k
            · rw [hik, show i = ((k : Int) - 1).toNat by omega]; omega
            · exact hlt i (by omega)
          simp (maxSteps := 300000) (disch := omega) only [gws, ↓reduceIte, reduceEqDiff, reduceToNat, reduceMul, reduceAdd, Nat.reduceBEq, isLd, e0, e3, f0, f1, r]
          refine gLoop_intro (fun m' T G'' => ∃ j : Nat, T 0 = .pointer q ∧ T 3 = .int .i64 k ∧ T 4 = .int .i64 j ∧ m' + j = (N.rows.getD k []).length ∧ j ≤ (N.rows.getD k []).length ∧ G'' = G' ∧ ∀ i, i < j → 0 ≤ (N.rows.getD k []).getD i 0 ∧ (N.rows.getD k []).getD i 0 ≤ 3) (N.rows.getD k []).length
            ⟨0, by simp (maxSteps := 300000) (disch := omega) only [gws, ↓reduceIte, reduceEqDiff, reduceToNat, reduceMul, reduceAdd, Nat.reduceBEq, isLd, e0], by simp (maxSteps := 300000) (disch := omega) only [gws, ↓reduceIte, reduceEqDiff, reduceToNat, reduceMul, reduceAdd, Nat.reduceBEq, isLd, e3], by simp (maxSteps := 300000) (disch := omega) only [gws, ↓reduceIte, reduceEqDiff, reduceToNat, reduceMul, reduceAdd, Nat.reduceBEq, isLd] <;> rfl, by omega, by omega, rfl, fun i hi => by omega⟩ ?_
          rintro m' T G'' ⟨j, e0, e3, e4, hm', hjl, rfl, hje⟩
          have hrk := hr.row k (by omega)
          have rr := hrk.rd
          have hsnk := hrk.sn
          have hl3k := hl3 k (by omega)
          simp (maxSteps := 300000) (disch := omega) only [gws, ↓reduceIte, reduceEqDiff, reduceToNat, reduceMul, reduceAdd, Nat.reduceBEq, isLd, e0, e3, e4, f0, f1, r]
          by_cases hj : (j : Int) < (N.rows.getD k []).length
          · simp (maxSteps := 300000) (disch := omega) only [gws, ↓reduceIte, reduceEqDiff, reduceToNat, reduceMul, reduceAdd, Nat.reduceBEq, isLd, e0, e3, e4, f0, f1, r, hj, rr]
            refine spec_l00In_ok _ _ _ ?_
            simp (maxSteps := 300000) (disch := omega) only [gws, ↓reduceIte, reduceEqDiff, reduceToNat, reduceMul, reduceAdd, Nat.reduceBEq, isLd, e0, e3, e4]
            cases g : decide (0 ≤ (N.rows.getD k []).getD j 0 ∧ (N.rows.getD k []).getD j 0 ≤ 3)
            · simp (maxSteps := 300000) (disch := omega) only [gws, ↓reduceIte, reduceEqDiff, reduceToNat, reduceMul, reduceAdd, Nat.reduceBEq, isLd, e0, e3, e4]
              have g := of_decide_eq_false g
              exact hno fun hx => g ((hx.2.2.2.1 k (by omega)).2 j (by omega))
            · simp (maxSteps := 300000) (disch := omega) only [gws, ↓reduceIte, reduceEqDiff, reduceToNat, reduceMul, reduceAdd, Nat.reduceBEq, isLd, e0, e3, e4]
              have g := of_decide_eq_true g
              refine ⟨m' - 1, by omega, _, Sub.refl _, j + 1, rfl, by omega, by omega, rfl, fun i hi => ?_⟩
              by_cases hij : i = j
              · subst hij; exact g
              · exact hje i (by omega)
          · simp (maxSteps := 300000) (disch := omega) only [gws, ↓reduceIte, reduceEqDiff, reduceToNat, reduceMul, reduceAdd, Nat.reduceBEq, isLd, e0, e3, e4, f0, f1, r, hj]
            refine ⟨m - 1, by omega, _, Sub.refl _, k + 1, rfl, by omega, by omega, rfl, fun i hi => ?_, hlt'⟩
            by_cases hik : i = k
            · subst hik; exact ⟨by omega, fun i hi => hje i (by omega)⟩
            · exact hin i (by omega)
      · have hlt' : ∀ i, i + 1 < k + 1 → lexC (N.rows.getD i []) (N.rows.getD (i + 1) []) < 0 := fun i hi => by omega
        simp (maxSteps := 300000) (disch := omega) only [gws, ↓reduceIte, reduceEqDiff, reduceToNat, reduceMul, reduceAdd, Nat.reduceBEq, isLd, hk0, e0, e3, f0, f1, r]
        refine gLoop_intro (fun m' T G'' => ∃ j : Nat, T 0 = .pointer q ∧ T 3 = .int .i64 k ∧ T 4 = .int .i64 j ∧ m' + j = (N.rows.getD k []).length ∧ j ≤ (N.rows.getD k []).length ∧ G'' = G' ∧ ∀ i, i < j → 0 ≤ (N.rows.getD k []).getD i 0 ∧ (N.rows.getD k []).getD i 0 ≤ 3) (N.rows.getD k []).length
          ⟨0, by simp (maxSteps := 300000) (disch := omega) only [gws, ↓reduceIte, reduceEqDiff, reduceToNat, reduceMul, reduceAdd, Nat.reduceBEq, isLd, e0], by simp (maxSteps := 300000) (disch := omega) only [gws, ↓reduceIte, reduceEqDiff, reduceToNat, reduceMul, reduceAdd, Nat.reduceBEq, isLd, e3], by simp (maxSteps := 300000) (disch := omega) only [gws, ↓reduceIte, reduceEqDiff, reduceToNat, reduceMul, reduceAdd, Nat.reduceBEq, isLd] <;> rfl, by omega, by omega, rfl, fun i hi => by omega⟩ ?_
        rintro m' T G'' ⟨j, e0, e3, e4, hm', hjl, rfl, hje⟩
        have hrk := hr.row k (by omega)
        have rr := hrk.rd
        have hsnk := hrk.sn
        have hl3k := hl3 k (by omega)
        simp (maxSteps := 300000) (disch := omega) only [gws, ↓reduceIte, reduceEqDiff, reduceToNat, reduceMul, reduceAdd, Nat.reduceBEq, isLd, e0, e3, e4, f0, f1, r]
        by_cases hj : (j : Int) < (N.rows.getD k []).length
        · simp (maxSteps := 300000) (disch := omega) only [gws, ↓reduceIte, reduceEqDiff, reduceToNat, reduceMul, reduceAdd, Nat.reduceBEq, isLd, e0, e3, e4, f0, f1, r, hj, rr]
          refine spec_l00In_ok _ _ _ ?_
          simp (maxSteps := 300000) (disch := omega) only [gws, ↓reduceIte, reduceEqDiff, reduceToNat, reduceMul, reduceAdd, Nat.reduceBEq, isLd, e0, e3, e4]
          cases g : decide (0 ≤ (N.rows.getD k []).getD j 0 ∧ (N.rows.getD k []).getD j 0 ≤ 3)
          · simp (maxSteps := 300000) (disch := omega) only [gws, ↓reduceIte, reduceEqDiff, reduceToNat, reduceMul, reduceAdd, Nat.reduceBEq, isLd, e0, e3, e4]
            have g := of_decide_eq_false g
            exact hno fun hx => g ((hx.2.2.2.1 k (by omega)).2 j (by omega))
          · simp (maxSteps := 300000) (disch := omega) only [gws, ↓reduceIte, reduceEqDiff, reduceToNat, reduceMul, reduceAdd, Nat.reduceBEq, isLd, e0, e3, e4]
            have g := of_decide_eq_true g
            refine ⟨m' - 1, by omega, _, Sub.refl _, j + 1, rfl, by omega, by omega, rfl, fun i hi => ?_⟩
            by_cases hij : i = j
            · subst hij; exact g
            · exact hje i (by omega)
        · simp (maxSteps := 300000) (disch := omega) only [gws, ↓reduceIte, reduceEqDiff, reduceToNat, reduceMul, reduceAdd, Nat.reduceBEq, isLd, e0, e3, e4, f0, f1, r, hj]
          refine ⟨m - 1, by omega, _, Sub.refl _, k + 1, rfl, by omega, by omega, rfl, fun i hi => ?_, hlt'⟩
          by_cases hik : i = k
          · subst hik; exact ⟨by omega, fun i hi => hje i (by omega)⟩
          · exact hin i (by omega)
    · simp (maxSteps := 300000) (disch := omega) only [gws, ↓reduceIte, reduceEqDiff, reduceToNat, reduceMul, reduceAdd, Nat.reduceBEq, isLd, eq_false hlen, e0, e3, f0, f1, r]
      exact hno fun hx => hlen (by have := (hx.2.2.2.1 k (by omega)).1; omega)
  · simp (maxSteps := 300000) (disch := omega) only [gws, ↓reduceIte, reduceEqDiff, reduceToNat, reduceMul, reduceAdd, Nat.reduceBEq, isLd, e0, e3, f0, f1, hkk]
    exact hk true (by simp; exact ⟨hb.2, hb.1, by omega, fun i hi => hin i (by omega), fun i hi => hlt i (by omega)⟩)
/-- rows behind slashes. -/
def slk (xss : List (List Int)) (k : Nat) : List UInt8 := (xss.take k).flatMap fun xs => [47] ++ ltxt xs
theorem slk_succ {xss : List (List Int)} {k : Nat} (h : k < xss.length) : slk xss (k + 1) = slk xss k ++ ([47] ++ ltxt (xss.getD k [])) := by
  unfold slk
  rw [List.take_add_one, List.flatMap_append]
  simp [List.getD, h]
theorem fitR {xs : List Int} (h : FitL xs) : ∀ x ∈ xs, R64 x := fun x hx => by have := h.2 x hx; constructor <;> omega
theorem fit_len {xs : List Int} (h : FitL xs) : (ltxt xs).length ≤ 1345 := by
  have := ltxt_len (fitR h)
  have := h.1
  omega
theorem slk_len {xss : List (List Int)} (hf : ∀ i, i < xss.length → FitL (xss.getD i [])) : ∀ (k : Nat), k ≤ xss.length → (slk xss k).length ≤ 1346 * k
  | 0, _ => by simp [slk]
  | k + 1, h => by
    rw [slk_succ (by omega), List.length_append, List.length_append, List.length_singleton]
    have := slk_len hf k (by omega)
    have := fit_len (hf k (by omega))
    omega
def tabT (N : Tab) : List UInt8 := ltxt N.cols ++ slk N.rows N.rows.length
theorem rise_ge {xs : List Int} (h : Rise xs) (h0 : InB xs 0 7) : ∀ (i : Nat), i < xs.length → (i : Int) ≤ xs.getD i 0
  | 0, hi => (h0 0 hi).1
  | i + 1, hi => by
    have := rise_ge h h0 i (by omega)
    have := h i hi
    omega
theorem tab_cols {N : Tab} (h : TabOk N) : N.cols.length ≤ 8 := by
  rcases Nat.lt_or_ge 8 N.cols.length with h9 | h9
  · have h1 := rise_ge h.1 h.2.1 8 h9
    have := (h.2.1 8 h9).2
    omega
  · exact h9
theorem tab_F {N : Tab} (h : TabOk N) : FitL N.cols := ⟨by have := tab_cols h; omega, fun x hx => by have := inB_mem.1 h.2.1 x hx; omega⟩
theorem row_F {N : Tab} (h : TabOk N) {i : Nat} (hi : i < N.rows.length) : FitL (N.rows.getD i []) := ⟨by have := tab_cols h; have := (h.2.2.2.1 i hi).1; omega, fun x hx => by have := inB_mem.1 (h.2.2.2.1 i hi).2 x hx; omega⟩
/-- the text of a table that is valid and has columns, else none. -/
noncomputable def tableT (N : Tab) : List UInt8 := open Classical in if TabOk N ∧ N.cols ≠ [] then tabT N else []
theorem tableT_ok {N : Tab} (h : TabOk N) (h0 : N.cols ≠ []) : tableT N = tabT N := by unfold tableT; rw [if_pos ⟨h, h0⟩]
theorem tableT_no {N : Tab} (h : ¬ (TabOk N ∧ N.cols ≠ [])) : tableT N = [] := by unfold tableT; rw [if_neg h]
theorem impl_slashed_ok {G : GH} (hL : LibG G) {B : Option Addr} {d : Nat} {hs : Nat → Option Addr × Nat} {xss : List (List Int)} (h : RowS G B d hs xss) (hl : xss.length < 2 ^ 20) (hf : ∀ i, i < xss.length → FitL (xss.getD i [])) {K : Value → GH → Prop}
    (hk : K (.string ⟨(slk xss xss.length).toArray⟩) G) : GC Tryd.prog 60 [.slice B xss.length d] G K := by
  refine GC_drop (k33 (by simp) ?_)
  simp (maxSteps := 300000) (disch := omega) only [gws, ↓reduceIte, reduceEqDiff, reduceToNat, reduceMul, reduceAdd, Nat.reduceBEq, isLd]
  intro b3 hb3
  generalize hG3 : put G b3 _ = G3
  have hB0 : BldS G G3 b3 [] := by rw [← hG3]; exact BldS.start hb3
  clear hG3
  simp (maxSteps := 300000) (disch := omega) only [gws, ↓reduceIte, reduceEqDiff, reduceToNat, reduceMul, reduceAdd, Nat.reduceBEq, isLd]
  refine gLoop_intro (fun m T G' => ∃ k : Nat, T 3 = .pointer (some ⟨b3, 0, none⟩) ∧ T 6 = .slice B xss.length d ∧ T 7 = .int .i64 xss.length ∧ T 8 = .int .i64 k ∧ m + k = xss.length ∧ k ≤ xss.length ∧ BldS G G' b3 (slk xss k))
    xss.length ⟨0, by simp (maxSteps := 300000) (disch := omega) only [gws, ↓reduceIte, reduceEqDiff, reduceToNat, reduceMul, reduceAdd, Nat.reduceBEq, isLd], by simp (maxSteps := 300000) (disch := omega) only [gws, ↓reduceIte, reduceEqDiff, reduceToNat, reduceMul, reduceAdd, Nat.reduceBEq, isLd], by simp (maxSteps := 300000) (disch := omega) only [gws, ↓reduceIte, reduceEqDiff, reduceToNat, reduceMul, reduceAdd, Nat.reduceBEq, isLd], by simp (maxSteps := 300000) (disch := omega) only [gws, ↓reduceIte, reduceEqDiff, reduceToNat, reduceMul, reduceAdd, Nat.reduceBEq, isLd] <;> rfl, by omega, by omega, hB0⟩ ?_
  clear hB0
  rintro m T G' ⟨k, e3, e6, e7, e8, hm, hkl, hB⟩
  have hh := h.sub hB.sub
  have hsn := hh.sn
  have r := hh.r
  by_cases hkk : (k : Int) < xss.length
  · have lk := slk_len hf k hkl
    have lf := fit_len (hf k (by omega))
    have w1 : ([47] : List UInt8).length = 1 := rfl
    obtain ⟨X1, a1, n1, c1⟩ := cat_ex [47] (ltxt (xss.getD k [])) (by omega)
    simp (maxSteps := 300000) (disch := omega) only [gws, ↓reduceIte, reduceEqDiff, reduceToNat, reduceMul, reduceAdd, Nat.reduceBEq, isLd, e3, e6, e7, e8, hkk, r]
    refine impl_ListText_ok (hL.sub hB.sub) (hh.row k (by omega)) (by have := (hf k (by omega)).1; omega) (fun _ => ?_) (fun x => absurd (hf k (by omega)) x)
    simp (maxSteps := 300000) (disch := omega) only [gws, ↓reduceIte, reduceEqDiff, reduceToNat, reduceMul, reduceAdd, Nat.reduceBEq, isLd, e3, e6, e7, e8, c1]
    refine WriteString_ok hB (by rw [a1]; simp) (by omega) fun G8 hB8 => ?_
    have w8 : IntKind.i64.wrap ((k : Int) + 1) = ((k + 1 : Nat) : Int) := by rw [w64 _ (by omega) (by omega)]; omega
    simp (maxSteps := 300000) (disch := omega) only [gws, ↓reduceIte, reduceEqDiff, reduceToNat, reduceMul, reduceAdd, Nat.reduceBEq, isLd, e3, e6, e7, e8, w8]
    exact ⟨m - 1, by omega, G8, Sub.refl _, k + 1, rfl, by omega, by omega, by rw [slk_succ (by omega), ← a1]; exact hB8⟩
  · simp (maxSteps := 300000) (disch := omega) only [gws, ↓reduceIte, reduceEqDiff, reduceToNat, reduceMul, reduceAdd, Nat.reduceBEq, isLd, e3, e6, e7, e8, hkk]
    have : k = xss.length := by omega
    subst this
    refine String_ok hB hb3 ?_
    simp (maxSteps := 300000) (disch := omega) only [gws, ↓reduceIte, reduceEqDiff, reduceToNat, reduceMul, reduceAdd, Nat.reduceBEq, isLd]
    exact ⟨G, Sub.refl _, hk⟩
theorem impl_TableText_ok {G : GH} (hL : LibG G) {N : Tab} {A B : Option Addr} {c d : Nat} {hs : Nat → Option Addr × Nat} (h : IntS G A c N.cols) (h' : RowS G B d hs N.rows) (hl : N.cols.length < 2 ^ 40) (hl1 : Sh N.rows) {K : Value → GH → Prop}
    (hk : K (.string ⟨(tableT N).toArray⟩) G) : GC Tryd.prog 22 [tabV N A c B d] G K := by
  refine GC_drop (k1i (by simp) ?_)
  unfold tabV tabC
  simp (maxSteps := 300000) (disch := omega) only [gws, ↓reduceIte, reduceEqDiff, reduceToNat, reduceMul, reduceAdd, Nat.reduceBEq, isLd]
  intro b1 hb1
  have s1 := Sub.put hb1 ⟨[.slice A N.cols.length c, .slice B N.rows.length d], true⟩
  have f0 : rd (put G b1 ⟨[.slice A N.cols.length c, .slice B N.rows.length d], true⟩) (some ⟨b1, 0, none⟩) = some (.slice A N.cols.length c) := rd_box _ _ _ 0 _ rfl
  have f1 : rd (put G b1 ⟨[.slice A N.cols.length c, .slice B N.rows.length d], true⟩) (some ⟨b1, 1, none⟩) = some (.slice B N.rows.length d) := rd_box _ _ _ 1 _ rfl
  revert s1 f0 f1
  generalize put G b1 ⟨[.slice A N.cols.length c, .slice B N.rows.length d], true⟩ = G1
  intro s1 f0 f1
  simp (maxSteps := 300000) (disch := omega) only [gws, ↓reduceIte, reduceEqDiff, reduceToNat, reduceMul, reduceAdd, Nat.reduceBEq, isLd, f0, f1]
  refine impl_ValidTable_ok (N := N) (h.sub s1) (h'.sub s1) hl hl1 fun bb hbb => ?_
  cases bb
  · simp (maxSteps := 300000) (disch := omega) only [gws, ↓reduceIte, reduceEqDiff, reduceToNat, reduceMul, reduceAdd, Nat.reduceBEq, isLd, f0, f1]
    rw [tableT_no fun x => by have := hbb.2 x.1; cases this] at hk
    exact ⟨G, s1, hk⟩
  have hn := hbb.1 rfl
  by_cases h0 : (N.cols.length : Int) = 0
  · simp (maxSteps := 300000) (disch := omega) only [gws, ↓reduceIte, reduceEqDiff, reduceToNat, reduceMul, reduceAdd, Nat.reduceBEq, isLd, f0, f1, eq_true h0]
    rw [tableT_no fun x => x.2 (List.length_eq_zero_iff.1 (by omega))] at hk
    exact ⟨G, s1, hk⟩
  have hne : N.cols ≠ [] := fun e => h0 (by rw [e]; rfl)
  rw [tableT_ok hn hne] at hk
  have lf := fit_len (tab_F hn)
  have ls := slk_len (fun i hi => row_F hn hi) N.rows.length (Nat.le_refl _)
  have hn3 := hn.2.2.1
  obtain ⟨X1, a1, n1, c1⟩ := cat_ex (ltxt N.cols) (slk N.rows N.rows.length) (by omega)
  simp (maxSteps := 300000) (disch := omega) only [gws, ↓reduceIte, reduceEqDiff, reduceToNat, reduceMul, reduceAdd, Nat.reduceBEq, isLd, f0, f1, eq_false h0]
  refine impl_ListText_ok (hL.sub s1) (h.sub s1) hl (fun _ => ?_) (fun x => absurd (tab_F hn) x)
  simp (maxSteps := 300000) (disch := omega) only [gws, ↓reduceIte, reduceEqDiff, reduceToNat, reduceMul, reduceAdd, Nat.reduceBEq, isLd, f0, f1]
  refine impl_slashed_ok (hL.sub s1) (h'.sub s1) (by omega) (fun i hi => row_F hn hi) ?_
  simp (maxSteps := 300000) (disch := omega) only [gws, ↓reduceIte, reduceEqDiff, reduceToNat, reduceMul, reduceAdd, Nat.reduceBEq, isLd, f0, f1, c1]
  rw [show tabT N = X1 from a1.symm] at hk
  exact ⟨G, s1, hk⟩
theorem spec_l20Text_ok {G : GH} {q : Option Addr} {N : Tab} {A B : Option Addr} {c d : Nat} {hs : Nat → Option Addr × Nat} (h : TabP G q N A c B d hs) (hn : TabOk N) {K : Value → GH → Prop} (hk : K (.string ⟨(tabT N).toArray⟩) G) : GC Tryd.prog 56 [.pointer q] G K := by
  refine ka9 (by simp) ?_
  have hq := rd_some h.f0
  have f0 := h.f0
  have f1 := h.f1
  have hr := h.rows
  have hsn := hr.sn
  have r := hr.r
  have hn3 := hn.2.2.1
  have lf := fit_len (tab_F hn)
  simp (maxSteps := 300000) (disch := omega) only [gws, ↓reduceIte, reduceEqDiff, reduceToNat, reduceMul, reduceAdd, Nat.reduceBEq, isLd, f0]
  refine spec_l01List_ok h.cols (fitR (tab_F hn)) (by have := (tab_F hn).1; omega) ?_
  simp (maxSteps := 300000) (disch := omega) only [gws, ↓reduceIte, reduceEqDiff, reduceToNat, reduceMul, reduceAdd, Nat.reduceBEq, isLd]
  refine gLoop_intro (fun m T G' => ∃ k : Nat, T 0 = .pointer q ∧ T 3 = .string ⟨(ltxt N.cols ++ slk N.rows k).toArray⟩ ∧ T 4 = .int .i64 k ∧ m + k = N.rows.length ∧ k ≤ N.rows.length ∧ G' = G)
    N.rows.length ⟨0, by simp (maxSteps := 300000) (disch := omega) only [gws, ↓reduceIte, reduceEqDiff, reduceToNat, reduceMul, reduceAdd, Nat.reduceBEq, isLd], by simp (maxSteps := 300000) (disch := omega) only [gws, ↓reduceIte, reduceEqDiff, reduceToNat, reduceMul, reduceAdd, Nat.reduceBEq, isLd] <;> simp [slk], by simp (maxSteps := 300000) (disch := omega) only [gws, ↓reduceIte, reduceEqDiff, reduceToNat, reduceMul, reduceAdd, Nat.reduceBEq, isLd] <;> rfl, by omega, by omega, rfl⟩ ?_
  rintro m T G' ⟨k, e0, e3, e4, hm, hkl, rfl⟩
  simp (maxSteps := 300000) (disch := omega) only [gws, ↓reduceIte, reduceEqDiff, reduceToNat, reduceMul, reduceAdd, Nat.reduceBEq, isLd, e0, e3, e4, f1]
  by_cases hkk : (k : Int) < N.rows.length
  · have lk := slk_len (fun i hi => row_F hn hi) k hkl
    have lr := fit_len (row_F hn (i := k) (by omega))
    have w1 : ([47] : List UInt8).length = 1 := rfl
    obtain ⟨X1, a1, n1, c1⟩ := cat_ex [47] (ltxt (N.rows.getD k [])) (by omega)
    obtain ⟨X2, a2, n2, c2⟩ := cat_ex (ltxt N.cols ++ slk N.rows k) X1 (by rw [List.length_append]; omega)
    simp (maxSteps := 300000) (disch := omega) only [gws, ↓reduceIte, reduceEqDiff, reduceToNat, reduceMul, reduceAdd, Nat.reduceBEq, isLd, e0, e3, e4, f1, hkk, r]
    refine spec_l01List_ok (hr.row k (by omega)) (fitR (row_F hn (by omega))) (by have := (row_F hn (i := k) (by omega)).1; omega) ?_
    simp (maxSteps := 300000) (disch := omega) only [gws, ↓reduceIte, reduceEqDiff, reduceToNat, reduceMul, reduceAdd, Nat.reduceBEq, isLd, e0, e3, e4, c1, c2]
    exact ⟨m - 1, by omega, G', Sub.refl _, k + 1, by rw [a2, a1, slk_succ (by omega), List.append_assoc], rfl, by omega, by omega, rfl⟩
  · simp (maxSteps := 300000) (disch := omega) only [gws, ↓reduceIte, reduceEqDiff, reduceToNat, reduceMul, reduceAdd, Nat.reduceBEq, isLd, e0, e3, e4, hkk]
    have : k = N.rows.length := by omega
    subst this
    exact hk
theorem spec_TableText_ok {G : GH} {N : Tab} {A B : Option Addr} {c d : Nat} {hs : Nat → Option Addr × Nat} (h : IntS G A c N.cols) (h' : RowS G B d hs N.rows) (hl : N.cols.length < 2 ^ 40) (hl1 : Sh N.rows) {K : Value → GH → Prop}
    (hk : K (.string ⟨(tableT N).toArray⟩) G) : GC Tryd.prog 20 [tabV N A c B d] G K := by
  refine GC_drop (k7l (by simp) ?_)
  unfold tabV
  simp (maxSteps := 300000) (disch := omega) only [gws, ↓reduceIte, reduceEqDiff, reduceToNat, reduceMul, reduceAdd, Nat.reduceBEq, isLd]
  intro b1 hb1
  have hP := TabP.box hb1 h h'
  have s1 := Sub.put hb1 ⟨tabC N A c B d, true⟩
  revert hP s1
  generalize put G b1 ⟨tabC N A c B d, true⟩ = G1
  intro hP s1
  have f0 := hP.f0
  simp (maxSteps := 300000) (disch := omega) only [gws, ↓reduceIte, reduceEqDiff, reduceToNat, reduceMul, reduceAdd, Nat.reduceBEq, isLd, f0]
  refine spec_l20Ok_ok hP hl hl1 fun bb hbb => ?_
  cases bb
  · simp (maxSteps := 300000) (disch := omega) only [gws, ↓reduceIte, reduceEqDiff, reduceToNat, reduceMul, reduceAdd, Nat.reduceBEq, isLd, f0]
    rw [tableT_no fun x => by have := hbb.2 x.1; cases this] at hk
    exact ⟨G, s1, hk⟩
  have hn := hbb.1 rfl
  by_cases h0 : (N.cols.length : Int) = 0
  · simp (maxSteps := 300000) (disch := omega) only [gws, ↓reduceIte, reduceEqDiff, reduceToNat, reduceMul, reduceAdd, Nat.reduceBEq, isLd, f0, eq_true h0]
    rw [tableT_no fun x => x.2 (List.length_eq_zero_iff.1 (by omega))] at hk
    exact ⟨G, s1, hk⟩
  have hne : N.cols ≠ [] := fun e => h0 (by rw [e]; rfl)
  rw [tableT_ok hn hne] at hk
  simp (maxSteps := 300000) (disch := omega) only [gws, ↓reduceIte, reduceEqDiff, reduceToNat, reduceMul, reduceAdd, Nat.reduceBEq, isLd, f0, eq_false h0]
  refine spec_l20Text_ok hP hn ?_
  simp (maxSteps := 300000) (disch := omega) only [gws, ↓reduceIte, reduceEqDiff, reduceToNat, reduceMul, reduceAdd, Nat.reduceBEq, isLd]
  exact ⟨G, s1, hk⟩
theorem law_TableText {G : GH} (hL : LibG G) {v0 : Value} {x0 : Tab} (h0 : TableV G v0 x0) : GC Tryd.prog 5 [v0] G fun v _ => v = .bool true := by
  obtain ⟨A0, c0, B0, d0, H0, rfl, h0, k0, l0, m0, n0, e0, ee0⟩ := h0
  refine k3o (by simp) ?_
  unfold tabV tabC
  simp (maxSteps := 300000) (disch := omega) only [gws, ↓reduceIte, reduceEqDiff, reduceToNat, reduceMul, reduceAdd, Nat.reduceBEq, isLd]
  intro p0 hp0
  generalize hG1 : put G p0 ⟨[.slice A0 x0.cols.length c0, .slice B0 x0.rows.length d0], true⟩ = G1
  have s1 : Sub G G1 := hG1 ▸ Sub.put hp0 _
  have hL := hL.sub s1
  have h0 := h0.sub s1
  have k0 := k0.sub s1
  have fa0_0 : rd G1 (some ⟨p0, 0, none⟩) = some (.slice A0 x0.cols.length c0) := by rw [← hG1]; exact rd_box _ _ _ 0 _ rfl
  have fa0_1 : rd G1 (some ⟨p0, 1, none⟩) = some (.slice B0 x0.rows.length d0) := by rw [← hG1]; exact rd_box _ _ _ 1 _ rfl
  simp (maxSteps := 300000) (disch := omega) only [gws, ↓reduceIte, reduceEqDiff, reduceToNat, reduceMul, reduceAdd, Nat.reduceBEq, isLd, fa0_0, fa0_1]
  refine laws_szTable_ok (N := x0) k0 ⟨by omega, by omega⟩ l0 m0 n0 fun q0 q0a q0b q0c => ?_
  simp (maxSteps := 300000) (disch := omega) only [gws, ↓reduceIte, reduceEqDiff, reduceToNat, reduceMul, reduceAdd, Nat.reduceBEq, isLd, fa0_0, fa0_1]
  by_cases g0 : q0 < 0
  · simp (maxSteps := 300000) (disch := omega) only [gws, ↓reduceIte, reduceEqDiff, reduceToNat, reduceMul, reduceAdd, Nat.reduceBEq, isLd, g0, fa0_0, fa0_1]
  simp (maxSteps := 300000) (disch := omega) only [gws, ↓reduceIte, reduceEqDiff, reduceToNat, reduceMul, reduceAdd, Nat.reduceBEq, isLd, g0, fa0_0, fa0_1]
  obtain ⟨y0, w0, z0⟩ := q0c (by omega)
  refine laws_toTable_ok' (N := x0) h0 k0 (by omega) z0 fun As0 Bs0 Hs0 G2 s2 hs0 ks0 => ?_
  have hL := hL.sub s2
  have h0 := h0.sub s2
  have k0 := k0.sub s2
  have fa0_0 := rd_sub s2 fa0_0
  have fa0_1 := rd_sub s2 fa0_1
  simp (maxSteps := 300000) (disch := omega) only [gws, ↓reduceIte, reduceEqDiff, reduceToNat, reduceMul, reduceAdd, Nat.reduceBEq, isLd, fa0_0, fa0_1]
  refine spec_TableText_ok hs0 ks0 (by omega) z0.sh ?_
  simp (maxSteps := 300000) (disch := omega) only [gws, ↓reduceIte, reduceEqDiff, reduceToNat, reduceMul, reduceAdd, Nat.reduceBEq, isLd, fa0_0, fa0_1]
  refine laws_toTable_ok' (N := x0) h0 k0 (by omega) z0 fun Ai0 Bi0 Hi0 G3 s3 hi0 ki0 => ?_
  have hL := hL.sub s3
  have h0 := h0.sub s3
  have k0 := k0.sub s3
  have hs0 := hs0.sub s3
  have ks0 := ks0.sub s3
  have fa0_0 := rd_sub s3 fa0_0
  have fa0_1 := rd_sub s3 fa0_1
  simp (maxSteps := 300000) (disch := omega) only [gws, ↓reduceIte, reduceEqDiff, reduceToNat, reduceMul, reduceAdd, Nat.reduceBEq, isLd, fa0_0, fa0_1]
  intro p1 hp1
  simp (maxSteps := 300000) (disch := omega) only [gws, ↓reduceIte, reduceEqDiff, reduceToNat, reduceMul, reduceAdd, Nat.reduceBEq, isLd, fa0_0, fa0_1]
  refine st_fresh (vs := [.slice Ai0 x0.cols.length x0.cols.length, .slice Bi0 x0.rows.length x0.rows.length]) rfl rfl rfl (by intro v hv; simp only [List.mem_cons, List.not_mem_nil, or_false] at hv; rcases hv with rfl | rfl <;> rfl) ?_
  generalize hG4 : put G3 p1 ⟨[.slice Ai0 x0.cols.length x0.cols.length, .slice Bi0 x0.rows.length x0.rows.length], true⟩ = G4
  have s4 : Sub G3 G4 := hG4 ▸ Sub.put hp1 _
  have hL := hL.sub s4
  have h0 := h0.sub s4
  have k0 := k0.sub s4
  have hs0 := hs0.sub s4
  have ks0 := ks0.sub s4
  have hi0 := hi0.sub s4
  have ki0 := ki0.sub s4
  have fa0_0 := rd_sub s4 fa0_0
  have fa0_1 := rd_sub s4 fa0_1
  have fi0_0 : rd G4 (some ⟨p1, 0, none⟩) = some (.slice Ai0 x0.cols.length x0.cols.length) := by rw [← hG4]; exact rd_box _ _ _ 0 _ rfl
  have fi0_1 : rd G4 (some ⟨p1, 1, none⟩) = some (.slice Bi0 x0.rows.length x0.rows.length) := by rw [← hG4]; exact rd_box _ _ _ 1 _ rfl
  simp (maxSteps := 300000) (disch := omega) only [gws, ↓reduceIte, reduceEqDiff, reduceToNat, reduceMul, reduceAdd, Nat.reduceBEq, isLd, fa0_0, fa0_1, fi0_0, fi0_1]
  refine impl_TableText_ok hL hi0 ki0 (by omega) z0.sh ?_
  simp (maxSteps := 300000) (disch := omega) only [gws, ↓reduceIte, reduceEqDiff, reduceToNat, reduceMul, reduceAdd, Nat.reduceBEq, isLd, seq_ne, ne_eq, eq_self, fa0_0, fa0_1, fi0_0, fi0_1]
  refine laws_toTable_ok' (N := x0) h0 k0 (by omega) z0 fun Ae0 Be0 He0 G5 s5 he0 ke0 => ?_
  have hL := hL.sub s5
  have h0 := h0.sub s5
  have k0 := k0.sub s5
  have hs0 := hs0.sub s5
  have ks0 := ks0.sub s5
  have hi0 := hi0.sub s5
  have ki0 := ki0.sub s5
  have fa0_0 := rd_sub s5 fa0_0
  have fa0_1 := rd_sub s5 fa0_1
  have fi0_0 := rd_sub s5 fi0_0
  have fi0_1 := rd_sub s5 fi0_1
  simp (maxSteps := 300000) (disch := omega) only [gws, ↓reduceIte, reduceEqDiff, reduceToNat, reduceMul, reduceAdd, Nat.reduceBEq, isLd, fa0_0, fa0_1, fi0_0, fi0_1]
  refine laws_eqTable_ok (N := x0) (M := x0) hi0 ki0 he0 ke0 (by omega) z0.sh.1 z0.sh.2 fun b hb => ?_
  obtain rfl : b = true := hb.2 rfl
  simp (maxSteps := 300000) (disch := omega) only [gws, ↓reduceIte, reduceEqDiff, reduceToNat, reduceMul, reduceAdd, Nat.reduceBEq, isLd, fa0_0, fa0_1, fi0_0, fi0_1]

end Go.Proofs.YtnaoeggecibkmaaDoor.Gh
