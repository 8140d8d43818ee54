/- What the functions that the law HarmonicModulo reaches return, and the law; it stands under no condition. -/
import Derived.Test.YtmlkgpoakkgjbaaYHarmonicModulob
namespace Go.Proofs.Ytmlkgpoakkgjbaa.Gh
open Go Go.RowKit Go.Proofs
set_option linter.unusedVariables false
set_option linter.unusedSimpArgs false
set_option maxHeartbeats 4000000

theorem impl_ValidPrime_ok {p : Int} {G : GH} {K : Value → GH → Prop} (hk : ∀ b : Bool, (b = true ↔ PrimeP p) → K (.bool b) G) : GC Try.prog 225 [.int .i64 p] G K := by
  refine c_impl_ValidPrime_i (by simp) ?_
  simp (maxSteps := 300000) (disch := omega) only [gs, gs2, gs3, gs4, ↓reduceIte, Nat.reduceEqDiff, Int.reduceToNat, Nat.reduceMul, Nat.reduceAdd, Nat.reduceBEq, isLd]
  refine impl_within_ok _ _ _ ?_
  simp (maxSteps := 300000) (disch := omega) only [gs, gs2, gs3, gs4, ↓reduceIte, Nat.reduceEqDiff, Int.reduceToNat, Nat.reduceMul, Nat.reduceAdd, Nat.reduceBEq, isLd]
  by_cases h1 : 2 ≤ p ∧ p ≤ 251
  rotate_left
  · rw [decide_eq_false h1]
    simp (maxSteps := 300000) (disch := omega) only [gs, gs2, gs3, gs4, ↓reduceIte, Nat.reduceEqDiff, Int.reduceToNat, Nat.reduceMul, Nat.reduceAdd, Nat.reduceBEq, isLd]
    exact hk false ⟨fun x => (by cases x), fun x => absurd x.1 h1⟩
  rw [decide_eq_true h1]
  simp (maxSteps := 300000) (disch := omega) only [gs, gs2, gs3, gs4, ↓reduceIte, Nat.reduceEqDiff, Int.reduceToNat, Nat.reduceMul, Nat.reduceAdd, Nat.reduceBEq, isLd]
  refine gLoop_intro (fun m T G' => ∃ d : Int, T 0 = .int .i64 p ∧ T 3 = .int .i64 d ∧ m = (20 - d).toNat ∧ 2 ≤ d ∧ d ≤ 16 ∧ G = G' ∧ ∀ k : Int, 2 ≤ k → k < d → p % k ≠ 0)
    18 ⟨2, by simp (maxSteps := 300000) (disch := omega) only [gs, gs2, gs3, gs4, ↓reduceIte, Nat.reduceEqDiff, Int.reduceToNat, Nat.reduceMul, Nat.reduceAdd, Nat.reduceBEq, isLd], by simp (maxSteps := 300000) (disch := omega) only [gs, gs2, gs3, gs4, ↓reduceIte, Nat.reduceEqDiff, Int.reduceToNat, Nat.reduceMul, Nat.reduceAdd, Nat.reduceBEq, isLd], rfl, by omega, by omega, rfl, fun k h1 h2 => by omega⟩ ?_
  rintro m T G' ⟨d, e0, e3, rfl, hd, hd2, rfl, hno⟩
  have hmm := mulB (a := d) (b := d) (A := 16) (B := 16) (by omega) (by omega)
  have w1 := w64 (d * d) (by omega) (by omega)
  have hrm : p.tmod d = p % d := Int.tmod_eq_emod_of_nonneg (by omega)
  simp (maxSteps := 300000) (disch := omega) only [gs, gs2, gs3, gs4, ↓reduceIte, Nat.reduceEqDiff, Int.reduceToNat, Nat.reduceMul, Nat.reduceAdd, Nat.reduceBEq, isLd, e0, e3, w1]
  by_cases hdp : d * d ≤ p
  · have hd15 := sq_small (by omega) hdp h1.2
    simp (maxSteps := 300000) (disch := omega) only [gs, gs2, gs3, gs4, ↓reduceIte, Nat.reduceEqDiff, Int.reduceToNat, Nat.reduceMul, Nat.reduceAdd, Nat.reduceBEq, isLd, e0, e3, w1, hdp, bin_rem .i64 p d (by omega), hrm]
    by_cases hz : p % d = 0
    · simp (maxSteps := 300000) (disch := omega) only [gs, gs2, gs3, gs4, ↓reduceIte, Nat.reduceEqDiff, Int.reduceToNat, Nat.reduceMul, Nat.reduceAdd, Nat.reduceBEq, isLd, e0, e3, eq_true hz]
      exact hk false ⟨fun x => (by cases x), fun x => absurd hz (x.2 d hd hdp)⟩
    · simp (maxSteps := 300000) (disch := omega) only [gs, gs2, gs3, gs4, ↓reduceIte, Nat.reduceEqDiff, Int.reduceToNat, Nat.reduceMul, Nat.reduceAdd, Nat.reduceBEq, isLd, e0, e3, eq_false hz]
      exact ⟨(20 - (d + 1)).toNat, by omega, G, Sub.refl _, d + 1, rfl, rfl, by omega, by omega, rfl, fun k k1 k2 => by
        by_cases e : k = d
        · rw [e]; exact hz
        · exact hno k k1 (by omega)⟩
  · simp (maxSteps := 300000) (disch := omega) only [gs, gs2, gs3, gs4, ↓reduceIte, Nat.reduceEqDiff, Int.reduceToNat, Nat.reduceMul, Nat.reduceAdd, Nat.reduceBEq, isLd, e0, e3, w1, hdp]
    exact hk true ⟨fun _ => ⟨h1, fun k k1 k2 => by
      by_cases e : k < d
      · exact hno k k1 e
      · exact absurd k2 (sq_big (by omega) (by omega) hdp)⟩, fun _ => rfl⟩
theorem spec_l02Prime_ok {p : Int} {G : GH} {K : Value → GH → Prop} (hk : ∀ b : Bool, (b = true ↔ PrimeP p) → K (.bool b) G) : GC Try.prog 158 [.int .i64 p] G K := by
  refine c_spec_l02Prime_i (by simp) ?_
  simp (maxSteps := 300000) (disch := omega) only [gs, gs2, gs3, gs4, ↓reduceIte, Nat.reduceEqDiff, Int.reduceToNat, Nat.reduceMul, Nat.reduceAdd, Nat.reduceBEq, isLd]
  refine spec_l00In_ok _ _ _ ?_
  simp (maxSteps := 300000) (disch := omega) only [gs, gs2, gs3, gs4, ↓reduceIte, Nat.reduceEqDiff, Int.reduceToNat, Nat.reduceMul, Nat.reduceAdd, Nat.reduceBEq, isLd]
  by_cases h1 : 2 ≤ p ∧ p ≤ 251
  rotate_left
  · rw [decide_eq_false h1]
    simp (maxSteps := 300000) (disch := omega) only [gs, gs2, gs3, gs4, ↓reduceIte, Nat.reduceEqDiff, Int.reduceToNat, Nat.reduceMul, Nat.reduceAdd, Nat.reduceBEq, isLd]
    exact hk false ⟨fun x => (by cases x), fun x => absurd x.1 h1⟩
  rw [decide_eq_true h1]
  simp (maxSteps := 300000) (disch := omega) only [gs, gs2, gs3, gs4, ↓reduceIte, Nat.reduceEqDiff, Int.reduceToNat, Nat.reduceMul, Nat.reduceAdd, Nat.reduceBEq, isLd]
  refine gLoop_intro (fun m T G' => ∃ d : Int, T 0 = .int .i64 p ∧ T 3 = .int .i64 d ∧ m = (20 - d).toNat ∧ 2 ≤ d ∧ d ≤ 16 ∧ G = G' ∧ ∀ k : Int, 2 ≤ k → k < d → p % k ≠ 0)
    18 ⟨2, by simp (maxSteps := 300000) (disch := omega) only [gs, gs2, gs3, gs4, ↓reduceIte, Nat.reduceEqDiff, Int.reduceToNat, Nat.reduceMul, Nat.reduceAdd, Nat.reduceBEq, isLd], by simp (maxSteps := 300000) (disch := omega) only [gs, gs2, gs3, gs4, ↓reduceIte, Nat.reduceEqDiff, Int.reduceToNat, Nat.reduceMul, Nat.reduceAdd, Nat.reduceBEq, isLd], rfl, by omega, by omega, rfl, fun k h1 h2 => by omega⟩ ?_
  rintro m T G' ⟨d, e0, e3, rfl, hd, hd2, rfl, hno⟩
  have hmm := mulB (a := d) (b := d) (A := 16) (B := 16) (by omega) (by omega)
  have w1 := w64 (d * d) (by omega) (by omega)
  have hrm : p.tmod d = p % d := Int.tmod_eq_emod_of_nonneg (by omega)
  simp (maxSteps := 300000) (disch := omega) only [gs, gs2, gs3, gs4, ↓reduceIte, Nat.reduceEqDiff, Int.reduceToNat, Nat.reduceMul, Nat.reduceAdd, Nat.reduceBEq, isLd, e0, e3, w1]
  by_cases hdp : d * d ≤ p
  · have hd15 := sq_small (by omega) hdp h1.2
    simp (maxSteps := 300000) (disch := omega) only [gs, gs2, gs3, gs4, ↓reduceIte, Nat.reduceEqDiff, Int.reduceToNat, Nat.reduceMul, Nat.reduceAdd, Nat.reduceBEq, isLd, e0, e3, w1, hdp, bin_rem .i64 p d (by omega), hrm]
    by_cases hz : p % d = 0
    · simp (maxSteps := 300000) (disch := omega) only [gs, gs2, gs3, gs4, ↓reduceIte, Nat.reduceEqDiff, Int.reduceToNat, Nat.reduceMul, Nat.reduceAdd, Nat.reduceBEq, isLd, e0, e3, eq_true hz]
      exact hk false ⟨fun x => (by cases x), fun x => absurd hz (x.2 d hd hdp)⟩
    · simp (maxSteps := 300000) (disch := omega) only [gs, gs2, gs3, gs4, ↓reduceIte, Nat.reduceEqDiff, Int.reduceToNat, Nat.reduceMul, Nat.reduceAdd, Nat.reduceBEq, isLd, e0, e3, eq_false hz]
      exact ⟨(20 - (d + 1)).toNat, by omega, G, Sub.refl _, d + 1, rfl, rfl, by omega, by omega, rfl, fun k k1 k2 => by
        by_cases e : k = d
        · rw [e]; exact hz
        · exact hno k k1 (by omega)⟩
  · simp (maxSteps := 300000) (disch := omega) only [gs, gs2, gs3, gs4, ↓reduceIte, Nat.reduceEqDiff, Int.reduceToNat, Nat.reduceMul, Nat.reduceAdd, Nat.reduceBEq, isLd, e0, e3, w1, hdp]
    exact hk true ⟨fun _ => ⟨h1, fun k k1 k2 => by
      by_cases e : k < d
      · exact hno k k1 e
      · exact absurd k2 (sq_big (by omega) (by omega) hdp)⟩, fun _ => rfl⟩
theorem spec_l03Inverse_ok {a p : Int} (ha : 0 ≤ a ∧ a ≤ 2 ^ 20) (hp : 1 < p ∧ p ≤ 251) {G : GH} {K : Value → GH → Prop} (hk : K (.int .i64 (invF a p)) G) : GC Try.prog 250 [.int .i64 a, .int .i64 p] G K := by
  refine c_spec_l03Inverse_i (by simp) ?_
  simp (maxSteps := 300000) (disch := omega) only [gs, gs2, gs3, gs4, ↓reduceIte, Nat.reduceEqDiff, Int.reduceToNat, Nat.reduceMul, Nat.reduceAdd, Nat.reduceBEq, isLd]
  refine gLoop_intro (fun m T G' => ∃ k : Nat, T 0 = .int .i64 a ∧ T 1 = .int .i64 p ∧ T 5 = .int .i64 (pw a p k) ∧ T 6 = .int .i64 (p - 2 - k) ∧ m + k = (p - 2).toNat ∧ k ≤ (p - 2).toNat ∧ G = G')
    (p - 2).toNat ⟨0, by simp (maxSteps := 300000) (disch := omega) only [gs, gs2, gs3, gs4, ↓reduceIte, Nat.reduceEqDiff, Int.reduceToNat, Nat.reduceMul, Nat.reduceAdd, Nat.reduceBEq, isLd], by simp (maxSteps := 300000) (disch := omega) only [gs, gs2, gs3, gs4, ↓reduceIte, Nat.reduceEqDiff, Int.reduceToNat, Nat.reduceMul, Nat.reduceAdd, Nat.reduceBEq, isLd], by simp (maxSteps := 300000) (disch := omega) only [gs, gs2, gs3, gs4, ↓reduceIte, Nat.reduceEqDiff, Int.reduceToNat, Nat.reduceMul, Nat.reduceAdd, Nat.reduceBEq, isLd] <;> rfl, by simp (maxSteps := 300000) (disch := omega) only [gs, gs2, gs3, gs4, ↓reduceIte, Nat.reduceEqDiff, Int.reduceToNat, Nat.reduceMul, Nat.reduceAdd, Nat.reduceBEq, isLd] <;> simp, by omega, by omega, rfl⟩ ?_
  rintro m T G' ⟨k, e0, e1, e5, e6, hm, hkm, rfl⟩
  have hb := pw_rng (a := a) (p := p) hp.1 k
  have hmm := mulB (a := pw a p k) (b := a) (A := 2 ^ 20) (B := 2 ^ 20) (by omega) (by omega)
  have hnn : 0 ≤ pw a p k * a := Int.mul_nonneg hb.1 ha.1
  have w1 := w64 (pw a p k * a) (by omega) (by omega)
  have hrm : (pw a p k * a).tmod p = pw a p k * a % p := Int.tmod_eq_emod_of_nonneg hnn
  simp (maxSteps := 300000) (disch := omega) only [gs, gs2, gs3, gs4, ↓reduceIte, Nat.reduceEqDiff, Int.reduceToNat, Nat.reduceMul, Nat.reduceAdd, Nat.reduceBEq, isLd, e0, e1, e5, e6]
  by_cases hk0 : (0 : Int) < p - 2 - k
  · simp (maxSteps := 300000) (disch := omega) only [gs, gs2, gs3, gs4, ↓reduceIte, Nat.reduceEqDiff, Int.reduceToNat, Nat.reduceMul, Nat.reduceAdd, Nat.reduceBEq, isLd, e0, e1, e5, e6, hk0, w1, fun x : Int => bin_rem .i64 x p (by omega), hrm]
    exact ⟨m - 1, by omega, G, Sub.refl _, k + 1, rfl, by congr 1; omega, by omega, by omega, rfl⟩
  · simp (maxSteps := 300000) (disch := omega) only [gs, gs2, gs3, gs4, ↓reduceIte, Nat.reduceEqDiff, Int.reduceToNat, Nat.reduceMul, Nat.reduceAdd, Nat.reduceBEq, isLd, e0, e1, e5, e6, hk0]
    obtain rfl : k = (p - 2).toNat := by omega
    exact hk
theorem spec_l03Mod_ok {a p : Int} (hp : 0 < p ∧ p ≤ 2 ^ 31) {G : GH} {K : Value → GH → Prop} (hk : K (.int .i64 (a % p)) G) : GC Try.prog 251 [.int .i64 a, .int .i64 p] G K := by
  refine c_spec_l03Mod_i (by simp) ?_
  have hb := red_bd (a := a) hp.1
  simp (maxSteps := 300000) (disch := omega) only [gs, gs2, gs3, gs4, ↓reduceIte, Nat.reduceEqDiff, Int.reduceToNat, Nat.reduceMul, Nat.reduceAdd, Nat.reduceBEq, isLd, bin_rem .i64 a p (by omega), fun x : Int => bin_rem .i64 x p (by omega)]
  rw [red_eq hp.1]; exact hk
theorem spec_l02Numbers_ok {G : GH} {A : Option Addr} {c : Nat} {xs : List Int} {p : Int} (h : IntS G A c xs) (hl : xs.length < 2 ^ 40) (hp : 1 ≤ p ∧ p ≤ 251) {K : Value → GH → Prop} (hk : ∀ b : Bool, (b = true ↔ InB xs 0 (p - 1) ∧ xs.length ≤ 64) → K (.bool b) G) : GC Try.prog 159 [.slice A xs.length c, .int .i64 p] G K := by
  refine c_spec_l02Numbers_i (by simp) ?_
  simp (maxSteps := 300000) (disch := omega) only [gs, gs2, gs3, gs4, ↓reduceIte, Nat.reduceEqDiff, Int.reduceToNat, Nat.reduceMul, Nat.reduceAdd, Nat.reduceBEq, isLd]
  refine gLoop_intro (fun m T G' => ∃ k : Nat, T 0 = .slice A xs.length c ∧ T 1 = .int .i64 p ∧ T 5 = .int .i64 k ∧ m + k = xs.length ∧ k ≤ xs.length ∧ G = G' ∧ ∀ i, i < k → 0 ≤ xs.getD i 0 ∧ xs.getD i 0 ≤ p - 1)
    xs.length ⟨0, by simp (maxSteps := 300000) (disch := omega) only [gs, gs2, gs3, gs4, ↓reduceIte, Nat.reduceEqDiff, Int.reduceToNat, Nat.reduceMul, Nat.reduceAdd, Nat.reduceBEq, isLd], by simp (maxSteps := 300000) (disch := omega) only [gs, gs2, gs3, gs4, ↓reduceIte, Nat.reduceEqDiff, Int.reduceToNat, Nat.reduceMul, Nat.reduceAdd, Nat.reduceBEq, isLd], by simp (maxSteps := 300000) (disch := omega) only [gs, gs2, gs3, gs4, ↓reduceIte, Nat.reduceEqDiff, Int.reduceToNat, Nat.reduceMul, Nat.reduceAdd, Nat.reduceBEq, isLd] <;> rfl, by omega, by omega, rfl, fun i hi => by omega⟩ ?_
  rintro m T G' ⟨k, e0, e1, e5, hm, hkm, rfl, hall⟩
  simp (maxSteps := 300000) (disch := omega) only [gs, gs2, gs3, gs4, ↓reduceIte, Nat.reduceEqDiff, Int.reduceToNat, Nat.reduceMul, Nat.reduceAdd, Nat.reduceBEq, isLd, e0, e1, e5]
  by_cases hkk : (k : Int) < xs.length
  · have r := h.rd k (by omega)
    have hsn := h.sn (by omega)
    simp (maxSteps := 300000) (disch := omega) only [gs, gs2, gs3, gs4, ↓reduceIte, Nat.reduceEqDiff, Int.reduceToNat, Nat.reduceMul, Nat.reduceAdd, Nat.reduceBEq, isLd, e0, e1, e5, hkk, r]
    refine spec_l00In_ok _ _ _ ?_
    simp (maxSteps := 300000) (disch := omega) only [gs, gs2, gs3, gs4, ↓reduceIte, Nat.reduceEqDiff, Int.reduceToNat, Nat.reduceMul, Nat.reduceAdd, Nat.reduceBEq, isLd, e0, e1, e5]
    by_cases hb : 0 ≤ xs.getD k 0 ∧ xs.getD k 0 ≤ p - 1
    · rw [decide_eq_true hb]
      simp (maxSteps := 300000) (disch := omega) only [gs, gs2, gs3, gs4, ↓reduceIte, Nat.reduceEqDiff, Int.reduceToNat, Nat.reduceMul, Nat.reduceAdd, Nat.reduceBEq, isLd, e0, e1, e5]
      exact ⟨m - 1, by omega, G, Sub.refl _, k + 1, rfl, by omega, by omega, rfl, fun i hi => by
        by_cases e : i = k
        · rw [e]; exact hb
        · exact hall i (by omega)⟩
    · rw [decide_eq_false hb]
      simp (maxSteps := 300000) (disch := omega) only [gs, gs2, gs3, gs4, ↓reduceIte, Nat.reduceEqDiff, Int.reduceToNat, Nat.reduceMul, Nat.reduceAdd, Nat.reduceBEq, isLd, e0, e1, e5]
      exact hk false ⟨fun x => (by cases x), fun x => absurd (x.1 k (by omega)) hb⟩
  · simp (maxSteps := 300000) (disch := omega) only [gs, gs2, gs3, gs4, ↓reduceIte, Nat.reduceEqDiff, Int.reduceToNat, Nat.reduceMul, Nat.reduceAdd, Nat.reduceBEq, isLd, e0, e1, e5, hkk]
    by_cases h64 : (xs.length : Int) ≤ 64
    · rw [decide_eq_true h64]
      exact hk true ⟨fun _ => ⟨fun i hi => hall i (by omega), by omega⟩, fun _ => rfl⟩
    · rw [decide_eq_false h64]
      exact hk false ⟨fun x => (by cases x), fun x => by omega⟩
theorem impl_ValidVector_ok {G : GH} {A : Option Addr} {c : Nat} {xs : List Int} {p : Int} (h : IntS G A c xs) (hl : xs.length < 2 ^ 40) {K : Value → GH → Prop} (hk : ∀ b : Bool, (b = true ↔ PrimeP p ∧ InB xs 0 (p - 1) ∧ xs.length ≤ 64) → K (.bool b) G) : GC Try.prog 164 [.slice A xs.length c, .int .i64 p] G K := by
  refine c_impl_ValidVector_i (by simp) ?_
  simp (maxSteps := 300000) (disch := omega) only [gs, gs2, gs3, gs4, ↓reduceIte, Nat.reduceEqDiff, Int.reduceToNat, Nat.reduceMul, Nat.reduceAdd, Nat.reduceBEq, isLd]
  refine impl_ValidPrime_ok fun b hb => ?_
  cases b
  · simp (maxSteps := 300000) (disch := omega) only [gs, gs2, gs3, gs4, ↓reduceIte, Nat.reduceEqDiff, Int.reduceToNat, Nat.reduceMul, Nat.reduceAdd, Nat.reduceBEq, isLd]
    exact hk false ⟨fun x => (by cases x), fun x => by have := hb.2 x.1; cases this⟩
  have hp := hb.1 rfl
  have hp1 := hp.1
  simp (maxSteps := 300000) (disch := omega) only [gs, gs2, gs3, gs4, ↓reduceIte, Nat.reduceEqDiff, Int.reduceToNat, Nat.reduceMul, Nat.reduceAdd, Nat.reduceBEq, isLd]
  by_cases h64 : (xs.length : Int) ≤ 64
  · rw [decide_eq_true h64]
    simp (maxSteps := 300000) (disch := omega) only [gs, gs2, gs3, gs4, ↓reduceIte, Nat.reduceEqDiff, Int.reduceToNat, Nat.reduceMul, Nat.reduceAdd, Nat.reduceBEq, isLd]
    refine impl_areElements_ok h hl fun b hb => ?_
    rw [w64 (p - 1) (by omega) (by omega)] at hb
    simp (maxSteps := 300000) (disch := omega) only [gs, gs2, gs3, gs4, ↓reduceIte, Nat.reduceEqDiff, Int.reduceToNat, Nat.reduceMul, Nat.reduceAdd, Nat.reduceBEq, isLd]
    exact hk b ⟨fun x => ⟨hp, hb.1 x, by omega⟩, fun x => hb.2 x.2.1⟩
  · rw [decide_eq_false h64]
    simp (maxSteps := 300000) (disch := omega) only [gs, gs2, gs3, gs4, ↓reduceIte, Nat.reduceEqDiff, Int.reduceToNat, Nat.reduceMul, Nat.reduceAdd, Nat.reduceBEq, isLd]
    exact hk false ⟨fun x => (by cases x), fun x => by omega⟩
/-- the cells of a matrix, row after row. -/
def flatL (R C : Nat) (f : Int → Int → Int) : List Int := (List.range (R * C)).map fun v : Nat => f ((v / C : Nat) : Int) ((v % C : Nat) : Int)
theorem flatL_len (R C : Nat) (f : Int → Int → Int) : (flatL R C f).length = R * C := by simp [flatL]
theorem flat_nat {i j R C : Nat} (hi : i < R) (hj : j < C) : i * C + j < R * C := by
  have : (i + 1) * C ≤ R * C := Nat.mul_le_mul_right C hi
  rw [Nat.add_mul, Nat.one_mul] at this
  omega
theorem flatL_get {R C : Nat} (f : Int → Int → Int) {i j : Nat} (hi : i < R) (hj : j < C) : (flatL R C f).getD (i * C + j) 0 = f i j := by
  have h := flat_nat hi hj
  have h1 : (i * C + j) / C = i := by rw [Nat.mul_comm, Nat.mul_add_div (by omega), Nat.div_eq_of_lt hj, Nat.add_zero]
  have h2 : (i * C + j) % C = j := by rw [Nat.mul_comm, Nat.mul_add_mod, Nat.mod_eq_of_lt hj]
  simp only [flatL, List.getD, List.getElem?_map]
  rw [List.getElem?_range h]
  show f (((i * C + j) / C : Nat) : Int) (((i * C + j) % C : Nat) : Int) = _
  rw [h1, h2]
def matC (p : Int) (R C : Nat) (A : Option Addr) (L c : Nat) : List Value := [.int .i64 p, .int .i64 R, .int .i64 C, .slice A L c]
abbrev matV (p : Int) (R C : Nat) (A : Option Addr) (L c : Nat) : Value := .agg (matC p R C A L c).toArray
/-- a row of a matrix, as a part of the cells. -/
theorem row_ints {G : GH} {A : Option Addr} {c R C : Nat} {f : Int → Int → Int} (h : IntS G A c (flatL R C f)) {i : Nat} (hi : i < R) : IntS G (pa A (i * C)) (c - i * C) (rowL C (f i)) := by
  have hc := h.cap
  rw [flatL_len] at hc
  refine ⟨?_, fun j hj => ?_⟩
  · rw [rowL_len]
    have : (i + 1) * C ≤ R * C := Nat.mul_le_mul_right C hi
    rw [Nat.add_mul, Nat.one_mul] at this
    omega
  · rw [rowL_len] at hj
    rw [pa_pa, rowL_get _ hj, ← flatL_get f hi hj]
    exact h.rd _ (by rw [flatL_len]; exact flat_nat hi hj)
theorem sl_row {A : Option Addr} {R C c i : Nat} (hi : i < R) (hC : 0 < C) (hc : R * C ≤ c) : slV 1 (.slice A (R * C) c) (some (.int .i64 ((i : Int) * C))) (some (.int .i64 (((i : Int) + 1) * C))) = some (.slice (pa A (i * C)) C (c - i * C)) := by
  have h1 : (i + 1) * C ≤ R * C := Nat.mul_le_mul_right C hi
  have h2 : (i + 1) * C = i * C + C := by rw [Nat.add_mul, Nat.one_mul]
  have e1 : ((i : Int) * C) = ((i * C : Nat) : Int) := by push_cast; rfl
  have e2 : (((i : Int) + 1) * C) = ((i * C + C : Nat) : Int) := by rw [← h2]; push_cast; rfl
  rw [e1, e2]
  simp only [slV, onSl, bndV, onInt]
  rw [if_pos ⟨by omega, by omega⟩]
  simp only [Option.bind_some, Int.toNat_natCast]
  rw [if_pos ⟨by omega, by omega⟩]
  simp only [Option.bind_some, Int.toNat_natCast]
  rw [if_pos (by omega), if_neg (by omega), Nat.mul_one, show i * C + C - i * C = C by omega]
theorem impl_row_ok {G : GH} {p : Int} {A : Option Addr} {R C c i : Nat} (hi : i < R) (hC : 0 < C ∧ C ≤ 2 ^ 20) (hR : R ≤ 2 ^ 20) (hc : R * C ≤ c) {K : Value → GH → Prop} (hk : K (.slice (pa A (i * C)) C (c - i * C)) G) : GC Try.prog 168 [matV p R C A (R * C) c, .int .i64 i] G K := by
  refine GC_drop (c_impl_Matrix_row_i (by simp) ?_)
  unfold matV matC
  simp (maxSteps := 300000) (disch := omega) only [gs, gs2, gs3, gs4, ↓reduceIte, Nat.reduceEqDiff, Int.reduceToNat, Nat.reduceMul, Nat.reduceAdd, Nat.reduceBEq, isLd]
  intro b2 hb2
  have s2 := Sub.put hb2 ⟨[.int .i64 p, .int .i64 R, .int .i64 C, .slice A (R * C) c], true⟩
  have r2 : rd (put G b2 ⟨[.int .i64 p, .int .i64 R, .int .i64 C, .slice A (R * C) c], true⟩) (some ⟨b2, 2, none⟩) = some (.int .i64 C) := rd_box _ _ _ 2 _ rfl
  have r3 : rd (put G b2 ⟨[.int .i64 p, .int .i64 R, .int .i64 C, .slice A (R * C) c], true⟩) (some ⟨b2, 3, none⟩) = some (.slice A (R * C) c) := rd_box _ _ _ 3 _ rfl
  revert s2 r2 r3
  generalize put G b2 ⟨[.int .i64 p, .int .i64 R, .int .i64 C, .slice A (R * C) c], true⟩ = G1
  intro s2 r2 r3
  have m1 := mulB (a := (i : Int)) (b := (C : Int)) (A := 2 ^ 21) (B := 2 ^ 21) (by omega) (by omega)
  have m2 := mulB (a := (i : Int) + 1) (b := (C : Int)) (A := 2 ^ 21) (B := 2 ^ 21) (by omega) (by omega)
  have w1 := w64 ((i : Int) * C) (by omega) (by omega)
  have w2 := w64 (((i : Int) + 1) * C) (by omega) (by omega)
  simp (maxSteps := 300000) (disch := omega) only [gs, gs2, gs3, gs4, ↓reduceIte, Nat.reduceEqDiff, Int.reduceToNat, Nat.reduceMul, Nat.reduceAdd, Nat.reduceBEq, isLd, r2, r3, w1, w2, sl_row hi hC.1 hc]
  exact ⟨G, s2, hk⟩
theorem impl_rowsOf_ok {G : GH} {p : Int} {A : Option Addr} {R C c : Nat} {f : Int → Int → Int} (h : IntS G A c (flatL R C f)) (hC : 0 < C ∧ C ≤ 2 ^ 10) (hR : R ≤ 2 ^ 10) {K : Value → GH → Prop}
    (hk : ∀ G' Bo cb, Bl2 G G' Bo cb R C f → K (.slice Bo R cb) G') : GC Try.prog 230 [matV p R C A (R * C) c] G K := by
  refine GC_drop (c_impl_rowsOf_i (by simp) ?_)
  have hc := h.cap
  rw [flatL_len] at hc
  unfold matV matC
  simp (maxSteps := 300000) (disch := omega) only [gs, gs2, gs3, gs4, ↓reduceIte, Nat.reduceEqDiff, Int.reduceToNat, Nat.reduceMul, Nat.reduceAdd, Nat.reduceBEq, isLd]
  intro b1 hb1
  have s1 := Sub.put hb1 ⟨[.int .i64 p, .int .i64 R, .int .i64 C, .slice A (R * C) c], true⟩
  have r0 : rd (put G b1 ⟨[.int .i64 p, .int .i64 R, .int .i64 C, .slice A (R * C) c], true⟩) (some ⟨b1, 0, none⟩) = some (.int .i64 p) := rd_box _ _ _ 0 _ rfl
  have r1 : rd (put G b1 ⟨[.int .i64 p, .int .i64 R, .int .i64 C, .slice A (R * C) c], true⟩) (some ⟨b1, 1, none⟩) = some (.int .i64 R) := rd_box _ _ _ 1 _ rfl
  have r2 : rd (put G b1 ⟨[.int .i64 p, .int .i64 R, .int .i64 C, .slice A (R * C) c], true⟩) (some ⟨b1, 2, none⟩) = some (.int .i64 C) := rd_box _ _ _ 2 _ rfl
  have r3 : rd (put G b1 ⟨[.int .i64 p, .int .i64 R, .int .i64 C, .slice A (R * C) c], true⟩) (some ⟨b1, 3, none⟩) = some (.slice A (R * C) c) := rd_box _ _ _ 3 _ rfl
  revert s1 r0 r1 r2 r3
  generalize put G b1 ⟨[.int .i64 p, .int .i64 R, .int .i64 C, .slice A (R * C) c], true⟩ = G1
  intro s1 r0 r1 r2 r3
  simp (maxSteps := 300000) (disch := omega) only [gs, gs2, gs3, gs4, ↓reduceIte, Nat.reduceEqDiff, Int.reduceToNat, Nat.reduceMul, Nat.reduceAdd, Nat.reduceBEq, isLd, r1]
  refine gLoop_intro (fun m T G' => ∃ (i : Nat) (Bo : Option Addr) (cb : Nat), T 1 = .pointer (some ⟨b1, 0, none⟩) ∧ T 3 = .slice Bo i cb ∧ T 6 = .int .i64 R ∧ T 7 = .int .i64 i ∧ m + i = R ∧ i ≤ R ∧ Bl2 G1 G' Bo cb i C f)
    R ⟨0, none, 0, by simp (maxSteps := 300000) (disch := omega) only [gs, gs2, gs3, gs4, ↓reduceIte, Nat.reduceEqDiff, Int.reduceToNat, Nat.reduceMul, Nat.reduceAdd, Nat.reduceBEq, isLd], by simp (maxSteps := 300000) (disch := omega) only [gs, gs2, gs3, gs4, ↓reduceIte, Nat.reduceEqDiff, Int.reduceToNat, Nat.reduceMul, Nat.reduceAdd, Nat.reduceBEq, isLd], by simp (maxSteps := 300000) (disch := omega) only [gs, gs2, gs3, gs4, ↓reduceIte, Nat.reduceEqDiff, Int.reduceToNat, Nat.reduceMul, Nat.reduceAdd, Nat.reduceBEq, isLd], by simp (maxSteps := 300000) (disch := omega) only [gs, gs2, gs3, gs4, ↓reduceIte, Nat.reduceEqDiff, Int.reduceToNat, Nat.reduceMul, Nat.reduceAdd, Nat.reduceBEq, isLd] <;> rfl, by omega, by omega, Bl2.start (Own.nil _ _) (Sub.refl _) (Off.nil _)⟩ ?_
  rintro m T G' ⟨i, Bo, cb, e1, e3, e6, e7, hm, hi, hB⟩
  simp (maxSteps := 300000) (disch := omega) only [gs, gs2, gs3, gs4, ↓reduceIte, Nat.reduceEqDiff, Int.reduceToNat, Nat.reduceMul, Nat.reduceAdd, Nat.reduceBEq, isLd, e1, e3, e6, e7]
  by_cases hii : (i : Int) < R
  · have q0 := rd_sub hB.1 r0
    have q1 := rd_sub hB.1 r1
    have q2 := rd_sub hB.1 r2
    have q3 := rd_sub hB.1 r3
    simp (maxSteps := 300000) (disch := omega) only [gs, gs2, gs3, gs4, ↓reduceIte, Nat.reduceEqDiff, Int.reduceToNat, Nat.reduceMul, Nat.reduceAdd, Nat.reduceBEq, isLd, e1, e3, e6, e7, hii, q0, q1, q2, q3]
    refine impl_row_ok (p := p) (R := R) (C := C) (A := A) (c := c) (i := i) (by omega) ⟨hC.1, by omega⟩ (by omega) hc ?_
    simp (maxSteps := 300000) (disch := omega) only [gs, gs2, gs3, gs4, ↓reduceIte, Nat.reduceEqDiff, Int.reduceToNat, Nat.reduceMul, Nat.reduceAdd, Nat.reduceBEq, isLd, e1, e3, e6, e7]
    have hrow := row_ints ((h.sub s1).sub hB.1) (show i < R by omega)
    rw [show Value.slice (pa A (i * C)) C (c - i * C) = .slice (pa A (i * C)) (rowL C (f i)).length (c - i * C) by rw [rowL_len]]
    refine slices_Clone_ok hrow (by rw [rowL_len]; omega) fun G2 A2 c2 hN => ?_
    rw [rowL_len] at hN ⊢
    simp (maxSteps := 300000) (disch := omega) only [gs, gs2, gs3, gs4, ↓reduceIte, Nat.reduceEqDiff, Int.reduceToNat, Nat.reduceMul, Nat.reduceAdd, Nat.reduceBEq, isLd, e1, e3, e6, e7, gBs]
    refine ⟨by intro v hv; simp at hv; subst hv; rfl, fun b15 hb15 => ?_⟩
    refine hB.push hN hC.1 (Sub.put hb15 _) (cells_one [.slice A2 C c2] true) (by omega) fun G4 B4 c4 hB4 => ?_
    simp (maxSteps := 300000) (disch := omega) only [gs, gs2, gs3, gs4, ↓reduceIte, Nat.reduceEqDiff, Int.reduceToNat, Nat.reduceMul, Nat.reduceAdd, Nat.reduceBEq, isLd, e1, e3, e6, e7]
    exact ⟨m - 1, by omega, G4, Sub.refl _, i + 1, B4, c4, rfl, rfl, by omega, by omega, hB4⟩
  · simp (maxSteps := 300000) (disch := omega) only [gs, gs2, gs3, gs4, ↓reduceIte, Nat.reduceEqDiff, Int.reduceToNat, Nat.reduceMul, Nat.reduceAdd, Nat.reduceBEq, isLd, e1, e3, e6, e7, hii]
    obtain rfl : i = R := by omega
    exact ⟨G', Sub.refl _, hk _ _ _ ⟨s1.trans hB.1, hB.2.1.mono s1, by
      obtain ⟨_, _, B, cp, rs, h3, h4, h5⟩ := hB
      exact ⟨B, cp, rs, h3, fun j hj => ⟨s1.none (h4 j hj).1, (h4 j hj).2⟩, h5⟩⟩⟩
def rowsA (A : Nat → Option Addr) (ln c : Nat → Nat) (R : Nat) : List Value := (List.range R).map fun i => .slice (A i) (ln i) (c i)
theorem rowsA_len (A : Nat → Option Addr) (ln c : Nat → Nat) (R : Nat) : (rowsA A ln c R).length = R := by simp [rowsA]
theorem rowsA_get {A : Nat → Option Addr} {ln c : Nat → Nat} {R i : Nat} (h : i < R) : (rowsA A ln c R)[i]? = some (.slice (A i) (ln i) (c i)) := by simp [rowsA, h]
theorem rowsA_set {A : Nat → Option Addr} {ln c : Nat → Nat} {R i : Nat} (A' : Option Addr) (l' c' : Nat) : (rowsA A ln c R).set i (.slice A' l' c') = rowsA (fun k => if k = i then A' else A k) (fun k => if k = i then l' else ln k) (fun k => if k = i then c' else c k) R := by
  unfold rowsA
  apply List.ext_getElem
  · simp
  · intro k h1 h2
    simp only [List.length_set, List.length_map, List.length_range] at h1
    by_cases e : i = k
    · subst e; simp
    · have e' : k ≠ i := fun x => e x.symm
      simp [List.getElem_set, e, e']
/-- rows of one's own, each of its own length. -/
structure Ao (H G : GH) (bO : Nat) (A : Nat → Option Addr) (ln c : Nat → Nat) (R : Nat) (F : Int → Int → Int) (ro : List Value) : Prop where
  sub : Sub H G
  nO : H bO = none
  o : G bO = some ⟨rowsA A ln c R ++ ro, true⟩
  row : ∀ i : Nat, i < R → Own (del G bO) (A i) (c i) ((rowL (ln i) (F i)).map I64) 1 (ln i)
  off : ∀ i, i < R → Off H (A i)
  apart : ∀ i j, i < R → j < R → i ≠ j → ∀ a b, A i = some a → A j = some b → a.block ≠ b.block
theorem Ao.get {H G : GH} {bO : Nat} {A : Nat → Option Addr} {ln c : Nat → Nat} {R : Nat} {F : Int → Int → Int} {ro : List Value} (h : Ao H G bO A ln c R F ro) {i : Nat} (hi : i < R) : rd G (some ⟨bO, i, none⟩) = some (.slice (A i) (ln i) (c i)) := by
  simp only [rd, h.o, Option.bind_some]
  rw [List.getElem?_append_left (by rw [rowsA_len]; exact hi), rowsA_get hi]
theorem Ao.up {H G G' : GH} {bO : Nat} {A : Nat → Option Addr} {ln c : Nat → Nat} {R : Nat} {F : Int → Int → Int} {ro : List Value} (h : Ao H G bO A ln c R F ro) (s : Sub G G') : Ao H G' bO A ln c R F ro := ⟨h.sub.trans s, h.nO, s _ _ h.o, fun i hi => (h.row i hi).sub (s.del2 bO), h.off, h.apart⟩
theorem Bl2.ao {H G : GH} {Bo : Option Addr} {cb k C : Nat} {f : Int → Int → Int} (h : Bl2 H G Bo cb k C f) (hk : 0 < k) : ∃ bO A c ro, Bo = some ⟨bO, 0, none⟩ ∧ k ≤ cb ∧ Ao H G bO A (fun _ => C) c k f ro := by
  obtain ⟨g1, g2, B, cp, rs, h3, h4, h5⟩ := h
  rcases h3 with ⟨_, _, h0, _⟩ | ⟨b, r, rfl, h6, _, _, h7⟩
  · omega
  · have hne : ∀ i, i < k → B i ≠ b := fun i hi e => by
      have := (h4 i hi).2.1
      rw [e, Off.wo G (some ⟨b, 0, none⟩) _ rfl] at this
      cases this
    refine ⟨b, fun i => some ⟨B i, 0, none⟩, cp, r, rfl, h7, g1, g2 _ rfl, h6, fun i hi => .inr ⟨B i, rs i, rfl, ?_, by rw [List.length_map, rowL_len]; omega, ?_, by have := (h4 i hi).2.2; omega⟩, fun i hi a ha => ?_, fun i j hi hj hij a b' ha hb e => ?_⟩
    · rw [del_ne _ (hne i hi), Sub.wo _ _ _ _ (h4 i hi).2.1, fcells_rowL]
    · rw [List.length_append, List.length_map, rowL_len, (h4 i hi).2.2]; omega
    · cases ha; exact (h4 i hi).1
    · cases ha; cases hb; exact hij (h5 i j hi hj e)
theorem wo_nil (G : GH) : wo G none = G := by funext x; unfold wo; rw [if_neg (by simp)]
/-- all rows as long: they can be eliminated. -/
theorem Ao.rw' {H G : GH} {bO : Nat} {A : Nat → Option Addr} {ln c : Nat → Nat} {R C : Nat} {F : Int → Int → Int} {ro : List Value} (h : Ao H G bO A ln c R F ro) (hl : ∀ i, i < R → ln i = C) : Rw H G bO A c R C F ro none := by
  refine ⟨h.sub, h.nO, ?_, fun i hi => ?_⟩
  · rw [h.o]
    refine congrArg (fun l => some (⟨l ++ ro, true⟩ : Ent)) ?_
    unfold rowsA rowsC
    exact List.map_congr_left fun i hi => by rw [hl i (List.mem_range.1 hi)]
  · rw [wo_nil]
    have := h.row i hi
    rw [hl i hi] at this
    exact this.ints' (rowL_len _ _).symm
theorem Own.wo {G : GH} {A Z : Option Addr} {c sz n : Nat} {cs : List Value} (h : Own G A c cs sz n) (hz : ∀ a, A = some a → ∀ z, Z = some z → z.block ≠ a.block) : Own (Gh.wo G Z) A c cs sz n := by
  rcases h with h | ⟨x, r, rfl, h2, h3⟩
  · exact .inl h
  · exact .inr ⟨x, r, rfl, by rw [wo_ne fun a ha => hz _ rfl a ha]; exact h2, h3⟩
/-- a number is appended to a row, and the row is laid again. -/
theorem Ao.push {H G : GH} {bO : Nat} {A : Nat → Option Addr} {ln c : Nat → Nat} {R : Nat} {F : Int → Int → Int} {ro : List Value} (h : Ao H G bO A ln c R F ro) {k : Nat} (hk : k < R) (hl : ln k < 2 ^ 20) {Bn : Option Addr} {dn : Nat} (hn : Cells G Bn [.int .i64 (F k (ln k))]) {K : Value → GH → Prop}
    (hK : ∀ G' A' c', Sub H G' → (∀ K' : Value → GH → Prop, (∀ G'', Ao H G'' bO (fun i => if i = k then A' else A i) (fun i => if i = k then ln k + 1 else ln i) (fun i => if i = k then c' else c i) R F ro → K' undef G'') → gSt 1 (.pointer (some ⟨bO, k, none⟩)) (.slice A' (ln k + 1) c') G' K') → K (.slice A' (ln k + 1) c') G') :
    gAp 1 8 [.int .i64 0] (.slice (A k) (ln k) (c k)) (.slice Bn 1 dn) G K := by
  have hOk := (h.row k hk).sub (Sub.del G bO)
  have hkb : ∀ a, A k = some a → a.block ≠ bO := fun a ha e => by
    obtain ⟨e2, h2⟩ := (h.row k hk).isSome a ha
    rw [e, del_none] at h2; cases h2
  refine ap_own hOk hn rfl (by intro v hv; simp at hv; subst hv; rfl) rfl (by omega) (by omega) (by omega) fun G' A' c' hO keep => ?_
  obtain ⟨sk, ok⟩ := keep _ (Sub.wo _ _) (Off.wo _ _)
  have hwb : wo G (A k) bO = some ⟨rowsA A ln c R ++ ro, true⟩ := by rw [wo_ne hkb]; exact h.o
  have hb' := sk _ _ hwb
  have s0 : Sub H (wo G (A k)) := fun x e hx => by
    rw [wo_ne fun a ha e' => by have := h.off k hk a ha; rw [e', hx] at this; cases this]
    exact h.sub _ _ hx
  have da' : ∀ a, A' = some a → a.block ≠ bO := fun a ha e => by have := ok a ha; rw [e, hwb] at this; cases this
  refine hK G' A' c' (s0.trans sk) fun K' hK' => ?_
  refine st_src hb' rfl (by rw [List.length_append, rowsA_len]; omega) fun G'' hKp hb2 => hK' G'' ?_
  have hd : del G'' bO = del G' bO := by
    funext x; unfold del
    by_cases e : x = bO
    · rw [if_pos e, if_pos e]
    · rw [if_neg e, if_neg e, hKp x e]
  have hother : ∀ i, i < R → i ≠ k → Own (wo (del G bO) (A k)) (A i) (c i) ((rowL (ln i) (F i)).map I64) 1 (ln i) := fun i hi hik => (h.row i hi).wo fun a ha z hz => fun e => h.apart k i hk hi (fun x => hik x.symm) z a hz ha e
  have hsub : Sub (wo (del G bO) (A k)) (del G' bO) := fun x e hx => by
    unfold wo at hx
    split at hx
    · cases hx
    · rename_i hne
      have hxb : x ≠ bO := fun e' => by rw [e', del_none] at hx; cases hx
      rw [del_ne _ hxb] at hx ⊢
      exact sk _ _ (by unfold wo; rw [if_neg hne]; exact hx)
  refine ⟨sub_keep hKp h.nO (s0.trans sk), h.nO, ?_, fun i hi => ?_, fun i hi => ?_, fun i j hi hj hij a b ha hb => ?_⟩
  · rw [hb2, List.set_append_left _ _ (by rw [rowsA_len]; exact hk), rowsA_set]
  · rw [hd]
    by_cases e : i = k
    · subst e
      simp only [if_true]
      exact (hO.cast (by rw [rowL_succ]; simp [I64]) rfl).del da'
    · simp only [if_neg e]
      exact (hother i hi e).sub hsub
  · by_cases e : i = k
    · simp only [if_pos e]; exact ok.mono s0
    · simp only [if_neg e]; exact h.off i hi
  · have key : ∀ i, i < R → i ≠ k → ∀ a b, A' = some a → A i = some b → a.block ≠ b.block := fun i hi hik a b ha hb e => by
      obtain ⟨e2, h2⟩ := (hother i hi hik).isSome b hb
      have h3 : wo G (A k) b.block = some e2 := by
        unfold wo at h2 ⊢
        split at h2
        · cases h2
        · rename_i hne
          rw [if_neg hne]; exact Sub.del _ _ _ _ h2
      have := ok a ha
      rw [e, h3] at this; cases this
    by_cases e1 : i = k
    · by_cases e2 : j = k
      · omega
      · simp only [if_pos e1] at ha; simp only [if_neg e2] at hb; exact key j hj e2 a b ha hb
    · by_cases e2 : j = k
      · simp only [if_neg e1] at ha; simp only [if_pos e2] at hb; exact (key i hi e1 b a hb ha).symm
      · simp only [if_neg e1] at ha; simp only [if_neg e2] at hb; exact h.apart i j hi hj hij a b ha hb
theorem impl_rank_ok {G : GH} {p : Int} {A : Option Addr} {n c : Nat} {f : Int → Int → Int} (h : IntS G A c (flatL n n f)) (hn : 0 < n ∧ n < 2 ^ 10) (hr : Rng f p) (hp : 1 < p ∧ p ≤ 2 ^ 30) {K : Value → GH → Prop}
    (hk : K (.int .i64 (elF p n f n).piv.length) G) : GC Try.prog 171 [matV p n n A (n * n) c] G K := by
  refine GC_drop (c_impl_rank_i (by simp) ?_)
  unfold matV matC
  simp (maxSteps := 300000) (disch := omega) only [gs, gs2, gs3, gs4, ↓reduceIte, Nat.reduceEqDiff, Int.reduceToNat, Nat.reduceMul, Nat.reduceAdd, Nat.reduceBEq, isLd]
  intro b1 hb1
  have s1 := Sub.put hb1 ⟨[.int .i64 p, .int .i64 n, .int .i64 n, .slice A (n * n) c], true⟩
  have r0 : rd (put G b1 ⟨[.int .i64 p, .int .i64 n, .int .i64 n, .slice A (n * n) c], true⟩) (some ⟨b1, 0, none⟩) = some (.int .i64 p) := rd_box _ _ _ 0 _ rfl
  have r1 : rd (put G b1 ⟨[.int .i64 p, .int .i64 n, .int .i64 n, .slice A (n * n) c], true⟩) (some ⟨b1, 1, none⟩) = some (.int .i64 n) := rd_box _ _ _ 1 _ rfl
  have r2 : rd (put G b1 ⟨[.int .i64 p, .int .i64 n, .int .i64 n, .slice A (n * n) c], true⟩) (some ⟨b1, 2, none⟩) = some (.int .i64 n) := rd_box _ _ _ 2 _ rfl
  have r3 : rd (put G b1 ⟨[.int .i64 p, .int .i64 n, .int .i64 n, .slice A (n * n) c], true⟩) (some ⟨b1, 3, none⟩) = some (.slice A (n * n) c) := rd_box _ _ _ 3 _ rfl
  revert s1 r0 r1 r2 r3
  generalize put G b1 ⟨[.int .i64 p, .int .i64 n, .int .i64 n, .slice A (n * n) c], true⟩ = G1
  intro s1 r0 r1 r2 r3
  simp (maxSteps := 300000) (disch := omega) only [gs, gs2, gs3, gs4, ↓reduceIte, Nat.reduceEqDiff, Int.reduceToNat, Nat.reduceMul, Nat.reduceAdd, Nat.reduceBEq, isLd, r0, r1, r2, r3]
  refine impl_rowsOf_ok (p := p) (h.sub s1) ⟨hn.1, by omega⟩ (by omega) fun G2 Bo cb hB => ?_
  obtain ⟨bO, A2, c2, ro, rfl, hcap, hA⟩ := hB.ao hn.1
  have hw := hA.rw' (C := n) fun _ _ => rfl
  simp (maxSteps := 300000) (disch := omega) only [gs, gs2, gs3, gs4, ↓reduceIte, Nat.reduceEqDiff, Int.reduceToNat, Nat.reduceMul, Nat.reduceAdd, Nat.reduceBEq, isLd, rd_sub hB.1 r0, rd_sub hB.1 r1, rd_sub hB.1 r2, rd_sub hB.1 r3]
  refine impl_eliminate_ok hw hcap hn.2 hn.2 hr hp fun G6 A6 c6 Ap6 cq6 hw6 hP => ?_
  simp (maxSteps := 300000) (disch := omega) only [gs, gs2, gs3, gs4, ↓reduceIte, Nat.reduceEqDiff, Int.reduceToNat, Nat.reduceMul, Nat.reduceAdd, Nat.reduceBEq, isLd, rd_sub hw6.sub r0, rd_sub hw6.sub r1, rd_sub hw6.sub r2, rd_sub hw6.sub r3]
  refine c_impl_size_int64_i (by simp) ?_
  simp (maxSteps := 300000) (disch := omega) only [gs, gs2, gs3, gs4, ↓reduceIte, Nat.reduceEqDiff, Int.reduceToNat, Nat.reduceMul, Nat.reduceAdd, Nat.reduceBEq, isLd]
  exact ⟨G, s1.trans hw6.sub, hk⟩
/-- the solution, after some pivots. -/
noncomputable def solX (S : ElS) (C : Int) : Nat → Int → Int
  | 0 => fun _ => 0
  | k + 1 => updAt (solX S C k) (S.piv.getD k 0) (S.f k C)
theorem elF_piv (p : Int) (R : Nat) (f : Int → Int → Int) : ∀ c m, m < (elF p R f c).piv.length → 0 ≤ (elF p R f c).piv.getD m 0 ∧ (elF p R f c).piv.getD m 0 < c
  | 0, m, hm => by simp [elF] at hm
  | c + 1, m, hm => by
    have ih := elF_piv p R f c m
    show 0 ≤ (elS p R (elF p R f c) c).piv.getD m 0 ∧ (elS p R (elF p R f c) c).piv.getD m 0 < ((c + 1 : Nat) : Int)
    have hm : m < (elS p R (elF p R f c) c).piv.length := hm
    unfold elS at hm ⊢
    split at hm
    · have := ih hm
      exact ⟨this.1, show (elF p R f c).piv.getD m 0 < _ by omega⟩
    · rw [List.length_append, List.length_singleton] at hm
      by_cases e : m < (elF p R f c).piv.length
      · have := ih e
        have e2 : ((elF p R f c).piv ++ [(c : Int)]).getD m 0 = (elF p R f c).piv.getD m 0 := by simp only [List.getD]; rw [List.getElem?_append_left e]
        dsimp only
        rw [e2]; omega
      · obtain rfl : m = (elF p R f c).piv.length := by omega
        have e2 : ((elF p R f c).piv ++ [(c : Int)]).getD (elF p R f c).piv.length 0 = c := by simp [List.getD]
        dsimp only
        rw [e2]; omega
theorem impl_solve_ok {G : GH} {p : Int} {A Bb : Option Addr} {n c cb : Nat} {F : Int → Int → Int} {bs : List Int} (h : IntS G A c (flatL n n F)) (hb : IntS G Bb cb bs) (hbl : bs.length = n) (hbF : ∀ i : Nat, i < n → bs.getD i 0 = F i n) (hn : 0 < n ∧ n < 2 ^ 8) (hr : Rng F p) (hp : 1 < p ∧ p ≤ 2 ^ 30) {K : Value → GH → Prop}
    (h0 : (n : Int) ∈ (elF p n F (n + 1)).piv → K (.tuple [.slice none 0 0, .bool false].toArray) G)
    (h1 : ¬ (n : Int) ∈ (elF p n F (n + 1)).piv → ∀ G' b, Sub G G' → G b = none → G' b = some ⟨fcells n (solX (elF p n F (n + 1)) n (elF p n F (n + 1)).piv.length), true⟩ → K (.tuple [.slice (some ⟨b, 0, none⟩) n n, .bool true].toArray) G') :
    GC Try.prog 170 [matV p n n A (n * n) c, .slice Bb n cb] G K := by
  refine GC_drop (c_impl_solve_i (by simp) ?_)
  unfold matV matC
  simp (maxSteps := 300000) (disch := omega) only [gs, gs2, gs3, gs4, ↓reduceIte, Nat.reduceEqDiff, Int.reduceToNat, Nat.reduceMul, Nat.reduceAdd, Nat.reduceBEq, isLd]
  intro b2 hb2
  have s1 := Sub.put hb2 ⟨[.int .i64 p, .int .i64 n, .int .i64 n, .slice A (n * n) c], true⟩
  have r0 : rd (put G b2 ⟨[.int .i64 p, .int .i64 n, .int .i64 n, .slice A (n * n) c], true⟩) (some ⟨b2, 0, none⟩) = some (.int .i64 p) := rd_box _ _ _ 0 _ rfl
  have r1 : rd (put G b2 ⟨[.int .i64 p, .int .i64 n, .int .i64 n, .slice A (n * n) c], true⟩) (some ⟨b2, 1, none⟩) = some (.int .i64 n) := rd_box _ _ _ 1 _ rfl
  have r2 : rd (put G b2 ⟨[.int .i64 p, .int .i64 n, .int .i64 n, .slice A (n * n) c], true⟩) (some ⟨b2, 2, none⟩) = some (.int .i64 n) := rd_box _ _ _ 2 _ rfl
  have r3 : rd (put G b2 ⟨[.int .i64 p, .int .i64 n, .int .i64 n, .slice A (n * n) c], true⟩) (some ⟨b2, 3, none⟩) = some (.slice A (n * n) c) := rd_box _ _ _ 3 _ rfl
  revert s1 r0 r1 r2 r3
  generalize put G b2 ⟨[.int .i64 p, .int .i64 n, .int .i64 n, .slice A (n * n) c], true⟩ = G1
  intro s1 r0 r1 r2 r3
  simp (maxSteps := 300000) (disch := omega) only [gs, gs2, gs3, gs4, ↓reduceIte, Nat.reduceEqDiff, Int.reduceToNat, Nat.reduceMul, Nat.reduceAdd, Nat.reduceBEq, isLd, r0, r1, r2, r3]
  refine impl_rowsOf_ok (p := p) (h.sub s1) ⟨hn.1, by omega⟩ (by omega) fun G2 Bo cbo hB => ?_
  obtain ⟨bO, A2, c2, ro, rfl, hcap, hA⟩ := hB.ao hn.1
  simp (maxSteps := 300000) (disch := omega) only [gs, gs2, gs3, gs4, ↓reduceIte, Nat.reduceEqDiff, Int.reduceToNat, Nat.reduceMul, Nat.reduceAdd, Nat.reduceBEq, isLd]
  have hb1 := hb.sub s1
  refine gLoop_intro (fun m T G' => ∃ (k : Nat) (A' : Nat → Option Addr) (c' : Nat → Nat), T 1 = .slice Bb n cb ∧ T 2 = .pointer (some ⟨b2, 0, none⟩) ∧ T 6 = .slice (some ⟨bO, 0, none⟩) n cbo ∧ T 16 = .int .i64 n ∧ T 17 = .int .i64 k ∧ m + k = n ∧ k ≤ n ∧ Ao G1 G' bO A' (fun i => if i < k then n + 1 else n) c' n F ro)
    n ⟨0, A2, c2, by simp (maxSteps := 300000) (disch := omega) only [gs, gs2, gs3, gs4, ↓reduceIte, Nat.reduceEqDiff, Int.reduceToNat, Nat.reduceMul, Nat.reduceAdd, Nat.reduceBEq, isLd], by simp (maxSteps := 300000) (disch := omega) only [gs, gs2, gs3, gs4, ↓reduceIte, Nat.reduceEqDiff, Int.reduceToNat, Nat.reduceMul, Nat.reduceAdd, Nat.reduceBEq, isLd], by simp (maxSteps := 300000) (disch := omega) only [gs, gs2, gs3, gs4, ↓reduceIte, Nat.reduceEqDiff, Int.reduceToNat, Nat.reduceMul, Nat.reduceAdd, Nat.reduceBEq, isLd], by simp (maxSteps := 300000) (disch := omega) only [gs, gs2, gs3, gs4, ↓reduceIte, Nat.reduceEqDiff, Int.reduceToNat, Nat.reduceMul, Nat.reduceAdd, Nat.reduceBEq, isLd], by simp (maxSteps := 300000) (disch := omega) only [gs, gs2, gs3, gs4, ↓reduceIte, Nat.reduceEqDiff, Int.reduceToNat, Nat.reduceMul, Nat.reduceAdd, Nat.reduceBEq, isLd] <;> rfl, by omega, by omega, by
      have e : (fun i : Nat => if i < 0 then n + 1 else n) = fun _ => n := by funext i; rw [if_neg (by omega)]
      rw [e]; exact hA⟩ ?_
  clear hA hB
  rintro m T G' ⟨k, A', c', e1, e2, e6, e16, e17, hm, hkm, hA⟩
  simp (maxSteps := 300000) (disch := omega) only [gs, gs2, gs3, gs4, ↓reduceIte, Nat.reduceEqDiff, Int.reduceToNat, Nat.reduceMul, Nat.reduceAdd, Nat.reduceBEq, isLd, e1, e2, e6, e16, e17]
  by_cases hkk : (k : Int) < n
  · have hg := hA.get (show k < n by omega)
    rw [if_neg (Nat.lt_irrefl k)] at hg
    have hbk := (hb1.sub hA.sub).rd k (by omega)
    rw [hbF k (by omega)] at hbk
    have hsb := hb1.sn (by omega)
    simp (maxSteps := 300000) (disch := omega) only [gs, gs2, gs3, gs4, ↓reduceIte, Nat.reduceEqDiff, Int.reduceToNat, Nat.reduceMul, Nat.reduceAdd, Nat.reduceBEq, isLd, e1, e2, e6, e16, e17, hkk, hg, hbk, gBs]
    refine ⟨by intro v hv; simp at hv; subst hv; rfl, fun b30 hb30 => ?_⟩
    refine ⟨rd_sub (Sub.put hb30 _) hg, ?_⟩
    have hpush := (hA.up (Sub.put hb30 ⟨[Value.int .i64 (F k n)], true⟩)).push (k := k) (by omega) (by rw [if_neg (Nat.lt_irrefl k)]; omega) (Bn := some ⟨b30, 0, none⟩) (dn := 1)
    rw [if_neg (Nat.lt_irrefl k)] at hpush
    refine hpush (cells_one [.int .i64 (F k n)] true) fun G3 A3 c3 s3 hst => ?_
    have hbk3 := (hb1.sub s3).rd k (by omega)
    rw [hbF k (by omega)] at hbk3
    simp (maxSteps := 300000) (disch := omega) only [gs, gs2, gs3, gs4, ↓reduceIte, Nat.reduceEqDiff, Int.reduceToNat, Nat.reduceMul, Nat.reduceAdd, Nat.reduceBEq, isLd, e1, e2, e6, e16, e17]
    refine ⟨hbk3, hst _ fun G4 hA4 => ?_⟩
    simp (maxSteps := 300000) (disch := omega) only [gs, gs2, gs3, gs4, ↓reduceIte, Nat.reduceEqDiff, Int.reduceToNat, Nat.reduceMul, Nat.reduceAdd, Nat.reduceBEq, isLd, e1, e2, e6, e16, e17]
    have e : (fun i : Nat => if i < k + 1 then n + 1 else n) = fun i => if i = k then n + 1 else if i < k then n + 1 else n := by
      funext i
      by_cases h1 : i = k
      · rw [if_pos h1, if_pos (by omega)]
      · rw [if_neg h1]
        by_cases h2 : i < k
        · rw [if_pos h2, if_pos (by omega)]
        · rw [if_neg h2, if_neg (by omega)]
    rw [← e] at hA4
    exact ⟨m - 1, by omega, G4, Sub.refl _, k + 1, _, _, rfl, by omega, by omega, hA4⟩
  · obtain rfl : k = n := by omega
    have q0 := rd_sub hA.sub r0
    have q2 := rd_sub hA.sub r2
    simp (maxSteps := 300000) (disch := omega) only [gs, gs2, gs3, gs4, ↓reduceIte, Nat.reduceEqDiff, Int.reduceToNat, Nat.reduceMul, Nat.reduceAdd, Nat.reduceBEq, isLd, e1, e2, e6, e16, e17, hkk, q0, q2]
    have hw := hA.rw' (C := k + 1) fun i hi => if_pos hi
    rw [show ((k : Int) + 1) = ((k + 1 : Nat) : Int) from rfl]
    refine impl_eliminate_ok hw hcap (by omega) (by omega) hr hp fun G6 A6 c6 Ap6 cq6 hw6 hP => ?_
    have hpl := elF_len p k F (k + 1)
    have hpb := elF_piv p k F (k + 1)
    have q2 := rd_sub hw6.sub r2
    generalize elF p k F (k + 1) = E at *
    simp (maxSteps := 300000) (disch := omega) only [gs, gs2, gs3, gs4, ↓reduceIte, Nat.reduceEqDiff, Int.reduceToNat, Nat.reduceMul, Nat.reduceAdd, Nat.reduceBEq, isLd, e1, e2, e6, e16, e17, q2]
    refine ⟨k, k, rfl, rfl, Nat.le_refl _, by omega, by omega, fun bx hbx => ?_⟩
    have hz : zc [.int .i64 0] k = fcells k (solX E k 0) := by rw [zc_one, rep_range]; rfl
    rw [hz]
    simp (maxSteps := 300000) (disch := omega) only [gs, gs2, gs3, gs4, ↓reduceIte, Nat.reduceEqDiff, Int.reduceToNat, Nat.reduceMul, Nat.reduceAdd, Nat.reduceBEq, isLd]
    refine gLoop_intro (fun m T G' => ∃ j : Nat, T 2 = .pointer (some ⟨b2, 0, none⟩) ∧ T 6 = .slice (some ⟨bO, 0, none⟩) k cbo ∧ T 10 = .slice (some ⟨bx, 0, none⟩) k k ∧ T 47 = .slice Ap6 E.piv.length cq6 ∧ T 48 = .int .i64 E.piv.length ∧ T 49 = .int .i64 j ∧ m + j = E.piv.length ∧ j ≤ E.piv.length ∧ Sub G6 G' ∧ G' bx = some ⟨fcells k (solX E k j), true⟩ ∧ ∀ i, i < j → E.piv.getD i 0 ≠ k)
      E.piv.length ⟨0, by simp (maxSteps := 300000) (disch := omega) only [gs, gs2, gs3, gs4, ↓reduceIte, Nat.reduceEqDiff, Int.reduceToNat, Nat.reduceMul, Nat.reduceAdd, Nat.reduceBEq, isLd, e2], by simp (maxSteps := 300000) (disch := omega) only [gs, gs2, gs3, gs4, ↓reduceIte, Nat.reduceEqDiff, Int.reduceToNat, Nat.reduceMul, Nat.reduceAdd, Nat.reduceBEq, isLd, e6], by simp (maxSteps := 300000) (disch := omega) only [gs, gs2, gs3, gs4, ↓reduceIte, Nat.reduceEqDiff, Int.reduceToNat, Nat.reduceMul, Nat.reduceAdd, Nat.reduceBEq, isLd], by simp (maxSteps := 300000) (disch := omega) only [gs, gs2, gs3, gs4, ↓reduceIte, Nat.reduceEqDiff, Int.reduceToNat, Nat.reduceMul, Nat.reduceAdd, Nat.reduceBEq, isLd], by simp (maxSteps := 300000) (disch := omega) only [gs, gs2, gs3, gs4, ↓reduceIte, Nat.reduceEqDiff, Int.reduceToNat, Nat.reduceMul, Nat.reduceAdd, Nat.reduceBEq, isLd], by simp (maxSteps := 300000) (disch := omega) only [gs, gs2, gs3, gs4, ↓reduceIte, Nat.reduceEqDiff, Int.reduceToNat, Nat.reduceMul, Nat.reduceAdd, Nat.reduceBEq, isLd] <;> rfl, by omega, by omega, Sub.put hbx _, put_same _ _ _, fun i hi => by omega⟩ ?_
    clear e1 e2 e6 e16 e17 hm hkm hA hkk
    rintro m T G' ⟨j, e2, e6, e10, e47, e48, e49, hm, hjm, s6, hX, hne⟩
    have g2 := rd_sub s6 q2
    simp (maxSteps := 300000) (disch := omega) only [gs, gs2, gs3, gs4, ↓reduceIte, Nat.reduceEqDiff, Int.reduceToNat, Nat.reduceMul, Nat.reduceAdd, Nat.reduceBEq, isLd, e2, e6, e10, e47, e48, e49]
    by_cases hjj : (j : Int) < E.piv.length
    · have hpj := (hP.sub s6).rd j (by omega)
      have hsP := hP.sn (by omega)
      have hpbj := hpb j (by omega)
      simp (maxSteps := 300000) (disch := omega) only [gs, gs2, gs3, gs4, ↓reduceIte, Nat.reduceEqDiff, Int.reduceToNat, Nat.reduceMul, Nat.reduceAdd, Nat.reduceBEq, isLd, e2, e6, e10, e47, e48, e49, hjj, hpj, g2]
      by_cases hpn : E.piv.getD j 0 = k
      · simp (maxSteps := 300000) (disch := omega) only [gs, gs2, gs3, gs4, ↓reduceIte, Nat.reduceEqDiff, Int.reduceToNat, Nat.reduceMul, Nat.reduceAdd, Nat.reduceBEq, isLd, eq_true hpn, e2, e6, e10, e47, e48, e49, g2]
        exact ⟨G, s1.trans (hw6.sub.trans s6), h0 (by rw [← hpn]; simp [List.getD, show j < E.piv.length by omega])⟩
      · have gr := rd_sub s6 (hw6.get (show j < k by omega))
        have gc := rd_sub s6 (hw6.cell (show j < k by omega) (j := k) (by omega))
        have hsr := hw6.sn (show j < k by omega) (by omega)
        simp (maxSteps := 300000) (disch := omega) only [gs, gs2, gs3, gs4, ↓reduceIte, Nat.reduceEqDiff, Int.reduceToNat, Nat.reduceMul, Nat.reduceAdd, Nat.reduceBEq, isLd, eq_false hpn, e2, e6, e10, e47, e48, e49, g2, gr, gc]
        refine st_fcells hX (v := E.piv.getD j 0) (by omega) (by omega) fun G7 hX7 hK7 => ?_
        simp (maxSteps := 300000) (disch := omega) only [gs, gs2, gs3, gs4, ↓reduceIte, Nat.reduceEqDiff, Int.reduceToNat, Nat.reduceMul, Nat.reduceAdd, Nat.reduceBEq, isLd, e2, e6, e10, e47, e48, e49]
        exact ⟨m - 1, by omega, G7, Sub.refl _, j + 1, rfl, by omega, by omega, sub_keep hK7 hbx s6, hX7, fun i hi => by
          by_cases e : i = j
          · rw [e]; exact hpn
          · exact hne i (by omega)⟩
    · simp (maxSteps := 300000) (disch := omega) only [gs, gs2, gs3, gs4, ↓reduceIte, Nat.reduceEqDiff, Int.reduceToNat, Nat.reduceMul, Nat.reduceAdd, Nat.reduceBEq, isLd, e2, e6, e10, e47, e48, e49, hjj]
      obtain rfl : j = E.piv.length := by omega
      have sG := s1.trans (hw6.sub.trans s6)
      refine ⟨G', Sub.refl _, h1 (fun hmem => ?_) G' bx sG ((s1.trans hw6.sub).none hbx) hX⟩
      obtain ⟨i, hi, e⟩ := List.mem_iff_getElem.1 hmem
      exact hne i hi (by simp [List.getD, hi, e])
theorem Own.keep {G G' : GH} {A : Option Addr} {b c sz n : Nat} {cs : List Value} (h : Own G A c cs sz n) (hK : Keep b G G') (hb : ∀ a, A = some a → a.block ≠ b) : Own G' A c cs sz n := by
  rcases h with h1 | ⟨x, r, h1, h2, h3⟩
  · exact .inl h1
  · exact .inr ⟨x, r, h1, by rw [hK x (hb _ h1)]; exact h2, h3⟩
theorem New.offs {H G G' : GH} {A : Option Addr} {c sz n : Nat} {cs : List Value} (h : New G G' A c cs sz n) (s : Sub H G) : Off H A := fun a ha => by
  rcases h with ⟨h1, _⟩ | ⟨b, r, h1, h2, _⟩
  · rw [h1] at ha; cases ha
  · rw [h1] at ha; cases ha; exact s.none h2
theorem New.nb {G G' : GH} {A : Option Addr} {b c sz n : Nat} {cs : List Value} {e : Ent} (h : New G G' A c cs sz n) (hb : G b = some e) : ∀ a, A = some a → a.block ≠ b := fun a ha hx => by
  rcases h with ⟨h1, _⟩ | ⟨x, r, h1, h2, _⟩
  · rw [h1] at ha; cases ha
  · rw [h1] at ha; cases ha
    simp only at hx
    rw [hx, hb] at h2; cases h2
/-- bytes that came in. -/
def BytesV (G : GH) (v : Value) (L : Nat) : Prop := ∃ A c, v = .slice A L c ∧ BytS G A L c ∧ L ≤ 2 ^ 63 - 1
theorem open_bytes' {H : Type} {enc : TypeId × Value → H} {P : Program} {W : World} {t e : TypeId} (ht : P.underlying t = some (.slice e)) (he : P.underlying e = some (.int .u8)) (hs : P.cellsOf e = 1) {v : Value} {d : DataW H} {ps : List MemPlace} {r : Reach} {base : Nat}
    (hv : Value.okWide P W r base t v) (h : DataW.Trod enc P W 0 (fun _ => true) true t v d ps) : ∃ L, BytesV (G0 W) v L := by
  obtain ⟨A, n, c, rfl⟩ := Go.WideShapes.okWide_slice ht hv
  obtain ⟨fuel, hf⟩ := h
  obtain ⟨hc, hc2, hx⟩ := trod_sl ht hf
  rw [hs] at hx
  refine ⟨n, A, c, rfl, ⟨hc, fun i hi => ?_⟩, by omega⟩
  obtain ⟨cs, f', x', h1, h2, h3⟩ := hx i hi
  obtain ⟨z, rfl, _, hwf⟩ := DataW.trod_int he h3
  simp only [Lit.wf, Bool.and_eq_true, decide_eq_true_eq, IntKind.min, IntKind.max, IntKind.signed, IntKind.bits] at hwf
  have hb : 0 ≤ z ∧ z ≤ 255 := by simpa using hwf
  exact ⟨z, hb.1, hb.2, by simpa using h2 0 _ rfl⟩
/-- a cell of one's own list is written. -/
theorem Own.store {G : GH} {A : Option Addr} {c n : Nat} {cs : List Value} (h : Own G A c cs 1 n) {k : Nat} {v : Value} {K : Value → GH → Prop} (hk : k < n) (hv : oneB v = true) (hK : ∀ G', Own G' A c (cs.set k v) 1 n → (∀ H, Sub H G → Off H A → Sub H G') → K undef G') : gSt 1 (.pointer (pa A k)) v G K := by
  rcases h with ⟨_, _, h0, _⟩ | ⟨b, r, rfl, h2, h3, h4, h5⟩
  · omega
  · rw [pa_mk, Nat.zero_add]
    refine st_one h2 (by rw [h4]; omega) hv ?_
    rw [List.set_append_left _ _ (by omega)]
    exact hK _ (.inr ⟨b, r, rfl, put_same _ _ _, by simpa using h3, by simpa using h4, h5⟩) fun H s o => s.skip (o _ rfl)
theorem flatL_succ (k C : Nat) (f : Int → Int → Int) : flatL (k + 1) C f = flatL k C f ++ rowL C (f k) := by
  unfold flatL rowL
  rw [Nat.add_mul, Nat.one_mul, List.range_add, List.map_append, List.map_map]
  congr 1
  refine List.map_congr_left fun j hj => ?_
  have hj := List.mem_range.1 hj
  have h1 : (k * C + j) / C = k := by rw [Nat.mul_comm, Nat.mul_add_div (by omega), Nat.div_eq_of_lt hj, Nat.add_zero]
  have h2 : (k * C + j) % C = j := by rw [Nat.mul_comm, Nat.mul_add_mod, Nat.mod_eq_of_lt hj]
  show f (((k * C + j) / C : Nat) : Int) (((k * C + j) % C : Nat) : Int) = _
  rw [h1, h2]
theorem flatL_zero (C : Nat) (f : Int → Int → Int) : flatL 0 C f = [] := by simp [flatL]
theorem Off.put {H : GH} {b : Nat} {e e' : Ent} {A : Option Addr} (h : Off (Gh.put H b e) A) : Off (Gh.put H b e') A := fun a ha => by
  have := h a ha
  by_cases x : a.block = b
  · rw [x, put_same] at this; cases this
  · rw [put_ne _ _ x] at this ⊢; exact this
theorem Off.pne {H : GH} {b : Nat} {e : Ent} {A : Option Addr} (h : Off (Gh.put H b e) A) : ∀ a, A = some a → a.block ≠ b := fun a ha x => by
  have := h a ha
  rw [x, put_same] at this; cases this
theorem Sub.swap {H G G' : GH} {b : Nat} {e e' : Ent} (s : Sub (Gh.put H b e) G) (k : Keep b G G') (hb : G' b = some e') : Sub (Gh.put H b e') G' := fun x y hx => by
  by_cases c : x = b
  · subst c; rw [put_same] at hx; rw [hb]; exact hx
  · rw [put_ne _ _ c] at hx
    rw [k x c]
    exact s x y (by rw [put_ne _ _ c]; exact hx)
theorem slices_Grow_ok {G : GH} {n : Nat} (hn : 0 < n ∧ n < 2 ^ 40) {K : Value → GH → Prop} (hk : ∀ G' A c, New G G' A c [] 1 0 → K (.slice A 0 c) G') : GC Try.prog 252 [.slice none 0 0, .int .i64 n] G K := by
  refine c_slices_Grow_int64_int64_i (by simp) ?_
  have w1 := w64 (((0 : Nat) : Int) - ((0 : Nat) : Int)) (by omega) (by omega)
  have w2 := w64 ((n : Int) - (((0 : Nat) : Int) - ((0 : Nat) : Int))) (by omega) (by omega)
  have l1 : decide ((n : Int) < 0) = false := decide_eq_false (by omega)
  have l2 : decide (0 < (n : Int) - (((0 : Nat) : Int) - ((0 : Nat) : Int))) = true := decide_eq_true (by omega)
  have e1 : slV 1 (.slice none 0 0) none (some (.int .i64 ((0 : Nat) : Int))) = some (.slice none 0 0) := rfl
  simp (maxSteps := 300000) (disch := omega) only [gs, gs2, gs3, gs4, ↓reduceIte, Nat.reduceEqDiff, Int.reduceToNat, Nat.reduceMul, Nat.reduceAdd, Nat.reduceBEq, isLd, w1, w2, l1, l2, e1, Option.map_none]
  refine ⟨none, 0, 0, n, [], rfl, by rw [show ((n : Int) - (((0 : Nat) : Int) - ((0 : Nat) : Int))) = n by omega], rfl, fun j v hj => by simp at hj, by omega, by omega, hn.1, by omega, fun b c' hb hc => ⟨put G b ⟨zc [.int .i64 0] n ++ zc [.int .i64 0] (c' - n), true⟩, by rw [Nat.zero_add]; exact Sub.refl _, ?_⟩⟩
  have e2 : slV 1 (.slice (some ⟨b, 0, none⟩) n c') none (some (.int .i64 ((0 : Nat) : Int))) = some (.slice (some ⟨b, 0, none⟩) 0 c') := by
    simp only [slV, onSl, bndV, onInt]
    rw [if_pos ⟨by omega, by omega⟩]
    simp only [Option.bind_some, Int.toNat_natCast]
    rw [if_pos (by omega)]
    simp only [Nat.zero_mul, pa_mk, Nat.add_zero, Nat.sub_zero, ite_self]
  simp only [Nat.zero_add]
  simp (maxSteps := 300000) (disch := omega) only [gs, gs2, gs3, gs4, ↓reduceIte, Nat.reduceEqDiff, Int.reduceToNat, Nat.reduceMul, Nat.reduceAdd, Nat.reduceBEq, isLd, e2, Option.map_none]
  refine hk _ _ _ (.inr ⟨b, zc [.int .i64 0] n ++ zc [.int .i64 0] (c' - n), rfl, hb, rfl, rfl, ?_, by omega⟩)
  simp only [List.nil_append, List.length_append]
  simp only [zc, List.length_map, List.length_range, List.length_singleton, Nat.mul_one]
  omega
theorem slices_Concat_ok {G : GH} {Y : Option Addr} {R C cy : Nat} {f : Int → Int → Int} (h : RowsS G Y R C f) (hR : 0 < R ∧ R ≤ 2 ^ 10) (hC : 0 < C ∧ C ≤ 2 ^ 10) {K : Value → GH → Prop} (hk : ∀ G' A c, New G G' A c ((flatL R C f).map I64) 1 (R * C) → K (.slice A (R * C) c) G') : GC Try.prog 229 [.slice Y R cy] G K := by
  refine c_slices_Concat_int64_int64_i (by simp) ?_
  obtain ⟨A, c, h1, h2⟩ := h
  simp (maxSteps := 300000) (disch := omega) only [gs, gs2, gs3, gs4, ↓reduceIte, Nat.reduceEqDiff, Int.reduceToNat, Nat.reduceMul, Nat.reduceAdd, Nat.reduceBEq, isLd]
  refine gLoop_intro (fun m T G' => ∃ k : Nat, T 0 = .slice Y R cy ∧ T 3 = .int .i64 ((k * C : Nat) : Int) ∧ T 9 = .slice Y R cy ∧ T 10 = .int .i64 R ∧ T 11 = .int .i64 k ∧ m + k = R ∧ k ≤ R ∧ G' = G) R
    ⟨0, by simp (maxSteps := 300000) (disch := omega) only [gs, gs2, gs3, gs4, ↓reduceIte, Nat.reduceEqDiff, Int.reduceToNat, Nat.reduceMul, Nat.reduceAdd, Nat.reduceBEq, isLd], by simp (maxSteps := 300000) (disch := omega) only [gs, gs2, gs3, gs4, ↓reduceIte, Nat.reduceEqDiff, Int.reduceToNat, Nat.reduceMul, Nat.reduceAdd, Nat.reduceBEq, isLd] <;> rfl, by simp (maxSteps := 300000) (disch := omega) only [gs, gs2, gs3, gs4, ↓reduceIte, Nat.reduceEqDiff, Int.reduceToNat, Nat.reduceMul, Nat.reduceAdd, Nat.reduceBEq, isLd], by simp (maxSteps := 300000) (disch := omega) only [gs, gs2, gs3, gs4, ↓reduceIte, Nat.reduceEqDiff, Int.reduceToNat, Nat.reduceMul, Nat.reduceAdd, Nat.reduceBEq, isLd], by simp (maxSteps := 300000) (disch := omega) only [gs, gs2, gs3, gs4, ↓reduceIte, Nat.reduceEqDiff, Int.reduceToNat, Nat.reduceMul, Nat.reduceAdd, Nat.reduceBEq, isLd] <;> rfl, by omega, by omega, rfl⟩ ?_
  rintro m T G' ⟨k, e0, e3, e9, e10, e11, hm, hkl, rfl⟩
  simp (maxSteps := 300000) (disch := omega) only [gs, gs2, gs3, gs4, ↓reduceIte, Nat.reduceEqDiff, Int.reduceToNat, Nat.reduceMul, Nat.reduceAdd, Nat.reduceBEq, isLd, e0, e3, e9, e10, e11]
  by_cases hkk : (k : Int) < R
  · have hrk := h1 k (by omega)
    have hkC : k * C ≤ 2 ^ 10 * 2 ^ 10 := Nat.mul_le_mul (by omega) hC.2
    have w1 := w64 (((k * C : Nat) : Int) + (C : Int)) (by omega) (by omega)
    have l1 : decide (((k * C : Nat) : Int) + (C : Int) < 0) = false := decide_eq_false (by omega)
    have hsn : 0 < sn Y := rd_some' hrk
    simp (maxSteps := 300000) (disch := omega) only [gs, gs2, gs3, gs4, ↓reduceIte, Nat.reduceEqDiff, Int.reduceToNat, Nat.reduceMul, Nat.reduceAdd, Nat.reduceBEq, isLd, e0, e3, e9, e10, e11, hkk, hrk, hsn, w1, l1]
    exact ⟨m - 1, by omega, G', Sub.refl _, k + 1, by rw [Nat.add_mul, Nat.one_mul]; push_cast; rfl, rfl, by omega, by omega, rfl⟩
  · simp (maxSteps := 300000) (disch := omega) only [gs, gs2, gs3, gs4, ↓reduceIte, Nat.reduceEqDiff, Int.reduceToNat, Nat.reduceMul, Nat.reduceAdd, Nat.reduceBEq, isLd, e0, e3, e9, e10, e11, hkk]
    obtain rfl : k = R := by omega
    have hkC : 0 < k * C := Nat.mul_pos hR.1 hC.1
    have hkC2 : k * C ≤ 2 ^ 10 * 2 ^ 10 := Nat.mul_le_mul hR.2 hC.2
    refine slices_Grow_ok ⟨hkC, by omega⟩ fun G2 A2 c2 hN => ?_
    simp (maxSteps := 300000) (disch := omega) only [gs, gs2, gs3, gs4, ↓reduceIte, Nat.reduceEqDiff, Int.reduceToNat, Nat.reduceMul, Nat.reduceAdd, Nat.reduceBEq, isLd, e0, e3, e9, e10, e11]
    refine gLoop_intro (fun m T Gx => ∃ (i : Nat) (B : Option Addr) (cB : Nat), T 6 = .slice B (i * C) cB ∧ T 25 = .slice Y k cy ∧ T 26 = .int .i64 k ∧ T 27 = .int .i64 i ∧ m + i = k ∧ i ≤ k ∧ New G' Gx B cB ((flatL i C f).map I64) 1 (i * C)) k
      ⟨0, A2, c2, by simp (maxSteps := 300000) (disch := omega) only [gs, gs2, gs3, gs4, ↓reduceIte, Nat.reduceEqDiff, Int.reduceToNat, Nat.reduceMul, Nat.reduceAdd, Nat.reduceBEq, isLd] <;> rfl, by simp (maxSteps := 300000) (disch := omega) only [gs, gs2, gs3, gs4, ↓reduceIte, Nat.reduceEqDiff, Int.reduceToNat, Nat.reduceMul, Nat.reduceAdd, Nat.reduceBEq, isLd], by simp (maxSteps := 300000) (disch := omega) only [gs, gs2, gs3, gs4, ↓reduceIte, Nat.reduceEqDiff, Int.reduceToNat, Nat.reduceMul, Nat.reduceAdd, Nat.reduceBEq, isLd], by simp (maxSteps := 300000) (disch := omega) only [gs, gs2, gs3, gs4, ↓reduceIte, Nat.reduceEqDiff, Int.reduceToNat, Nat.reduceMul, Nat.reduceAdd, Nat.reduceBEq, isLd] <;> rfl, by omega, by omega, by rw [flatL_zero, Nat.zero_mul]; exact hN⟩ ?_
    clear e0 e3 e9 e10 e11 hm hkl hN
    rintro m' T' G3 ⟨i, B, cB, e6, e25, e26, e27, hm, hkl, hN⟩
    simp (maxSteps := 300000) (disch := omega) only [gs, gs2, gs3, gs4, ↓reduceIte, Nat.reduceEqDiff, Int.reduceToNat, Nat.reduceMul, Nat.reduceAdd, Nat.reduceBEq, isLd, e6, e25, e26, e27]
    by_cases hii : (i : Int) < k
    · have hri := rd_sub hN.sub (h1 i (by omega))
      have hsn : 0 < sn Y := rd_some' hri
      have hrow := (h2 i (by omega)).sub hN.sub
      have hiC : i * C ≤ 2 ^ 10 * 2 ^ 10 := Nat.mul_le_mul (by omega) hC.2
      simp (maxSteps := 300000) (disch := omega) only [gs, gs2, gs3, gs4, ↓reduceIte, Nat.reduceEqDiff, Int.reduceToNat, Nat.reduceMul, Nat.reduceAdd, Nat.reduceBEq, isLd, e6, e25, e26, e27, hii, hri, hsn]
      refine ap_new hN (Sub.refl _) (news := (rowL C (f i)).map I64) (m := C) ?_ (by simp [rowL_len]) (by intro v hv; obtain ⟨x, _, rfl⟩ := List.mem_map.1 hv; rfl) rfl (by omega) (by omega) (by omega) fun G4 B4 c4 hN4 => ?_
      · exact hrow.cells
      simp (maxSteps := 300000) (disch := omega) only [gs, gs2, gs3, gs4, ↓reduceIte, Nat.reduceEqDiff, Int.reduceToNat, Nat.reduceMul, Nat.reduceAdd, Nat.reduceBEq, isLd, e6, e25, e26, e27]
      exact ⟨m' - 1, by omega, G4, Sub.refl _, i + 1, B4, c4, by rw [Nat.add_mul, Nat.one_mul], rfl, by omega, by omega, hN4.cast (by rw [flatL_succ, List.map_append]) (by rw [Nat.add_mul, Nat.one_mul])⟩
    · simp (maxSteps := 300000) (disch := omega) only [gs, gs2, gs3, gs4, ↓reduceIte, Nat.reduceEqDiff, Int.reduceToNat, Nat.reduceMul, Nat.reduceAdd, Nat.reduceBEq, isLd, e6, e25, e26, e27, hii]
      obtain rfl : i = k := by omega
      exact hk _ _ _ hN
theorem impl_unit_fn1_ok {i j : Int} {G : GH} {K : Value → GH → Prop} (hk : K (.int .i64 (if i = j then 1 else 0)) G) : GC Try.prog 227 [.int .i64 i, .int .i64 j] G K := by
  refine c_impl_unit_fn1_i (by simp) ?_
  by_cases h : i = j
  · rw [if_pos h] at hk
    simp (maxSteps := 300000) (disch := omega) only [gs, gs2, gs3, gs4, ↓reduceIte, Nat.reduceEqDiff, Int.reduceToNat, Nat.reduceMul, Nat.reduceAdd, Nat.reduceBEq, isLd, eq_true h]
    exact hk
  · rw [if_neg h] at hk
    simp (maxSteps := 300000) (disch := omega) only [gs, gs2, gs3, gs4, ↓reduceIte, Nat.reduceEqDiff, Int.reduceToNat, Nat.reduceMul, Nat.reduceAdd, Nat.reduceBEq, isLd, eq_false h]
    exact hk
theorem impl_filled_unit_ok {G : GH} {p : Int} {n : Nat} (hn : n ≤ 2 ^ 10) {K : Value → GH → Prop} (hk : ∀ G' A c, Sub G G' → Off G A → Own G' A c ((flatL n n (fun i j => if i = j then 1 else 0)).map I64) 1 (n * n) → K (matV p n n A (n * n) c) G') :
    GC Try.prog 226 [.int .i64 p, .int .i64 n, .int .i64 n, .func (.func 227) #[] #[]] G K := by
  refine c_impl_filled_i (by simp) ?_
  generalize hdl : (fun i j : Int => if i = j then (1 : Int) else 0) = dl at hk
  simp (maxSteps := 300000) (disch := omega) only [gs, gs2, gs3, gs4, ↓reduceIte, Nat.reduceEqDiff, Int.reduceToNat, Nat.reduceMul, Nat.reduceAdd, Nat.reduceBEq, isLd]
  intro b8 hb8
  simp (maxSteps := 300000) (disch := omega) only [gs, gs2, gs3, gs4, ↓reduceIte, Nat.reduceEqDiff, Int.reduceToNat, Nat.reduceMul, Nat.reduceAdd, Nat.reduceBEq, isLd]
  intro b9 hb9
  have s8 := Sub.put hb8 ⟨[.int .i64 0, .int .i64 0, .int .i64 0, .slice none 0 0], true⟩
  have g8 : put G b8 ⟨[.int .i64 0, .int .i64 0, .int .i64 0, .slice none 0 0], true⟩ b8 = some ⟨[.int .i64 0, .int .i64 0, .int .i64 0, .slice none 0 0], true⟩ := put_same _ _ _
  revert hb9 s8 g8
  generalize put G b8 ⟨[.int .i64 0, .int .i64 0, .int .i64 0, .slice none 0 0], true⟩ = H
  intro hb9 s8 g8
  simp (maxSteps := 300000) (disch := omega) only [gs, gs2, gs3, gs4, ↓reduceIte, Nat.reduceEqDiff, Int.reduceToNat, Nat.reduceMul, Nat.reduceAdd, Nat.reduceBEq, isLd]
  refine st_many (vs := matC p n n none 0 0) rfl (put_same _ _ _) rfl (by simp) (by intro v hv; simp [matC] at hv; rcases hv with rfl | rfl | rfl | rfl <;> rfl) ?_
  rw [put_put']
  simp (maxSteps := 300000) (disch := omega) only [gs, gs2, gs3, gs4, ↓reduceIte, Nat.reduceEqDiff, Int.reduceToNat, Nat.reduceMul, Nat.reduceAdd, Nat.reduceBEq, isLd, over, matC]
  refine gLoop_intro (fun m T G' => ∃ (i : Nat) (B : Option Addr) (c : Nat), T 1 = .int .i64 n ∧ T 2 = .int .i64 n ∧ T 3 = .func (.func 227) #[] #[] ∧ T 8 = .pointer (some ⟨b8, 0, none⟩) ∧ T 9 = .pointer (some ⟨b9, 0, none⟩) ∧ T 16 = .int .i64 n ∧ T 17 = .int .i64 i ∧ m + i = n ∧ i ≤ n ∧
      Sub (put H b9 ⟨matC p n n B (i * n) c, true⟩) G' ∧ Off (put H b9 ⟨matC p n n B (i * n) c, true⟩) B ∧ Own G' B c ((flatL i n dl).map I64) 1 (i * n)) n
    ⟨0, none, 0, by simp (maxSteps := 300000) (disch := omega) only [gs, gs2, gs3, gs4, ↓reduceIte, Nat.reduceEqDiff, Int.reduceToNat, Nat.reduceMul, Nat.reduceAdd, Nat.reduceBEq, isLd], by simp (maxSteps := 300000) (disch := omega) only [gs, gs2, gs3, gs4, ↓reduceIte, Nat.reduceEqDiff, Int.reduceToNat, Nat.reduceMul, Nat.reduceAdd, Nat.reduceBEq, isLd], by simp (maxSteps := 300000) (disch := omega) only [gs, gs2, gs3, gs4, ↓reduceIte, Nat.reduceEqDiff, Int.reduceToNat, Nat.reduceMul, Nat.reduceAdd, Nat.reduceBEq, isLd], by simp (maxSteps := 300000) (disch := omega) only [gs, gs2, gs3, gs4, ↓reduceIte, Nat.reduceEqDiff, Int.reduceToNat, Nat.reduceMul, Nat.reduceAdd, Nat.reduceBEq, isLd], by simp (maxSteps := 300000) (disch := omega) only [gs, gs2, gs3, gs4, ↓reduceIte, Nat.reduceEqDiff, Int.reduceToNat, Nat.reduceMul, Nat.reduceAdd, Nat.reduceBEq, isLd], by simp (maxSteps := 300000) (disch := omega) only [gs, gs2, gs3, gs4, ↓reduceIte, Nat.reduceEqDiff, Int.reduceToNat, Nat.reduceMul, Nat.reduceAdd, Nat.reduceBEq, isLd], by simp (maxSteps := 300000) (disch := omega) only [gs, gs2, gs3, gs4, ↓reduceIte, Nat.reduceEqDiff, Int.reduceToNat, Nat.reduceMul, Nat.reduceAdd, Nat.reduceBEq, isLd] <;> rfl, by omega, by omega, by rw [Nat.zero_mul]; exact Sub.refl _, Off.nil _, by rw [Nat.zero_mul, flatL_zero]; exact Own.nil _ _⟩ ?_
  rintro m T G' ⟨i, B, c, e1, e2, e3, e8, e9, e16, e17, hm, hi, hS, hO, hW⟩
  simp (maxSteps := 300000) (disch := omega) only [gs, gs2, gs3, gs4, ↓reduceIte, Nat.reduceEqDiff, Int.reduceToNat, Nat.reduceMul, Nat.reduceAdd, Nat.reduceBEq, isLd, e1, e2, e3, e8, e9, e16, e17]
  by_cases hii : (i : Int) < n
  · simp (maxSteps := 300000) (disch := omega) only [gs, gs2, gs3, gs4, ↓reduceIte, Nat.reduceEqDiff, Int.reduceToNat, Nat.reduceMul, Nat.reduceAdd, Nat.reduceBEq, isLd, e1, e2, e3, e8, e9, e16, e17, hii]
    refine gLoop_intro (fun m' T' G' => ∃ (j : Nat) (B : Option Addr) (c : Nat), T' 1 = .int .i64 n ∧ T' 2 = .int .i64 n ∧ T' 3 = .func (.func 227) #[] #[] ∧ T' 8 = .pointer (some ⟨b8, 0, none⟩) ∧ T' 9 = .pointer (some ⟨b9, 0, none⟩) ∧ T' 10 = .int .i64 i ∧ T' 16 = .int .i64 n ∧ T' 17 = .int .i64 i ∧ T' 20 = .int .i64 n ∧ T' 21 = .int .i64 j ∧ m' + j = n ∧ j ≤ n ∧
        Sub (put H b9 ⟨matC p n n B (i * n + j) c, true⟩) G' ∧ Off (put H b9 ⟨matC p n n B (i * n + j) c, true⟩) B ∧ Own G' B c ((flatL i n dl ++ rowL j (dl i)).map I64) 1 (i * n + j)) n
      ⟨0, B, c, by simp (maxSteps := 300000) (disch := omega) only [gs, gs2, gs3, gs4, ↓reduceIte, Nat.reduceEqDiff, Int.reduceToNat, Nat.reduceMul, Nat.reduceAdd, Nat.reduceBEq, isLd, e1], by simp (maxSteps := 300000) (disch := omega) only [gs, gs2, gs3, gs4, ↓reduceIte, Nat.reduceEqDiff, Int.reduceToNat, Nat.reduceMul, Nat.reduceAdd, Nat.reduceBEq, isLd, e2], by simp (maxSteps := 300000) (disch := omega) only [gs, gs2, gs3, gs4, ↓reduceIte, Nat.reduceEqDiff, Int.reduceToNat, Nat.reduceMul, Nat.reduceAdd, Nat.reduceBEq, isLd, e3], by simp (maxSteps := 300000) (disch := omega) only [gs, gs2, gs3, gs4, ↓reduceIte, Nat.reduceEqDiff, Int.reduceToNat, Nat.reduceMul, Nat.reduceAdd, Nat.reduceBEq, isLd, e8], by simp (maxSteps := 300000) (disch := omega) only [gs, gs2, gs3, gs4, ↓reduceIte, Nat.reduceEqDiff, Int.reduceToNat, Nat.reduceMul, Nat.reduceAdd, Nat.reduceBEq, isLd, e9], by simp (maxSteps := 300000) (disch := omega) only [gs, gs2, gs3, gs4, ↓reduceIte, Nat.reduceEqDiff, Int.reduceToNat, Nat.reduceMul, Nat.reduceAdd, Nat.reduceBEq, isLd], by simp (maxSteps := 300000) (disch := omega) only [gs, gs2, gs3, gs4, ↓reduceIte, Nat.reduceEqDiff, Int.reduceToNat, Nat.reduceMul, Nat.reduceAdd, Nat.reduceBEq, isLd, e16], by simp (maxSteps := 300000) (disch := omega) only [gs, gs2, gs3, gs4, ↓reduceIte, Nat.reduceEqDiff, Int.reduceToNat, Nat.reduceMul, Nat.reduceAdd, Nat.reduceBEq, isLd, e17], by simp (maxSteps := 300000) (disch := omega) only [gs, gs2, gs3, gs4, ↓reduceIte, Nat.reduceEqDiff, Int.reduceToNat, Nat.reduceMul, Nat.reduceAdd, Nat.reduceBEq, isLd], by simp (maxSteps := 300000) (disch := omega) only [gs, gs2, gs3, gs4, ↓reduceIte, Nat.reduceEqDiff, Int.reduceToNat, Nat.reduceMul, Nat.reduceAdd, Nat.reduceBEq, isLd] <;> rfl, by omega, by omega, hS, hO, by rw [show rowL 0 (dl i) = [] from rfl, List.append_nil]; exact hW⟩ ?_
    clear e1 e2 e3 e8 e9 e16 e17 hS hO hW B c G'
    rintro m' T' G' ⟨j, B, c, e1, e2, e3, e8, e9, e10, e16, e17, e20, e21, hm', hj, hS, hO, hW⟩
    simp (maxSteps := 300000) (disch := omega) only [gs, gs2, gs3, gs4, ↓reduceIte, Nat.reduceEqDiff, Int.reduceToNat, Nat.reduceMul, Nat.reduceAdd, Nat.reduceBEq, isLd, e1, e2, e3, e8, e9, e10, e16, e17, e20, e21]
    by_cases hjj : (j : Int) < n
    · have r3 : rd G' (some ⟨b9, 3, none⟩) = some (.slice B (i * n + j) c) := rd_sub hS (rd_box _ _ _ 3 _ rfl)
      have hin : i * n ≤ 2 ^ 10 * 2 ^ 10 := Nat.mul_le_mul (by omega) hn
      simp (maxSteps := 300000) (disch := omega) only [gs, gs2, gs3, gs4, ↓reduceIte, Nat.reduceEqDiff, Int.reduceToNat, Nat.reduceMul, Nat.reduceAdd, Nat.reduceBEq, isLd, e1, e2, e3, e8, e9, e10, e16, e17, e20, e21, hjj, r3]
      refine impl_unit_fn1_ok ?_
      have hd : (if (i : Int) = (j : Int) then (1 : Int) else 0) = dl i j := by rw [← hdl]
      rw [hd]
      simp (maxSteps := 300000) (disch := omega) only [gs, gs2, gs3, gs4, ↓reduceIte, Nat.reduceEqDiff, Int.reduceToNat, Nat.reduceMul, Nat.reduceAdd, Nat.reduceBEq, isLd, e1, e2, e3, e8, e9, e10, e16, e17, e20, e21, r3, gBs]
      refine ⟨by intro v hv; simp at hv; subst hv; rfl, fun b15 hb15 => ?_⟩
      have s15 := Sub.put hb15 ⟨[.int .i64 (dl i j)], true⟩
      refine ⟨rd_sub s15 r3, ?_⟩
      refine ap_own (hW.sub s15) (news := [I64 (dl i j)]) (m := 1) (cells_one _ true) rfl (by intro v hv; simp at hv; subst hv; rfl) rfl (by omega) (by omega) (by omega) fun G3 A3 c3' hW3 keep => ?_
      obtain ⟨hS3, hO3⟩ := keep _ (hS.trans s15) hO
      simp (maxSteps := 300000) (disch := omega) only [gs, gs2, gs3, gs4, ↓reduceIte, Nat.reduceEqDiff, Int.reduceToNat, Nat.reduceMul, Nat.reduceAdd, Nat.reduceBEq, isLd, e1, e2, e3, e8, e9, e10, e16, e17, e20, e21]
      refine st_src (hS3 _ _ (put_same _ _ _)) rfl (by simp [matC]) fun G4 k4 g4 => ?_
      simp (maxSteps := 300000) (disch := omega) only [gs, gs2, gs3, gs4, ↓reduceIte, Nat.reduceEqDiff, Int.reduceToNat, Nat.reduceMul, Nat.reduceAdd, Nat.reduceBEq, isLd, e1, e2, e3, e8, e9, e10, e16, e17, e20, e21]
      refine ⟨m' - 1, by omega, G4, Sub.refl _, j + 1, A3, c3', rfl, by omega, by omega, hS3.swap k4 g4, hO3.put, ?_⟩
      rw [rowL_succ, ← List.append_assoc, List.map_append]
      exact hW3.keep k4 hO3.pne
    · simp (maxSteps := 300000) (disch := omega) only [gs, gs2, gs3, gs4, ↓reduceIte, Nat.reduceEqDiff, Int.reduceToNat, Nat.reduceMul, Nat.reduceAdd, Nat.reduceBEq, isLd, e1, e2, e3, e8, e9, e10, e16, e17, e20, e21, hjj]
      obtain rfl : j = n := by omega
      refine ⟨m - 1, by omega, G', Sub.refl _, i + 1, B, c, rfl, by omega, by omega, ?_⟩
      rw [flatL_succ, Nat.add_mul, Nat.one_mul]
      exact ⟨hS, hO, hW⟩
  · simp (maxSteps := 300000) (disch := omega) only [gs, gs2, gs3, gs4, ↓reduceIte, Nat.reduceEqDiff, Int.reduceToNat, Nat.reduceMul, Nat.reduceAdd, Nat.reduceBEq, isLd, e1, e2, e3, e8, e9, e16, e17, hii]
    obtain rfl : i = n := by omega
    have r0 : rd G' (some ⟨b9, 0, none⟩) = some (.int .i64 p) := rd_sub hS (rd_box _ _ _ 0 _ rfl)
    have r1 : rd G' (some ⟨b9, 1, none⟩) = some (.int .i64 i) := rd_sub hS (rd_box _ _ _ 1 _ rfl)
    have r2 : rd G' (some ⟨b9, 2, none⟩) = some (.int .i64 i) := rd_sub hS (rd_box _ _ _ 2 _ rfl)
    have r3 : rd G' (some ⟨b9, 3, none⟩) = some (.slice B (i * i) c) := rd_sub hS (rd_box _ _ _ 3 _ rfl)
    have n89 : b8 ≠ b9 := fun x => by rw [x, hb9] at g8; cases g8
    have sH : Sub H G' := fun x e hx => hS x e (by rw [put_ne _ _ (fun y => by rw [y, hb9] at hx; cases hx)]; exact hx)
    simp (maxSteps := 300000) (disch := omega) only [gs, gs2, gs3, gs4, ↓reduceIte, Nat.reduceEqDiff, Int.reduceToNat, Nat.reduceMul, Nat.reduceAdd, Nat.reduceBEq, isLd, e8, e9, r0, r1, r2, r3]
    refine st_many (vs := matC p i i B (i * i) c) rfl (sH _ _ g8) rfl (by simp) (by intro v hv; simp [matC] at hv; rcases hv with rfl | rfl | rfl | rfl <;> rfl) ?_
    simp (maxSteps := 300000) (disch := omega) only [gs, gs2, gs3, gs4, ↓reduceIte, Nat.reduceEqDiff, Int.reduceToNat, Nat.reduceMul, Nat.reduceAdd, Nat.reduceBEq, isLd, over, matC, e8]
    have oH : Off H B := fun a ha => by
      have := hO a ha
      rwa [put_ne _ _ (hO.pne a ha)] at this
    have nb : ∀ a, B = some a → a.block ≠ b8 := fun a ha x => by
      have := oH a ha
      rw [x, g8] at this; cases this
    exact hk _ _ _ ((s8.trans sH).skip hb8) (oH.mono s8) (hW.put nb _)
theorem impl_unit_ok {G : GH} {p : Int} {n : Nat} (hn : n ≤ 2 ^ 10) {K : Value → GH → Prop} (hk : ∀ G' A c, Sub G G' → Off G A → Own G' A c ((flatL n n (fun i j => if i = j then 1 else 0)).map I64) 1 (n * n) → K (matV p n n A (n * n) c) G') :
    GC Try.prog 167 [.int .i64 p, .int .i64 n] G K := by
  refine c_impl_unit_i (by simp) ?_
  simp (maxSteps := 300000) (disch := omega) only [gs, gs2, gs3, gs4, ↓reduceIte, Nat.reduceEqDiff, Int.reduceToNat, Nat.reduceMul, Nat.reduceAdd, Nat.reduceBEq, isLd]
  intro b4 hb4
  simp (maxSteps := 300000) (disch := omega) only [gs, gs2, gs3, gs4, ↓reduceIte, Nat.reduceEqDiff, Int.reduceToNat, Nat.reduceMul, Nat.reduceAdd, Nat.reduceBEq, isLd]
  refine impl_filled_unit_ok hn fun G2 A c hS hO hW => ?_
  have g4 := hS _ _ (put_same _ _ _)
  simp (maxSteps := 300000) (disch := omega) only [gs, gs2, gs3, gs4, ↓reduceIte, Nat.reduceEqDiff, Int.reduceToNat, Nat.reduceMul, Nat.reduceAdd, Nat.reduceBEq, isLd]
  refine st_many (vs := matC p n n A (n * n) c) rfl g4 rfl (by simp) (by intro v hv; simp [matC] at hv; rcases hv with rfl | rfl | rfl | rfl <;> rfl) ?_
  simp (maxSteps := 300000) (disch := omega) only [gs, gs2, gs3, gs4, ↓reduceIte, Nat.reduceEqDiff, Int.reduceToNat, Nat.reduceMul, Nat.reduceAdd, Nat.reduceBEq, isLd, over, matC]
  have nb : ∀ a, A = some a → a.block ≠ b4 := hO.pne
  have sG : Sub G G2 := (Sub.put hb4 _).trans hS
  exact hk _ _ _ (sG.skip hb4) (hO.mono (Sub.put hb4 _)) (hW.put nb _)
theorem impl_matrixOf_ok {G : GH} {Y : Option Addr} {n cy : Nat} {p : Int} {f : Int → Int → Int} (h : RowsS G Y n n f) (hn : 0 < n ∧ n ≤ 2 ^ 10) {K : Value → GH → Prop} (hk : ∀ G' A c, Sub G G' → IntS G' A c (flatL n n f) → K (matV p n n A (n * n) c) G') : GC Try.prog 169 [.int .i64 p, .int .i64 n, .slice Y n cy] G K := by
  refine c_impl_matrixOf_i (by simp) ?_
  simp (maxSteps := 300000) (disch := omega) only [gs, gs2, gs3, gs4, ↓reduceIte, Nat.reduceEqDiff, Int.reduceToNat, Nat.reduceMul, Nat.reduceAdd, Nat.reduceBEq, isLd]
  intro b6 hb6
  simp (maxSteps := 300000) (disch := omega) only [gs, gs2, gs3, gs4, ↓reduceIte, Nat.reduceEqDiff, Int.reduceToNat, Nat.reduceMul, Nat.reduceAdd, Nat.reduceBEq, isLd]
  refine c_impl_size_S_int64_i (by simp) ?_
  simp (maxSteps := 300000) (disch := omega) only [gs, gs2, gs3, gs4, ↓reduceIte, Nat.reduceEqDiff, Int.reduceToNat, Nat.reduceMul, Nat.reduceAdd, Nat.reduceBEq, isLd]
  refine slices_Concat_ok (h.sub (Sub.put hb6 _)) hn hn fun G2 A c hN => ?_
  have g6 := hN.sub _ _ (put_same _ _ _)
  have hb : bldV [Value.int IntKind.i64 0, Value.int IntKind.i64 0, Value.int IntKind.i64 0, Value.slice none 0 0] [(0, 1, Value.int IntKind.i64 p), (1, 1, Value.int IntKind.i64 n), (2, 1, Value.int IntKind.i64 n), (3, 1, Value.slice A (n * n) c)] = some (matC p n n A (n * n) c) := rfl
  simp (maxSteps := 300000) (disch := omega) only [gs, gs2, gs3, gs4, ↓reduceIte, Nat.reduceEqDiff, Int.reduceToNat, Nat.reduceMul, Nat.reduceAdd, Nat.reduceBEq, isLd, hb]
  refine st_many (vs := matC p n n A (n * n) c) rfl g6 rfl (by simp) (by intro v hv; simp [matC] at hv; rcases hv with rfl | rfl | rfl | rfl <;> rfl) ?_
  simp (maxSteps := 300000) (disch := omega) only [gs, gs2, gs3, gs4, ↓reduceIte, Nat.reduceEqDiff, Int.reduceToNat, Nat.reduceMul, Nat.reduceAdd, Nat.reduceBEq, isLd, over, matC]
  have nb : ∀ a, A = some a → a.block ≠ b6 := hN.nb (put_same _ _ _)
  exact hk _ _ _ (((Sub.put hb6 _).trans hN.sub).skip hb6) ((hN.fresh.put nb _).ints' (by simp [flatL_len]))
/-- the rows of the equations while they are made, with the list of what they give. -/
structure Hx (H G : GH) (bO bg : Nat) (B o cp : Nat → Nat) (n k : Nat) (f : Int → Int → Int) (q : Int → Int) : Prop where
  sub : Sub H G
  nO : H bO = none
  ng : H bg = none
  bo : G bO = some ⟨rowsC (fun i => some ⟨B i, o i, none⟩) cp n n, true⟩
  gg : G bg = some ⟨fcells n q, true⟩
  nB : ∀ i, i < n → H (B i) = none
  ne : ∀ i, i < n → B i ≠ bO ∧ B i ≠ bg
  og : bO ≠ bg
  row : ∀ i j : Nat, i < n → j < n → rd G (some ⟨B i, o i + j, none⟩) = some (.int .i64 (f i j))
  cap : ∀ i, i < n → n ≤ cp i
  todo : ∀ i : Nat, k ≤ i → i < n → o i = 0 ∧ G (B i) = some ⟨fcells n (f i), true⟩
  inj : ∀ i j, i < n → k ≤ j → j < n → i ≠ j → B i ≠ B j
theorem Hx.up {H G G' : GH} {bO bg : Nat} {B o cp : Nat → Nat} {n k : Nat} {f : Int → Int → Int} {q : Int → Int} (h : Hx H G bO bg B o cp n k f q) (s : Sub G G') : Hx H G' bO bg B o cp n k f q :=
  ⟨h.sub.trans s, h.nO, h.ng, s _ _ h.bo, s _ _ h.gg, h.nB, h.ne, h.og, fun i j hi hj => rd_sub s (h.row i j hi hj), h.cap, fun i hi hn => ⟨(h.todo i hi hn).1, s _ _ (h.todo i hi hn).2⟩, h.inj⟩
theorem Hx.get {H G : GH} {bO bg : Nat} {B o cp : Nat → Nat} {n k : Nat} {f : Int → Int → Int} {q : Int → Int} (h : Hx H G bO bg B o cp n k f q) {i : Nat} (hi : i < n) : rd G (some ⟨bO, i, none⟩) = some (.slice (some ⟨B i, o i, none⟩) n (cp i)) := by
  simp only [rd, h.bo, Option.bind_some]; rw [rowsC_get hi]
theorem Hx.next {H G : GH} {bO bg : Nat} {B o cp : Nat → Nat} {n k : Nat} {f : Int → Int → Int} {q : Int → Int} (h : Hx H G bO bg B o cp n k f q) : Hx H G bO bg B o cp n (k + 1) f q :=
  ⟨h.sub, h.nO, h.ng, h.bo, h.gg, h.nB, h.ne, h.og, h.row, h.cap, fun i hi => h.todo i (by omega), fun i j hi hj => h.inj i j hi (by omega)⟩
theorem fcells_conN {n : Nat} {f g : Int → Int} (e : ∀ j : Nat, j < n → f j = g j) : fcells n f = fcells n g := by rw [fcells_rowL, fcells_rowL, rowL_congr e]
theorem Hx.cong {H G : GH} {bO bg : Nat} {B o cp : Nat → Nat} {n k : Nat} {f f' : Int → Int → Int} {q q' : Int → Int} (h : Hx H G bO bg B o cp n k f q) (e : ∀ i j : Nat, i < n → j < n → f i j = f' i j) (e' : ∀ j : Nat, j < n → q j = q' j) : Hx H G bO bg B o cp n k f' q' :=
  ⟨h.sub, h.nO, h.ng, h.bo, by rw [h.gg, fcells_conN e'], h.nB, h.ne, h.og, fun i j hi hj => by rw [← e i j hi hj]; exact h.row i j hi hj, h.cap, fun i hi hn => ⟨(h.todo i hi hn).1, by rw [(h.todo i hi hn).2, fcells_conN fun j hj => e i j hn hj]⟩, h.inj⟩
/-- a cell of the row at hand is written. -/
theorem Hx.st {H G : GH} {bO bg : Nat} {B o cp : Nat → Nat} {n k : Nat} {f : Int → Int → Int} {q : Int → Int} (h : Hx H G bO bg B o cp n k f q) (hk : k < n) {j : Nat} (hj : j < n) {x : Int} {K : Value → GH → Prop} (hK : ∀ G', Hx H G' bO bg B o cp n k (upd2 f k j x) q → K undef G') : gSt 1 (.pointer (some ⟨B k, o k + j, none⟩)) (.int .i64 x) G K := by
  obtain ⟨ho, hb⟩ := h.todo k (Nat.le_refl _) hk
  rw [ho, Nat.zero_add]
  have hf := st_fcells (b := B k) (f := f k) (K := K) hb (v := (j : Int)) (x := x) (by omega) (by omega)
  rw [Int.toNat_natCast] at hf
  refine hf fun G' hb' hK' => hK G' ?_
  have hN := h.ne k hk
  refine ⟨sub_keep hK' (h.nB k hk) h.sub, h.nO, h.ng, by rw [hK' _ hN.1.symm]; exact h.bo, by rw [hK' _ hN.2.symm]; exact h.gg, h.nB, h.ne, h.og, fun i j' hi hj' => ?_, h.cap, fun i hi hn => ⟨(h.todo i hi hn).1, ?_⟩, h.inj⟩
  · by_cases e : i = k
    · subst e
      have hr := rd_fcells hb' (v := (j' : Int)) (by omega) (by omega)
      rw [Int.toNat_natCast] at hr
      rw [ho, Nat.zero_add, hr]
      unfold updAt upd2
      by_cases e2 : j' = j
      · subst e2; simp
      · rw [if_neg (by omega), if_neg (by omega)]
    · have e3 : ¬ ((i : Int) = k ∧ (j' : Int) = j) := by omega
      have : upd2 f k j x i j' = f i j' := by unfold upd2; rw [if_neg e3]
      rw [this]
      exact rd_keep hK' (h.inj i k hi (Nat.le_refl _) hk e) (h.row i j' hi hj')
  · by_cases e : i = k
    · subst e
      rw [hb']
      have : updAt (f i) j x = upd2 f i j x i := by funext b; simp [updAt, upd2]
      rw [this]
    · rw [hK' _ (h.inj i k hn (Nat.le_refl _) hk e), (h.todo i hi hn).2]
      rw [fcells_conN (g := upd2 f k j x i) fun b hb => by unfold upd2; rw [if_neg (by omega)]]
/-- the row at hand is exchanged for another one. -/
theorem Hx.put {H G : GH} {bO bg : Nat} {B o cp : Nat → Nat} {n k : Nat} {f : Int → Int → Int} {q : Int → Int} (h : Hx H G bO bg B o cp n k f q) (hk : k < n) {b' o' c' : Nat} {r : Int → Int} (hr : ∀ j : Nat, j < n → rd G (some ⟨b', o' + j, none⟩) = some (.int .i64 (r j))) (hc : n ≤ c') (hH : H b' = none) (hO : b' ≠ bO ∧ b' ≠ bg) (hB : ∀ i, i < n → B i ≠ b')
    {K : Value → GH → Prop} (hK : ∀ G' B o cp, Hx H G' bO bg B o cp n (k + 1) (fun i j => if i = k then r j else f i j) q → K undef G') : gSt 1 (.pointer (some ⟨bO, k, none⟩)) (.slice (some ⟨b', o', none⟩) n c') G K := by
  refine st_src h.bo rfl (by rw [rowsC_len]; exact hk) fun G' hK' hb' => hK G' (fun i => if i = k then b' else B i) (fun i => if i = k then o' else o i) (fun i => if i = k then c' else cp i) ?_
  rw [rowsC_set] at hb'
  have hfun : (fun i => if i = k then some (⟨b', o', none⟩ : Addr) else some ⟨B i, o i, none⟩) = fun i => some ⟨if i = k then b' else B i, if i = k then o' else o i, none⟩ := by
    funext i; by_cases e : i = k
    · rw [if_pos e, if_pos e, if_pos e]
    · rw [if_neg e, if_neg e, if_neg e]
  rw [hfun] at hb'
  refine ⟨sub_keep hK' h.nO h.sub, h.nO, h.ng, hb', by rw [hK' _ h.og.symm]; exact h.gg, fun i hi => ?_, fun i hi => ?_, h.og, fun i j hi hj => ?_, fun i hi => ?_, fun i hi hn => ?_, fun i j hi hk1 hj hne => ?_⟩
  · by_cases e : i = k
    · simp only [if_pos e]; exact hH
    · simp only [if_neg e]; exact h.nB i hi
  · by_cases e : i = k
    · simp only [if_pos e]; exact hO
    · simp only [if_neg e]; exact h.ne i hi
  · by_cases e : i = k
    · have e' : (i : Int) = k := by omega
      simp only [if_pos e, if_pos e']
      exact rd_keep hK' hO.1 (hr j hj)
    · have e' : ¬ (i : Int) = k := by omega
      simp only [if_neg e, if_neg e']
      exact rd_keep hK' (h.ne i hi).1 (h.row i j hi hj)
  · by_cases e : i = k
    · simp only [if_pos e]; exact hc
    · simp only [if_neg e]; exact h.cap i hi
  · have e : ¬ i = k := by omega
    have e' : ¬ (i : Int) = k := by omega
    obtain ⟨t1, t2⟩ := h.todo i (by omega) hn
    simp only [if_neg e, if_neg e']
    exact ⟨t1, by rw [hK' _ (h.ne i hn).1]; exact t2⟩
  · have ej : ¬ j = k := by omega
    simp only [if_neg ej]
    by_cases e : i = k
    · simp only [if_pos e]; exact (hB j hj).symm
    · simp only [if_neg e]; exact h.inj i j hi (by omega) hj hne
/-- what a row gives is written. -/
theorem Hx.stg {H G : GH} {bO bg : Nat} {B o cp : Nat → Nat} {n k : Nat} {f : Int → Int → Int} {q : Int → Int} (h : Hx H G bO bg B o cp n k f q) {j : Nat} (hj : j < n) {x : Int} {K : Value → GH → Prop} (hK : ∀ G', Hx H G' bO bg B o cp n k f (updAt q j x) → K undef G') : gSt 1 (.pointer (some ⟨bg, j, none⟩)) (.int .i64 x) G K := by
  have hf := st_fcells (K := K) h.gg (v := (j : Int)) (x := x) (by omega) (by omega)
  rw [Int.toNat_natCast] at hf
  refine hf fun G' hb' hK' => hK G' ?_
  exact ⟨sub_keep hK' h.ng h.sub, h.nO, h.ng, by rw [hK' _ h.og]; exact h.bo, hb', h.nB, h.ne, h.og, fun i j' hi hj' => rd_keep hK' (h.ne i hi).2 (h.row i j' hi hj'), h.cap, fun i hi hn => ⟨(h.todo i hi hn).1, by rw [hK' _ (h.ne i hn).2]; exact (h.todo i hi hn).2⟩, h.inj⟩
theorem Hx.rows {H G : GH} {bO bg : Nat} {B o cp : Nat → Nat} {n k : Nat} {f : Int → Int → Int} {q : Int → Int} (h : Hx H G bO bg B o cp n k f q) : RowsS G (some ⟨bO, 0, none⟩) n n f :=
  ⟨fun i => some ⟨B i, o i, none⟩, cp, fun i hi => by rw [pa_mk, Nat.zero_add]; exact h.get hi, fun i hi => ⟨by rw [rowL_len]; exact h.cap i hi, fun j hj => by rw [rowL_len] at hj; rw [pa_mk, rowL_get _ hj]; exact h.row i j hi hj⟩⟩
theorem Mx.hx {H G G' : GH} {bO bg n : Nat} {B : Nat → Nat} {f : Int → Int → Int} {q : Int → Int} (h : Mx H G bO B n n f) (hg : G bg = none) (s : Sub G G') (hq : G' bg = some ⟨fcells n q, true⟩) : Hx H G' bO bg B (fun _ => 0) (fun _ => n) n 0 f q := by
  have hO : bO ≠ bg := blk_ne h.o hg
  refine ⟨h.sub.trans s, h.nO, h.sub.none hg, s _ _ ?_, hq, h.nB, fun i hi => ⟨h.ne i hi, blk_ne (h.b i hi) hg⟩, hO, fun i j hi hj => ?_, fun i hi => Nat.le_refl _, fun i hi hn => ⟨rfl, s _ _ (h.b i hn)⟩, fun i j hi hk hj hne e => hne (h.inj i j hi hj e)⟩
  · rw [h.o]
    refine congrArg (fun l => some (⟨l, true⟩ : Ent)) ?_
    unfold mxO rowsC
    refine List.map_congr_left fun i hi => ?_
    rw [if_pos (List.mem_range.1 hi)]
  · rw [Nat.zero_add]
    have := h.get (u := (i : Int)) (v := (j : Int)) (by omega) (by omega) (by omega) (by omega)
    rw [Int.toNat_natCast, Int.toNat_natCast] at this
    exact rd_sub s this
/-- the first temporaries stay. -/
def Sam (k : Nat) (T' T : Nat → Value) : Prop := ∀ t, t < k → T' t = T t
theorem Sam.refl (k : Nat) (T : Nat → Value) : Sam k T T := fun t _ => rfl
theorem Sam.upd {k n : Nat} {T' T : Nat → Value} (h : Sam k T' T) (v : Value) (hn : k ≤ n) : Sam k (Gh.upd T' n v) T := fun t ht => by
  unfold Gh.upd; rw [if_neg (by omega)]; exact h t ht
theorem Sam.trans {k : Nat} {T T' T'' : Nat → Value} (h : Sam k T'' T') (h' : Sam k T' T) : Sam k T'' T := fun t ht => (h t ht).trans (h' t ht)
theorem Sam.le {k l : Nat} {T T' : Nat → Value} (h : Sam k T' T) (hl : l ≤ k) : Sam l T' T := fun t ht => h t (by omega)
theorem Keep.refl (b : Nat) (G : GH) : Keep b G G := fun x _ => rfl
theorem Keep.trans {b : Nat} {G G' G'' : GH} (h : Keep b G G') (h' : Keep b G' G'') : Keep b G G'' := fun x hx => (h' x hx).trans (h x hx)
/-- what the loops read beside the cells. -/
structure RdG (G : GH) (bm b5 bc R w cc : Nat) : Prop where
  m1 : rd G (some ⟨bm, 1, none⟩) = some (.int .i64 R)
  c3 : rd G (some ⟨b5, 3, none⟩) = some (.slice (some ⟨bc, 0, none⟩) (R * w) cc)
  nm : bm ≠ bc
  n5 : b5 ≠ bc
theorem RdG.keep {G G' : GH} {bm b5 bc R w cc : Nat} (h : RdG G bm b5 bc R w cc) (k : Keep bc G G') : RdG G' bm b5 bc R w cc := ⟨rd_keep k h.nm h.m1, rd_keep k h.n5 h.c3, h.nm, h.n5⟩
theorem RdG.sub {G G' : GH} {bm b5 bc R w cc : Nat} (h : RdG G bm b5 bc R w cc) (s : Sub G G') : RdG G' bm b5 bc R w cc := ⟨rd_sub s h.m1, rd_sub s h.c3, h.nm, h.n5⟩
theorem iw_bd {i w : Nat} (hi : i ≤ 2 ^ 10) (hw : w ≤ 2 ^ 10) : 0 ≤ (i : Int) * w ∧ (i : Int) * w ≤ 2 ^ 20 := by
  have h : i * w ≤ 2 ^ 10 * 2 ^ 10 := Nat.mul_le_mul hi hw
  have e : ((i * w : Nat) : Int) = (i : Int) * w := by push_cast; rfl
  omega
theorem red_l0 {G : GH} {bm b5 bc R w cc k t : Nat} {f : Int → Int → Int} {T : Nat → Value} {Q : Cont} (hG : RdG G bm b5 bc R w cc) (hF : Fl G bc R w f) (hR : R ≤ 2 ^ 10) (hw : w ≤ 2 ^ 10) (hk : k < w) (ht : t ≤ R)
    (x0 : T 0 = .pointer (some ⟨bm, 0, none⟩)) (x5 : T 5 = .pointer (some ⟨b5, 0, none⟩)) (x7 : T 7 = .int .i64 w) (x11 : T 11 = .int .i64 k) (x12 : T 12 = .int .i64 t)
    (hQ : ∀ T' i, Sam 12 T' T → T' 12 = .int .i64 (i : Nat) → t ≤ i → i ≤ R → (∀ j : Nat, t ≤ j → j < i → f j k = 0) → (i < R → f i k ≠ 0) → Q (.ex 2) T' G) : gLoop (gW Try.prog c_spec_l03Reduced_l0) Q T G := by
  refine gLoop_intro (fun m T' G' => ∃ i : Nat, Sam 12 T' T ∧ T' 12 = .int .i64 i ∧ m + i = R ∧ t ≤ i ∧ i ≤ R ∧ G' = G ∧ ∀ j : Nat, t ≤ j → j < i → f j k = 0) (R - t) ⟨t, Sam.refl _ _, x12, by omega, Nat.le_refl _, ht, rfl, fun j h1 h2 => by omega⟩ ?_
  rintro m T' G' ⟨i, hS, y12, hm, hti, hiR, rfl, hz⟩
  have y0 := (hS 0 (by omega)).trans x0
  have y5 := (hS 5 (by omega)).trans x5
  have y7 := (hS 7 (by omega)).trans x7
  have y11 := (hS 11 (by omega)).trans x11
  have m1 := hG.m1
  have c3 := hG.c3
  have hb := iw_bd (i := i) (w := w) (by omega) hw
  have w1 := w64 ((i : Int) * w) (by omega) (by omega)
  have w2 := w64 ((i : Int) * w + k) (by omega) (by omega)
  simp (maxSteps := 300000) (disch := omega) only [gs, gs2, gs3, gs4, ↓reduceIte, Nat.reduceEqDiff, Int.reduceToNat, Nat.reduceMul, Nat.reduceAdd, Nat.reduceBEq, isLd, y0, y5, y7, y11, y12, m1]
  by_cases hii : (i : Int) < R
  · have hr := hF.rd (i := i) (j := k) (by omega) hk
    have h1 := flat_lt (R := R) (w := w) (i := i) (j := k) (by omega) hk
    have h2 := flat_nn i k w
    simp (maxSteps := 300000) (disch := omega) only [gs, gs2, gs3, gs4, ↓reduceIte, Nat.reduceEqDiff, Int.reduceToNat, Nat.reduceMul, Nat.reduceAdd, Nat.reduceBEq, isLd, y0, y5, y7, y11, y12, m1, hii, c3, w1, w2, hr]
    by_cases hz0 : f i k = 0
    · simp (maxSteps := 300000) (disch := omega) only [gs, gs2, gs3, gs4, ↓reduceIte, Nat.reduceEqDiff, Int.reduceToNat, Nat.reduceMul, Nat.reduceAdd, Nat.reduceBEq, isLd, eq_true hz0, y0, y5, y7, y11, y12]
      refine ⟨m - 1, by omega, G', Sub.refl _, i + 1, ?_, rfl, by omega, by omega, by omega, rfl, fun j h1 h2 => ?_⟩
      · repeat (first | exact hS | refine Sam.upd ?_ _ (by omega))
      · by_cases e : j = i
        · rw [e]; exact hz0
        · exact hz j h1 (by omega)
    · simp (maxSteps := 300000) (disch := omega) only [gs, gs2, gs3, gs4, ↓reduceIte, Nat.reduceEqDiff, Int.reduceToNat, Nat.reduceMul, Nat.reduceAdd, Nat.reduceBEq, isLd, eq_false hz0, y0, y5, y7, y11, y12]
      refine hQ _ i ?_ (by simp (maxSteps := 300000) (disch := omega) only [gs, gs2, gs3, gs4, ↓reduceIte, Nat.reduceEqDiff, Int.reduceToNat, Nat.reduceMul, Nat.reduceAdd, Nat.reduceBEq, isLd, y12]) hti (by omega) hz fun _ => hz0
      repeat (first | exact hS | refine Sam.upd ?_ _ (by omega))
  · simp (maxSteps := 300000) (disch := omega) only [gs, gs2, gs3, gs4, ↓reduceIte, Nat.reduceEqDiff, Int.reduceToNat, Nat.reduceMul, Nat.reduceAdd, Nat.reduceBEq, isLd, y0, y5, y7, y11, y12, m1, hii]
    refine hQ _ i ?_ (by simp (maxSteps := 300000) (disch := omega) only [gs, gs2, gs3, gs4, ↓reduceIte, Nat.reduceEqDiff, Int.reduceToNat, Nat.reduceMul, Nat.reduceAdd, Nat.reduceBEq, isLd, y12]) hti (by omega) hz fun x => by omega
    repeat (first | exact hS | refine Sam.upd ?_ _ (by omega))
theorem red_l1 {G : GH} {bm b5 bc R w cc t i : Nat} {f : Int → Int → Int} {T : Nat → Value} {Q : Cont} (hG : RdG G bm b5 bc R w cc) (hF : Fl G bc R w f) (hR : R ≤ 2 ^ 10) (hw : w ≤ 2 ^ 10) (ht : t < R) (hi : i < R) (hne : i ≠ t)
    (x5 : T 5 = .pointer (some ⟨b5, 0, none⟩)) (x7 : T 7 = .int .i64 w) (x10 : T 10 = .int .i64 t) (x12 : T 12 = .int .i64 i) (x13 : T 13 = .int .i64 0)
    (hQ : ∀ T' G', Sam 13 T' T → Fl G' bc R w (swp f t i) → Keep bc G G' → Q (.ex 4) T' G') : gLoop (gW Try.prog c_spec_l03Reduced_l1) Q T G := by
  refine gLoop_intro (fun m T' G' => ∃ j : Nat, Sam 13 T' T ∧ T' 13 = .int .i64 j ∧ m + j = w ∧ j ≤ w ∧ Keep bc G G' ∧ Fl G' bc R w (fun a b => if b < j then swp f t i a b else f a b)) w ⟨0, Sam.refl _ _, x13, by omega, by omega, Keep.refl _ _, hF.cong fun a b _ _ => by rw [if_neg (by omega)]⟩ ?_
  rintro m T' G' ⟨j, hS, y13, hm, hj, hK, hF'⟩
  have y5 := (hS 5 (by omega)).trans x5
  have y7 := (hS 7 (by omega)).trans x7
  have y10 := (hS 10 (by omega)).trans x10
  have y12 := (hS 12 (by omega)).trans x12
  simp (maxSteps := 300000) (disch := omega) only [gs, gs2, gs3, gs4, ↓reduceIte, Nat.reduceEqDiff, Int.reduceToNat, Nat.reduceMul, Nat.reduceAdd, Nat.reduceBEq, isLd, y5, y7, y10, y12, y13]
  by_cases hjj : (j : Int) < w
  · have c3 := (hG.keep hK).c3
    have hbi := iw_bd (i := i) (w := w) (by omega) hw
    have hbt := iw_bd (i := t) (w := w) (by omega) hw
    have w1 := w64 ((i : Int) * w) (by omega) (by omega)
    have w2 := w64 ((i : Int) * w + j) (by omega) (by omega)
    have w3 := w64 ((t : Int) * w) (by omega) (by omega)
    have w4 := w64 ((t : Int) * w + j) (by omega) (by omega)
    have ri := hF'.rd (i := i) (j := j) hi (by omega)
    have rt := hF'.rd (i := t) (j := j) ht (by omega)
    rw [if_neg (by omega)] at ri rt
    have h1 := flat_lt (R := R) (w := w) (i := i) (j := j) hi (by omega)
    have h2 := flat_nn i j w
    have h3 := flat_lt (R := R) (w := w) (i := t) (j := j) ht (by omega)
    have h4 := flat_nn t j w
    simp (maxSteps := 300000) (disch := omega) only [gs, gs2, gs3, gs4, ↓reduceIte, Nat.reduceEqDiff, Int.reduceToNat, Nat.reduceMul, Nat.reduceAdd, Nat.reduceBEq, isLd, y5, y7, y10, y12, y13, hjj, c3, w1, w2, w3, w4, ri, rt]
    refine hF'.st hi (by omega) fun G1 hF1 hK1 => ?_
    have c31 := (hG.keep (hK.trans hK1)).c3
    simp (maxSteps := 300000) (disch := omega) only [gs, gs2, gs3, gs4, ↓reduceIte, Nat.reduceEqDiff, Int.reduceToNat, Nat.reduceMul, Nat.reduceAdd, Nat.reduceBEq, isLd, y5, y7, y10, y12, y13, c31, w3, w4]
    refine hF1.st ht (by omega) fun G2 hF2 hK2 => ?_
    simp (maxSteps := 300000) (disch := omega) only [gs, gs2, gs3, gs4, ↓reduceIte, Nat.reduceEqDiff, Int.reduceToNat, Nat.reduceMul, Nat.reduceAdd, Nat.reduceBEq, isLd, y5, y7, y10, y12, y13]
    refine ⟨m - 1, by omega, G2, Sub.refl _, j + 1, ?_, rfl, by omega, by omega, (hK.trans hK1).trans hK2, hF2.cong fun a b ha hb => ?_⟩
    · repeat (first | exact hS | refine Sam.upd ?_ _ (by omega))
    · unfold upd2 swp
      dsimp only
      by_cases e : b = j
      · subst e
        by_cases ea : a = t
        · subst ea; rw [if_pos ⟨rfl, rfl⟩, if_pos (by omega), if_pos rfl]
        · by_cases ei : a = i
          · subst ei; rw [if_neg (by omega), if_pos ⟨rfl, rfl⟩, if_pos (by omega), if_neg (by omega), if_pos rfl]
          · rw [if_neg (by omega), if_neg (by omega), if_neg (by omega), if_pos (by omega), if_neg (by omega), if_neg (by omega)]
      · rw [if_neg (by omega), if_neg (by omega)]
        by_cases e2 : b < j
        · rw [if_pos (show (b : Int) < (j : Int) by omega), if_pos (show (b : Int) < ((j + 1 : Nat) : Int) by omega)]
        · rw [if_neg (show ¬ (b : Int) < (j : Int) by omega), if_neg (show ¬ (b : Int) < ((j + 1 : Nat) : Int) by omega)]
  · simp (maxSteps := 300000) (disch := omega) only [gs, gs2, gs3, gs4, ↓reduceIte, Nat.reduceEqDiff, Int.reduceToNat, Nat.reduceMul, Nat.reduceAdd, Nat.reduceBEq, isLd, y5, y7, y10, y12, y13, hjj]
    refine hQ _ G' ?_ (hF'.cong fun a b ha hb => if_pos (by omega)) hK
    repeat (first | exact hS | refine Sam.upd ?_ _ (by omega))
theorem red_l2 {G : GH} {bm b5 bc R w cc t : Nat} {p iv : Int} {f : Int → Int → Int} {T : Nat → Value} {Q : Cont} (hG : RdG G bm b5 bc R w cc) (hF : Fl G bc R w f) (hR : R ≤ 2 ^ 10) (hw : w ≤ 2 ^ 10) (ht : t < R) (hr : Rng f p) (hp : 1 < p ∧ p ≤ 2 ^ 30) (hv : 0 ≤ iv ∧ iv < p)
    (x5 : T 5 = .pointer (some ⟨b5, 0, none⟩)) (x6 : T 6 = .int .i64 p) (x7 : T 7 = .int .i64 w) (x10 : T 10 = .int .i64 t) (x16 : T 16 = .int .i64 iv) (x17 : T 17 = .int .i64 0)
    (hQ : ∀ T' G', Sam 17 T' T → Fl G' bc R w (scl f t iv p) → Keep bc G G' → Q (.ex 6) T' G') : gLoop (gW Try.prog c_spec_l03Reduced_l2) Q T G := by
  refine gLoop_intro (fun m T' G' => ∃ j : Nat, Sam 17 T' T ∧ T' 17 = .int .i64 j ∧ m + j = w ∧ j ≤ w ∧ Keep bc G G' ∧ Fl G' bc R w (fun a b => if b < j then scl f t iv p a b else f a b)) w ⟨0, Sam.refl _ _, x17, by omega, by omega, Keep.refl _ _, hF.cong fun a b _ _ => by rw [if_neg (by omega)]⟩ ?_
  rintro m T' G' ⟨j, hS, y17, hm, hj, hK, hF'⟩
  have y5 := (hS 5 (by omega)).trans x5
  have y6 := (hS 6 (by omega)).trans x6
  have y7 := (hS 7 (by omega)).trans x7
  have y10 := (hS 10 (by omega)).trans x10
  have y16 := (hS 16 (by omega)).trans x16
  simp (maxSteps := 300000) (disch := omega) only [gs, gs2, gs3, gs4, ↓reduceIte, Nat.reduceEqDiff, Int.reduceToNat, Nat.reduceMul, Nat.reduceAdd, Nat.reduceBEq, isLd, y5, y6, y7, y10, y16, y17]
  by_cases hjj : (j : Int) < w
  · have c3 := (hG.keep hK).c3
    have hbt := iw_bd (i := t) (w := w) (by omega) hw
    have w3 := w64 ((t : Int) * w) (by omega) (by omega)
    have w4 := w64 ((t : Int) * w + j) (by omega) (by omega)
    have rt := hF'.rd (i := t) (j := j) ht (by omega)
    rw [if_neg (by omega)] at rt
    have h3 := flat_lt (R := R) (w := w) (i := t) (j := j) ht (by omega)
    have h4 := flat_nn t j w
    have hb := hr t j
    have hmm := mulB (a := f t j) (b := iv) (A := 2 ^ 30) (B := 2 ^ 30) (by omega) (by omega)
    have hnn : 0 ≤ f t j * iv := Int.mul_nonneg hb.1 hv.1
    have w5 := w64 (f t j * iv) (by omega) (by omega)
    have hrm : (f t j * iv).tmod p = f t j * iv % p := Int.tmod_eq_emod_of_nonneg hnn
    have hrem := fun x : Int => bin_rem .i64 x p (by omega)
    have hre : 0 ≤ f t j * iv % p ∧ f t j * iv % p < p := ⟨Int.emod_nonneg _ (by omega), Int.emod_lt_of_pos _ (by omega)⟩
    have w6 := w64 (f t j * iv % p) (by omega) (by omega)
    simp (maxSteps := 300000) (disch := omega) only [gs, gs2, gs3, gs4, ↓reduceIte, Nat.reduceEqDiff, Int.reduceToNat, Nat.reduceMul, Nat.reduceAdd, Nat.reduceBEq, isLd, y5, y6, y7, y10, y16, y17, hjj, c3, w3, w4, rt, w5, hrem, hrm, w6]
    refine hF'.st ht (by omega) fun G2 hF2 hK2 => ?_
    simp (maxSteps := 300000) (disch := omega) only [gs, gs2, gs3, gs4, ↓reduceIte, Nat.reduceEqDiff, Int.reduceToNat, Nat.reduceMul, Nat.reduceAdd, Nat.reduceBEq, isLd, y5, y6, y7, y10, y16, y17]
    refine ⟨m - 1, by omega, G2, Sub.refl _, j + 1, ?_, rfl, by omega, by omega, hK.trans hK2, hF2.cong fun a b ha hb => ?_⟩
    · repeat (first | exact hS | refine Sam.upd ?_ _ (by omega))
    · unfold upd2 scl
      dsimp only
      by_cases e : b = j
      · subst e
        by_cases ea : a = t
        · subst ea; rw [if_pos ⟨rfl, rfl⟩, if_pos (by omega), if_pos rfl]
        · rw [if_neg (by omega), if_neg (by omega), if_pos (by omega), if_neg (by omega)]
      · rw [if_neg (by omega)]
        by_cases e2 : b < j
        · rw [if_pos (show (b : Int) < (j : Int) by omega), if_pos (show (b : Int) < ((j + 1 : Nat) : Int) by omega)]
        · rw [if_neg (show ¬ (b : Int) < (j : Int) by omega), if_neg (show ¬ (b : Int) < ((j + 1 : Nat) : Int) by omega)]
  · simp (maxSteps := 300000) (disch := omega) only [gs, gs2, gs3, gs4, ↓reduceIte, Nat.reduceEqDiff, Int.reduceToNat, Nat.reduceMul, Nat.reduceAdd, Nat.reduceBEq, isLd, y5, y6, y7, y10, y16, y17, hjj]
    refine hQ _ G' ?_ (hF'.cong fun a b ha hb => if_pos (by omega)) hK
    repeat (first | exact hS | refine Sam.upd ?_ _ (by omega))
theorem red_l3 {G : GH} {bm b5 bc R w cc t i : Nat} {p c : Int} {f : Int → Int → Int} {T : Nat → Value} {Q : Cont} (hG : RdG G bm b5 bc R w cc) (hF : Fl G bc R w f) (hR : R ≤ 2 ^ 10) (hw : w ≤ 2 ^ 10) (ht : t < R) (hi : i < R) (hne : i ≠ t) (hr : Rng f p) (hp : 1 < p ∧ p ≤ 2 ^ 30) (hv : 0 ≤ c ∧ c < p)
    (x5 : T 5 = .pointer (some ⟨b5, 0, none⟩)) (x6 : T 6 = .int .i64 p) (x7 : T 7 = .int .i64 w) (x10 : T 10 = .int .i64 t) (x18 : T 18 = .int .i64 i) (x19 : T 19 = .int .i64 c) (x20 : T 20 = .int .i64 0)
    (hQ : ∀ T' G', Sam 20 T' T → Fl G' bc R w (fun a b => if a = i then (f i b - c * f t b) % p else f a b) → Keep bc G G' → Q (.ex 10) T' G') : gLoop (gW Try.prog c_spec_l03Reduced_l3) Q T G := by
  refine gLoop_intro (fun m T' G' => ∃ j : Nat, Sam 20 T' T ∧ T' 20 = .int .i64 j ∧ m + j = w ∧ j ≤ w ∧ Keep bc G G' ∧ Fl G' bc R w (fun a b => if a = i ∧ b < j then (f i b - c * f t b) % p else f a b)) w ⟨0, Sam.refl _ _, x20, by omega, by omega, Keep.refl _ _, hF.cong fun a b _ _ => by rw [if_neg (by omega)]⟩ ?_
  rintro m T' G' ⟨j, hS, y20, hm, hj, hK, hF'⟩
  have y5 := (hS 5 (by omega)).trans x5
  have y6 := (hS 6 (by omega)).trans x6
  have y7 := (hS 7 (by omega)).trans x7
  have y10 := (hS 10 (by omega)).trans x10
  have y18 := (hS 18 (by omega)).trans x18
  have y19 := (hS 19 (by omega)).trans x19
  simp (maxSteps := 300000) (disch := omega) only [gs, gs2, gs3, gs4, ↓reduceIte, Nat.reduceEqDiff, Int.reduceToNat, Nat.reduceMul, Nat.reduceAdd, Nat.reduceBEq, isLd, y5, y6, y7, y10, y18, y19, y20]
  by_cases hjj : (j : Int) < w
  · have c3 := (hG.keep hK).c3
    have hbi := iw_bd (i := i) (w := w) (by omega) hw
    have hbt := iw_bd (i := t) (w := w) (by omega) hw
    have w1 := w64 ((i : Int) * w) (by omega) (by omega)
    have w2 := w64 ((i : Int) * w + j) (by omega) (by omega)
    have w3 := w64 ((t : Int) * w) (by omega) (by omega)
    have w4 := w64 ((t : Int) * w + j) (by omega) (by omega)
    have ri := hF'.rd (i := i) (j := j) hi (by omega)
    have rt := hF'.rd (i := t) (j := j) ht (by omega)
    rw [if_neg (by omega)] at ri rt
    have h1 := flat_lt (R := R) (w := w) (i := i) (j := j) hi (by omega)
    have h2 := flat_nn i j w
    have h3 := flat_lt (R := R) (w := w) (i := t) (j := j) ht (by omega)
    have h4 := flat_nn t j w
    have hb := hr t j
    have hb2 := hr i j
    have hmm := mulB (a := c) (b := f t j) (A := 2 ^ 30) (B := 2 ^ 30) (by omega) (by omega)
    have w5 := w64 (c * f t j) (by omega) (by omega)
    have w6 := w64 (f i j - c * f t j) (by omega) (by omega)
    simp (maxSteps := 300000) (disch := omega) only [gs, gs2, gs3, gs4, ↓reduceIte, Nat.reduceEqDiff, Int.reduceToNat, Nat.reduceMul, Nat.reduceAdd, Nat.reduceBEq, isLd, y5, y6, y7, y10, y18, y19, y20, hjj, c3, w1, w2, w3, w4, ri, rt, w5, w6]
    refine spec_l03Mod_ok ⟨by omega, by omega⟩ ?_
    simp (maxSteps := 300000) (disch := omega) only [gs, gs2, gs3, gs4, ↓reduceIte, Nat.reduceEqDiff, Int.reduceToNat, Nat.reduceMul, Nat.reduceAdd, Nat.reduceBEq, isLd, y5, y6, y7, y10, y18, y19, y20, c3, ri, rt]
    refine hF'.st hi (by omega) fun G2 hF2 hK2 => ?_
    simp (maxSteps := 300000) (disch := omega) only [gs, gs2, gs3, gs4, ↓reduceIte, Nat.reduceEqDiff, Int.reduceToNat, Nat.reduceMul, Nat.reduceAdd, Nat.reduceBEq, isLd, y5, y6, y7, y10, y18, y19, y20]
    refine ⟨m - 1, by omega, G2, Sub.refl _, j + 1, ?_, rfl, by omega, by omega, hK.trans hK2, hF2.cong fun a b ha hb => ?_⟩
    · repeat (first | exact hS | refine Sam.upd ?_ _ (by omega))
    · unfold upd2
      dsimp only
      by_cases e : (a : Int) = i ∧ (b : Int) = j
      · rw [if_pos e, if_pos (by omega), e.2]
      · rw [if_neg e]
        by_cases e2 : (a : Int) = i ∧ (b : Int) < j
        · rw [if_pos e2, if_pos (by omega)]
        · rw [if_neg e2, if_neg (by omega)]
  · simp (maxSteps := 300000) (disch := omega) only [gs, gs2, gs3, gs4, ↓reduceIte, Nat.reduceEqDiff, Int.reduceToNat, Nat.reduceMul, Nat.reduceAdd, Nat.reduceBEq, isLd, y5, y6, y7, y10, y18, y19, y20, hjj]
    refine hQ _ G' ?_ (hF'.cong fun a b ha hb => ?_) hK
    · repeat (first | exact hS | refine Sam.upd ?_ _ (by omega))
    · by_cases e : (a : Int) = i
      · rw [if_pos ⟨e, by omega⟩, if_pos e]
      · rw [if_neg (by omega), if_neg e]
theorem clr_sub (x y c p : Int) : (x - c * y) % p = (x + (p - c) * y) % p := by
  rw [show x + (p - c) * y = (x - c * y) + p * y by rw [Int.sub_mul]; omega, Int.add_mul_emod_self_left]
theorem clr_zero {x p : Int} (y : Int) (h : 0 ≤ x ∧ x < p) : (x + (p - 0) * y) % p = x := by
  rw [← clr_sub, Int.zero_mul, Int.sub_zero, Int.emod_eq_of_lt h.1 h.2]
theorem red_l4 {G : GH} {bm b5 bc R w cc t k : Nat} {p : Int} {h : Int → Int → Int} {T : Nat → Value} {Q : Cont} (hG : RdG G bm b5 bc R w cc) (hF : Fl G bc R w h) (hR : R ≤ 2 ^ 10) (hw : w ≤ 2 ^ 10) (ht : t < R) (hk : k < w) (hr : Rng h p) (hp : 1 < p ∧ p ≤ 2 ^ 30)
    (x0 : T 0 = .pointer (some ⟨bm, 0, none⟩)) (x5 : T 5 = .pointer (some ⟨b5, 0, none⟩)) (x6 : T 6 = .int .i64 p) (x7 : T 7 = .int .i64 w) (x10 : T 10 = .int .i64 t) (x11 : T 11 = .int .i64 k) (x18 : T 18 = .int .i64 0)
    (hQ : ∀ T' G', Sam 18 T' T → Fl G' bc R w (clr h t k p) → Keep bc G G' → Q (.ex 8) T' G') : gLoop (gW Try.prog c_spec_l03Reduced_l4) Q T G := by
  refine gLoop_intro (fun m T' G' => ∃ i : Nat, Sam 18 T' T ∧ T' 18 = .int .i64 i ∧ m + i = R ∧ i ≤ R ∧ Keep bc G G' ∧ Fl G' bc R w (fun a b => if a < i then clr h t k p a b else h a b)) R ⟨0, Sam.refl _ _, x18, by omega, by omega, Keep.refl _ _, hF.cong fun a b _ _ => by rw [if_neg (by omega)]⟩ ?_
  rintro m T' G' ⟨i, hS, y18, hm, hi, hK, hF'⟩
  have y0 := (hS 0 (by omega)).trans x0
  have y5 := (hS 5 (by omega)).trans x5
  have y6 := (hS 6 (by omega)).trans x6
  have y7 := (hS 7 (by omega)).trans x7
  have y10 := (hS 10 (by omega)).trans x10
  have y11 := (hS 11 (by omega)).trans x11
  have hG' := hG.keep hK
  have m1 := hG'.m1
  have c3 := hG'.c3
  simp (maxSteps := 300000) (disch := omega) only [gs, gs2, gs3, gs4, ↓reduceIte, Nat.reduceEqDiff, Int.reduceToNat, Nat.reduceMul, Nat.reduceAdd, Nat.reduceBEq, isLd, y0, y5, y6, y7, y10, y11, y18, m1]
  by_cases hii : (i : Int) < R
  · have hbi := iw_bd (i := i) (w := w) (by omega) hw
    have w1 := w64 ((i : Int) * w) (by omega) (by omega)
    have w2 := w64 ((i : Int) * w + k) (by omega) (by omega)
    have ri := hF'.rd (i := i) (j := k) (by omega) hk
    rw [if_neg (by omega)] at ri
    have h1 := flat_lt (R := R) (w := w) (i := i) (j := k) (by omega) hk
    have h2 := flat_nn i k w
    have hclt : ∀ b, clr h t k p t b = h t b := fun b => by unfold clr; rw [if_pos rfl]
    simp (maxSteps := 300000) (disch := omega) only [gs, gs2, gs3, gs4, ↓reduceIte, Nat.reduceEqDiff, Int.reduceToNat, Nat.reduceMul, Nat.reduceAdd, Nat.reduceBEq, isLd, y0, y5, y6, y7, y10, y11, y18, m1, hii, c3, w1, w2, ri]
    by_cases hit : (i : Int) = t
    · simp (maxSteps := 300000) (disch := omega) only [gs, gs2, gs3, gs4, ↓reduceIte, Nat.reduceEqDiff, Int.reduceToNat, Nat.reduceMul, Nat.reduceAdd, Nat.reduceBEq, isLd, eq_true hit, y0, y5, y6, y7, y10, y11, y18]
      refine ⟨m - 1, by omega, G', Sub.refl _, i + 1, ?_, rfl, by omega, by omega, hK, hF'.cong fun a b ha hb => ?_⟩
      · repeat (first | exact hS | refine Sam.upd ?_ _ (by omega))
      · by_cases e : a = i
        · rw [if_neg (by omega), if_pos (by omega), show (a : Int) = t by omega, hclt]
        · by_cases e2 : a < i
          · rw [if_pos (by omega), if_pos (by omega)]
          · rw [if_neg (by omega), if_neg (by omega)]
    · simp (maxSteps := 300000) (disch := omega) only [gs, gs2, gs3, gs4, ↓reduceIte, Nat.reduceEqDiff, Int.reduceToNat, Nat.reduceMul, Nat.reduceAdd, Nat.reduceBEq, isLd, eq_false hit, y0, y5, y6, y7, y10, y11, y18]
      by_cases hz : h i k = 0
      · simp (maxSteps := 300000) (disch := omega) only [gs, gs2, gs3, gs4, ↓reduceIte, Nat.reduceEqDiff, Int.reduceToNat, Nat.reduceMul, Nat.reduceAdd, Nat.reduceBEq, isLd, eq_true hz, y0, y5, y6, y7, y10, y11, y18]
        refine ⟨m - 1, by omega, G', Sub.refl _, i + 1, ?_, rfl, by omega, by omega, hK, hF'.cong fun a b ha hb => ?_⟩
        · repeat (first | exact hS | refine Sam.upd ?_ _ (by omega))
        · by_cases e : a = i
          · subst e
            rw [if_neg (by omega), if_pos (by omega)]
            unfold clr
            rw [if_neg hit, hz, clr_zero _ (hr a b)]
          · by_cases e2 : a < i
            · rw [if_pos (by omega), if_pos (by omega)]
            · rw [if_neg (by omega), if_neg (by omega)]
      · simp (maxSteps := 300000) (disch := omega) only [gs, gs2, gs3, gs4, ↓reduceIte, Nat.reduceEqDiff, Int.reduceToNat, Nat.reduceMul, Nat.reduceAdd, Nat.reduceBEq, isLd, eq_false hz, y0, y5, y6, y7, y10, y11, y18]
        refine red_l3 (f := fun a b => if a < i then clr h t k p a b else h a b) (i := i) (c := h i k) hG' hF' hR hw ht (by omega) (by omega) (fun a b => ?_) hp (hr i k) (by simp (maxSteps := 300000) (disch := omega) only [gs, gs2, gs3, gs4, ↓reduceIte, Nat.reduceEqDiff, Int.reduceToNat, Nat.reduceMul, Nat.reduceAdd, Nat.reduceBEq, isLd, y5]) (by simp (maxSteps := 300000) (disch := omega) only [gs, gs2, gs3, gs4, ↓reduceIte, Nat.reduceEqDiff, Int.reduceToNat, Nat.reduceMul, Nat.reduceAdd, Nat.reduceBEq, isLd, y6]) (by simp (maxSteps := 300000) (disch := omega) only [gs, gs2, gs3, gs4, ↓reduceIte, Nat.reduceEqDiff, Int.reduceToNat, Nat.reduceMul, Nat.reduceAdd, Nat.reduceBEq, isLd, y7]) (by simp (maxSteps := 300000) (disch := omega) only [gs, gs2, gs3, gs4, ↓reduceIte, Nat.reduceEqDiff, Int.reduceToNat, Nat.reduceMul, Nat.reduceAdd, Nat.reduceBEq, isLd, y10]) (by simp (maxSteps := 300000) (disch := omega) only [gs, gs2, gs3, gs4, ↓reduceIte, Nat.reduceEqDiff, Int.reduceToNat, Nat.reduceMul, Nat.reduceAdd, Nat.reduceBEq, isLd, y18]) (by simp (maxSteps := 300000) (disch := omega) only [gs, gs2, gs3, gs4, ↓reduceIte, Nat.reduceEqDiff, Int.reduceToNat, Nat.reduceMul, Nat.reduceAdd, Nat.reduceBEq, isLd]) (by simp (maxSteps := 300000) (disch := omega) only [gs, gs2, gs3, gs4, ↓reduceIte, Nat.reduceEqDiff, Int.reduceToNat, Nat.reduceMul, Nat.reduceAdd, Nat.reduceBEq, isLd] <;> rfl) fun T2 G2 hS2 hF2 hK2 => ?_
        · dsimp only
          split
          · exact hr.clr (by omega) _ _ a b
          · exact hr a b
        have z18 : T2 18 = .int .i64 i := (hS2 18 (by omega)).trans (by simp (maxSteps := 300000) (disch := omega) only [gs, gs2, gs3, gs4, ↓reduceIte, Nat.reduceEqDiff, Int.reduceToNat, Nat.reduceMul, Nat.reduceAdd, Nat.reduceBEq, isLd, y18])
        simp (maxSteps := 300000) (disch := omega) only [gs, gs2, gs3, gs4, ↓reduceIte, Nat.reduceEqDiff, Int.reduceToNat, Nat.reduceMul, Nat.reduceAdd, Nat.reduceBEq, isLd, z18]
        refine ⟨m - 1, by omega, G2, Sub.refl _, i + 1, ?_, rfl, by omega, by omega, hK.trans hK2, hF2.cong fun a b ha hb => ?_⟩
        · refine Sam.upd (Sam.upd (Sam.upd ((hS2.le (by omega)).trans ?_) _ (by omega)) _ (by omega)) _ (by omega)
          repeat (first | exact hS | refine Sam.upd ?_ _ (by omega))
        · by_cases e : a = i
          · subst e
            rw [if_pos rfl, if_neg (show ¬ (a : Int) < (a : Int) by omega), if_pos (show (a : Int) < ((a + 1 : Nat) : Int) by omega)]
            have e3 : (if (t : Int) < (a : Int) then clr h t k p t b else h t b) = h t b := by rw [hclt, ite_self]
            rw [e3, clr_sub]
            unfold clr
            rw [if_neg hit]
          · rw [if_neg (show ¬ (a : Int) = i by omega)]
            by_cases e2 : a < i
            · rw [if_pos (show (a : Int) < (i : Int) by omega), if_pos (show (a : Int) < ((i + 1 : Nat) : Int) by omega)]
            · rw [if_neg (show ¬ (a : Int) < (i : Int) by omega), if_neg (show ¬ (a : Int) < ((i + 1 : Nat) : Int) by omega)]
  · simp (maxSteps := 300000) (disch := omega) only [gs, gs2, gs3, gs4, ↓reduceIte, Nat.reduceEqDiff, Int.reduceToNat, Nat.reduceMul, Nat.reduceAdd, Nat.reduceBEq, isLd, y0, y5, y6, y7, y10, y11, y18, m1, hii]
    refine hQ _ G' ?_ (hF'.cong fun a b ha hb => if_pos (by omega)) hK
    repeat (first | exact hS | refine Sam.upd ?_ _ (by omega))
abbrev reSwap : GCode := .seq (.reg c_spec_l03Reduced_14) (.cond (tt 90) (.seq (.reg c_spec_l03Reduced_15) (.seq (.reg c_spec_l03Reduced_16) (.blk 4 (.loop c_spec_l03Reduced_l1)))) .skip)
abbrev reTail : GCode := .seq (.reg c_spec_l03Reduced_23) (.seq (.reg c_spec_l03Reduced_24) (.seq (.reg c_spec_l03Reduced_25) (.seq (.seq (.reg c_spec_l03Reduced_26) (.blk 6 (.loop c_spec_l03Reduced_l2))) (.seq (.seq (.reg c_spec_l03Reduced_31) (.blk 8 (.loop c_spec_l03Reduced_l4))) (.seq (.reg c_spec_l03Reduced_42) (.reg c_spec_l03Reduced_43))))))
theorem red_sw {G : GH} {bm b5 bc R w cc t i k : Nat} {p d : Int} {f : Int → Int → Int} {T : Nat → Value} {Q : Cont} {X : GCode} (hG : RdG G bm b5 bc R w cc) (hF : Fl G bc R w f) (hR : R ≤ 2 ^ 10) (hw : w ≤ 2 ^ 10) (ht : t < R) (hi : i < R) (hp : 1 < p ∧ p ≤ 2 ^ 30) (hd : 0 ≤ d ∧ d ≤ p)
    (x5 : T 5 = .pointer (some ⟨b5, 0, none⟩)) (x6 : T 6 = .int .i64 p) (x7 : T 7 = .int .i64 w) (x9 : T 9 = .int .i64 d) (x10 : T 10 = .int .i64 t) (x11 : T 11 = .int .i64 k) (x12 : T 12 = .int .i64 i)
    (hX : ∀ T' G' d', 0 ≤ d' → d' ≤ p → Sam 9 T' T → T' 9 = .int .i64 d' → T' 10 = .int .i64 t → T' 11 = .int .i64 k → Fl G' bc R w (swp f t i) → Keep bc G G' → gW Try.prog X Q T' G') : gW Try.prog (.seq reSwap X) Q T G := by
  simp (maxSteps := 300000) (disch := omega) only [gs, gs2, gs3, gs4, ↓reduceIte, Nat.reduceEqDiff, Int.reduceToNat, Nat.reduceMul, Nat.reduceAdd, Nat.reduceBEq, isLd, x10, x12]
  by_cases hit : (i : Int) = t
  · simp (maxSteps := 300000) (disch := omega) only [gs, gs2, gs3, gs4, ↓reduceIte, Nat.reduceEqDiff, Int.reduceToNat, Nat.reduceMul, Nat.reduceAdd, Nat.reduceBEq, isLd, eq_true hit]
    refine hX _ G d hd.1 hd.2 ?_ (by simp (maxSteps := 300000) (disch := omega) only [gs, gs2, gs3, gs4, ↓reduceIte, Nat.reduceEqDiff, Int.reduceToNat, Nat.reduceMul, Nat.reduceAdd, Nat.reduceBEq, isLd, x9]) (by simp (maxSteps := 300000) (disch := omega) only [gs, gs2, gs3, gs4, ↓reduceIte, Nat.reduceEqDiff, Int.reduceToNat, Nat.reduceMul, Nat.reduceAdd, Nat.reduceBEq, isLd, x10]) (by simp (maxSteps := 300000) (disch := omega) only [gs, gs2, gs3, gs4, ↓reduceIte, Nat.reduceEqDiff, Int.reduceToNat, Nat.reduceMul, Nat.reduceAdd, Nat.reduceBEq, isLd, x11]) (hF.cong fun a b _ _ => ?_) (Keep.refl _ _)
    · repeat (first | exact Sam.refl _ _ | refine Sam.upd ?_ _ (by omega))
    · rw [hit]; rw [swp_self]
  · have w1 := w64 (p - d) (by omega) (by omega)
    simp (maxSteps := 300000) (disch := omega) only [gs, gs2, gs3, gs4, ↓reduceIte, Nat.reduceEqDiff, Int.reduceToNat, Nat.reduceMul, Nat.reduceAdd, Nat.reduceBEq, isLd, eq_false hit, x6, x9, w1]
    refine red_l1 hG hF hR hw ht hi (by omega) (by simp (maxSteps := 300000) (disch := omega) only [gs, gs2, gs3, gs4, ↓reduceIte, Nat.reduceEqDiff, Int.reduceToNat, Nat.reduceMul, Nat.reduceAdd, Nat.reduceBEq, isLd, x5]) (by simp (maxSteps := 300000) (disch := omega) only [gs, gs2, gs3, gs4, ↓reduceIte, Nat.reduceEqDiff, Int.reduceToNat, Nat.reduceMul, Nat.reduceAdd, Nat.reduceBEq, isLd, x7]) (by simp (maxSteps := 300000) (disch := omega) only [gs, gs2, gs3, gs4, ↓reduceIte, Nat.reduceEqDiff, Int.reduceToNat, Nat.reduceMul, Nat.reduceAdd, Nat.reduceBEq, isLd, x10]) (by simp (maxSteps := 300000) (disch := omega) only [gs, gs2, gs3, gs4, ↓reduceIte, Nat.reduceEqDiff, Int.reduceToNat, Nat.reduceMul, Nat.reduceAdd, Nat.reduceBEq, isLd, x12]) (by simp (maxSteps := 300000) (disch := omega) only [gs, gs2, gs3, gs4, ↓reduceIte, Nat.reduceEqDiff, Int.reduceToNat, Nat.reduceMul, Nat.reduceAdd, Nat.reduceBEq, isLd] <;> rfl) fun T' G' hS hF' hK => ?_
    have z9 : T' 9 = .int .i64 (p - d) := (hS 9 (by omega)).trans (by simp (maxSteps := 300000) (disch := omega) only [gs, gs2, gs3, gs4, ↓reduceIte, Nat.reduceEqDiff, Int.reduceToNat, Nat.reduceMul, Nat.reduceAdd, Nat.reduceBEq, isLd])
    have z10 : T' 10 = .int .i64 t := (hS 10 (by omega)).trans (by simp (maxSteps := 300000) (disch := omega) only [gs, gs2, gs3, gs4, ↓reduceIte, Nat.reduceEqDiff, Int.reduceToNat, Nat.reduceMul, Nat.reduceAdd, Nat.reduceBEq, isLd, x10])
    have z11 : T' 11 = .int .i64 k := (hS 11 (by omega)).trans (by simp (maxSteps := 300000) (disch := omega) only [gs, gs2, gs3, gs4, ↓reduceIte, Nat.reduceEqDiff, Int.reduceToNat, Nat.reduceMul, Nat.reduceAdd, Nat.reduceBEq, isLd, x11])
    simp (maxSteps := 300000) (disch := omega) only [gs, gs2, gs3, gs4, ↓reduceIte, Nat.reduceEqDiff, Int.reduceToNat, Nat.reduceMul, Nat.reduceAdd, Nat.reduceBEq, isLd]
    refine hX T' G' (p - d) (by omega) (by omega) ?_ z9 z10 z11 hF' hK
    intro u hu
    rw [hS u (by omega)]
    unfold upd
    repeat rw [if_neg (by omega)]
theorem red_tail {H G : GH} {bm b5 bc R w cc t k cq : Nat} {p d : Int} {g : Int → Int → Int} {P : Option Addr} {piv : List Int} {T : Nat → Value} {Q : Cont} (hH : RdG H bm b5 bc R w cc) (nb : H bc = none) (s : Sub H G) (hF : Fl G bc R w g) (hO : Own G P cq (piv.map I64) 1 piv.length) (oP : Off H P) (hne : ∀ a, P = some a → a.block ≠ bc) (hpl : piv.length ≤ 2 ^ 10)
    (hR : R ≤ 2 ^ 10) (hw : w ≤ 2 ^ 10) (ht : t < R) (hk : k < w) (hr : Rng g p) (hp : 1 < p ∧ p ≤ 251) (hd : 0 ≤ d ∧ d ≤ p)
    (x0 : T 0 = .pointer (some ⟨bm, 0, none⟩)) (x5 : T 5 = .pointer (some ⟨b5, 0, none⟩)) (x6 : T 6 = .int .i64 p) (x7 : T 7 = .int .i64 w) (x8 : T 8 = .slice P piv.length cq) (x9 : T 9 = .int .i64 d) (x10 : T 10 = .int .i64 t) (x11 : T 11 = .int .i64 k)
    (hQ : ∀ T' G' P' cq' d', 0 ≤ d' → d' ≤ p → Sam 8 T' T → T' 8 = .slice P' (piv.length + 1) cq' → T' 9 = .int .i64 d' → T' 10 = .int .i64 ((t + 1 : Nat) : Int) → T' 11 = .int .i64 k → Sub H G' → Fl G' bc R w (clr (scl g t (invF (g t k) p) p) t k p) →
      Own G' P' cq' ((piv ++ [(k : Int)]).map I64) 1 (piv.length + 1) → Off H P' → (∀ a, P' = some a → a.block ≠ bc) → Q .nrm T' G') : gW Try.prog reTail Q T G := by
  have hG := hH.sub s
  have c3 := hG.c3
  have hbt := iw_bd (i := t) (w := w) (by omega) hw
  have w3 := w64 ((t : Int) * w) (by omega) (by omega)
  have w4 := w64 ((t : Int) * w + k) (by omega) (by omega)
  have rt := hF.rd (i := t) (j := k) ht hk
  have h3 := flat_lt (R := R) (w := w) (i := t) (j := k) ht hk
  have h4 := flat_nn t k w
  have hb := hr t k
  have hmm := mulB (a := d) (b := g t k) (A := 2 ^ 30) (B := 2 ^ 30) (by omega) (by omega)
  have hnn : 0 ≤ d * g t k := Int.mul_nonneg hd.1 hb.1
  have w5 := w64 (d * g t k) (by omega) (by omega)
  have hrm : (d * g t k).tmod p = d * g t k % p := Int.tmod_eq_emod_of_nonneg hnn
  have hrem := fun x : Int => bin_rem .i64 x p (by omega)
  have hre : 0 ≤ d * g t k % p ∧ d * g t k % p < p := ⟨Int.emod_nonneg _ (by omega), Int.emod_lt_of_pos _ (by omega)⟩
  have w6 := w64 (d * g t k % p) (by omega) (by omega)
  simp (maxSteps := 300000) (disch := omega) only [gs, gs2, gs3, gs4, ↓reduceIte, Nat.reduceEqDiff, Int.reduceToNat, Nat.reduceMul, Nat.reduceAdd, Nat.reduceBEq, isLd, x0, x5, x6, x7, x8, x9, x10, x11, c3, w3, w4, rt, w5, hrem, hrm, w6]
  refine spec_l03Inverse_ok ⟨by omega, by omega⟩ hp ?_
  have hinv := pw_rng (a := g t k) (p := p) hp.1 (p - 2).toNat
  simp (maxSteps := 300000) (disch := omega) only [gs, gs2, gs3, gs4, ↓reduceIte, Nat.reduceEqDiff, Int.reduceToNat, Nat.reduceMul, Nat.reduceAdd, Nat.reduceBEq, isLd, x0, x5, x6, x7, x8, x9, x10, x11]
  refine red_l2 (p := p) (iv := invF (g t k) p) hG hF hR hw ht hr ⟨hp.1, by omega⟩ hinv (by simp (maxSteps := 300000) (disch := omega) only [gs, gs2, gs3, gs4, ↓reduceIte, Nat.reduceEqDiff, Int.reduceToNat, Nat.reduceMul, Nat.reduceAdd, Nat.reduceBEq, isLd, x5]) (by simp (maxSteps := 300000) (disch := omega) only [gs, gs2, gs3, gs4, ↓reduceIte, Nat.reduceEqDiff, Int.reduceToNat, Nat.reduceMul, Nat.reduceAdd, Nat.reduceBEq, isLd, x6]) (by simp (maxSteps := 300000) (disch := omega) only [gs, gs2, gs3, gs4, ↓reduceIte, Nat.reduceEqDiff, Int.reduceToNat, Nat.reduceMul, Nat.reduceAdd, Nat.reduceBEq, isLd, x7]) (by simp (maxSteps := 300000) (disch := omega) only [gs, gs2, gs3, gs4, ↓reduceIte, Nat.reduceEqDiff, Int.reduceToNat, Nat.reduceMul, Nat.reduceAdd, Nat.reduceBEq, isLd, x10]) (by simp (maxSteps := 300000) (disch := omega) only [gs, gs2, gs3, gs4, ↓reduceIte, Nat.reduceEqDiff, Int.reduceToNat, Nat.reduceMul, Nat.reduceAdd, Nat.reduceBEq, isLd]) (by simp (maxSteps := 300000) (disch := omega) only [gs, gs2, gs3, gs4, ↓reduceIte, Nat.reduceEqDiff, Int.reduceToNat, Nat.reduceMul, Nat.reduceAdd, Nat.reduceBEq, isLd] <;> rfl) fun T2 G2 hS2 hF2 hK2 => ?_
  have y0 : T2 0 = .pointer (some ⟨bm, 0, none⟩) := (hS2 0 (by omega)).trans (by simp (maxSteps := 300000) (disch := omega) only [gs, gs2, gs3, gs4, ↓reduceIte, Nat.reduceEqDiff, Int.reduceToNat, Nat.reduceMul, Nat.reduceAdd, Nat.reduceBEq, isLd, x0])
  have y5 : T2 5 = .pointer (some ⟨b5, 0, none⟩) := (hS2 5 (by omega)).trans (by simp (maxSteps := 300000) (disch := omega) only [gs, gs2, gs3, gs4, ↓reduceIte, Nat.reduceEqDiff, Int.reduceToNat, Nat.reduceMul, Nat.reduceAdd, Nat.reduceBEq, isLd, x5])
  have y6 : T2 6 = .int .i64 p := (hS2 6 (by omega)).trans (by simp (maxSteps := 300000) (disch := omega) only [gs, gs2, gs3, gs4, ↓reduceIte, Nat.reduceEqDiff, Int.reduceToNat, Nat.reduceMul, Nat.reduceAdd, Nat.reduceBEq, isLd, x6])
  have y7 : T2 7 = .int .i64 w := (hS2 7 (by omega)).trans (by simp (maxSteps := 300000) (disch := omega) only [gs, gs2, gs3, gs4, ↓reduceIte, Nat.reduceEqDiff, Int.reduceToNat, Nat.reduceMul, Nat.reduceAdd, Nat.reduceBEq, isLd, x7])
  have y8 : T2 8 = .slice P piv.length cq := (hS2 8 (by omega)).trans (by simp (maxSteps := 300000) (disch := omega) only [gs, gs2, gs3, gs4, ↓reduceIte, Nat.reduceEqDiff, Int.reduceToNat, Nat.reduceMul, Nat.reduceAdd, Nat.reduceBEq, isLd, x8])
  have y9 : T2 9 = .int .i64 (d * g t k % p) := (hS2 9 (by omega)).trans (by simp (maxSteps := 300000) (disch := omega) only [gs, gs2, gs3, gs4, ↓reduceIte, Nat.reduceEqDiff, Int.reduceToNat, Nat.reduceMul, Nat.reduceAdd, Nat.reduceBEq, isLd])
  have y10 : T2 10 = .int .i64 t := (hS2 10 (by omega)).trans (by simp (maxSteps := 300000) (disch := omega) only [gs, gs2, gs3, gs4, ↓reduceIte, Nat.reduceEqDiff, Int.reduceToNat, Nat.reduceMul, Nat.reduceAdd, Nat.reduceBEq, isLd, x10])
  have y11 : T2 11 = .int .i64 k := (hS2 11 (by omega)).trans (by simp (maxSteps := 300000) (disch := omega) only [gs, gs2, gs3, gs4, ↓reduceIte, Nat.reduceEqDiff, Int.reduceToNat, Nat.reduceMul, Nat.reduceAdd, Nat.reduceBEq, isLd, x11])
  have hS2' : Sam 8 T2 T := fun u hu => by
    rw [hS2 u (by omega)]
    unfold upd
    repeat rw [if_neg (by omega)]
  simp (maxSteps := 300000) (disch := omega) only [gs, gs2, gs3, gs4, ↓reduceIte, Nat.reduceEqDiff, Int.reduceToNat, Nat.reduceMul, Nat.reduceAdd, Nat.reduceBEq, isLd]
  refine red_l4 (p := p) (h := scl g t (invF (g t k) p) p) (t := t) (k := k) (hG.keep hK2) hF2 hR hw ht hk (hr.scl (by omega) _ _) ⟨hp.1, by omega⟩ (by simp (maxSteps := 300000) (disch := omega) only [gs, gs2, gs3, gs4, ↓reduceIte, Nat.reduceEqDiff, Int.reduceToNat, Nat.reduceMul, Nat.reduceAdd, Nat.reduceBEq, isLd, y0]) (by simp (maxSteps := 300000) (disch := omega) only [gs, gs2, gs3, gs4, ↓reduceIte, Nat.reduceEqDiff, Int.reduceToNat, Nat.reduceMul, Nat.reduceAdd, Nat.reduceBEq, isLd, y5]) (by simp (maxSteps := 300000) (disch := omega) only [gs, gs2, gs3, gs4, ↓reduceIte, Nat.reduceEqDiff, Int.reduceToNat, Nat.reduceMul, Nat.reduceAdd, Nat.reduceBEq, isLd, y6]) (by simp (maxSteps := 300000) (disch := omega) only [gs, gs2, gs3, gs4, ↓reduceIte, Nat.reduceEqDiff, Int.reduceToNat, Nat.reduceMul, Nat.reduceAdd, Nat.reduceBEq, isLd, y7]) (by simp (maxSteps := 300000) (disch := omega) only [gs, gs2, gs3, gs4, ↓reduceIte, Nat.reduceEqDiff, Int.reduceToNat, Nat.reduceMul, Nat.reduceAdd, Nat.reduceBEq, isLd, y10]) (by simp (maxSteps := 300000) (disch := omega) only [gs, gs2, gs3, gs4, ↓reduceIte, Nat.reduceEqDiff, Int.reduceToNat, Nat.reduceMul, Nat.reduceAdd, Nat.reduceBEq, isLd, y11]) (by simp (maxSteps := 300000) (disch := omega) only [gs, gs2, gs3, gs4, ↓reduceIte, Nat.reduceEqDiff, Int.reduceToNat, Nat.reduceMul, Nat.reduceAdd, Nat.reduceBEq, isLd] <;> rfl) fun T3 G3 hS3 hF3 hK3 => ?_
  have z8 : T3 8 = .slice P piv.length cq := (hS3 8 (by omega)).trans (by simp (maxSteps := 300000) (disch := omega) only [gs, gs2, gs3, gs4, ↓reduceIte, Nat.reduceEqDiff, Int.reduceToNat, Nat.reduceMul, Nat.reduceAdd, Nat.reduceBEq, isLd, y8])
  have z9 : T3 9 = .int .i64 (d * g t k % p) := (hS3 9 (by omega)).trans (by simp (maxSteps := 300000) (disch := omega) only [gs, gs2, gs3, gs4, ↓reduceIte, Nat.reduceEqDiff, Int.reduceToNat, Nat.reduceMul, Nat.reduceAdd, Nat.reduceBEq, isLd, y9])
  have z10 : T3 10 = .int .i64 t := (hS3 10 (by omega)).trans (by simp (maxSteps := 300000) (disch := omega) only [gs, gs2, gs3, gs4, ↓reduceIte, Nat.reduceEqDiff, Int.reduceToNat, Nat.reduceMul, Nat.reduceAdd, Nat.reduceBEq, isLd, y10])
  have z11 : T3 11 = .int .i64 k := (hS3 11 (by omega)).trans (by simp (maxSteps := 300000) (disch := omega) only [gs, gs2, gs3, gs4, ↓reduceIte, Nat.reduceEqDiff, Int.reduceToNat, Nat.reduceMul, Nat.reduceAdd, Nat.reduceBEq, isLd, y11])
  have hK := hK2.trans hK3
  have hO3 := hO.keep hK hne
  have s3 := sub_keep hK nb s
  simp (maxSteps := 300000) (disch := omega) only [gs, gs2, gs3, gs4, ↓reduceIte, Nat.reduceEqDiff, Int.reduceToNat, Nat.reduceMul, Nat.reduceAdd, Nat.reduceBEq, isLd, z8, z9, z10, z11, gBs]
  refine ⟨by intro v hv; simp at hv; subst hv; rfl, fun b15 hb15 => ?_⟩
  have s15 := Sub.put hb15 ⟨[.int .i64 (k : Int)], true⟩
  refine ap_own (hO3.sub s15) (news := [I64 k]) (m := 1) (cells_one _ true) rfl (by intro v hv; simp at hv; subst hv; rfl) rfl (by omega) (by omega) (by omega) fun G5 P5 c5 hO5 keep => ?_
  obtain ⟨q, rs, hq1, hq2⟩ := hF3
  have hsp : Sub (put H bc ⟨fcells (R * w) q ++ rs, true⟩) G3 := Sub.of_put s3 hq1
  have hop : Off (put H bc ⟨fcells (R * w) q ++ rs, true⟩) P := fun a ha => by rw [put_ne _ _ (hne a ha)]; exact oP a ha
  obtain ⟨s5, o5⟩ := keep _ (hsp.trans s15) hop
  have wr : IntKind.i64.wrap ((t : Int) + 1) = (t : Int) + 1 := w64 _ (by omega) (by omega)
  simp (maxSteps := 300000) (disch := omega) only [gs, gs2, gs3, gs4, ↓reduceIte, Nat.reduceEqDiff, Int.reduceToNat, Nat.reduceMul, Nat.reduceAdd, Nat.reduceBEq, isLd, z8, z9, z10, z11, wr]
  refine hQ _ G5 P5 c5 (d * g t k % p) hre.1 (by omega) ?_ (by simp (maxSteps := 300000) (disch := omega) only [gs, gs2, gs3, gs4, ↓reduceIte, Nat.reduceEqDiff, Int.reduceToNat, Nat.reduceMul, Nat.reduceAdd, Nat.reduceBEq, isLd]) (by simp (maxSteps := 300000) (disch := omega) only [gs, gs2, gs3, gs4, ↓reduceIte, Nat.reduceEqDiff, Int.reduceToNat, Nat.reduceMul, Nat.reduceAdd, Nat.reduceBEq, isLd, z9]) (by simp (maxSteps := 300000) (disch := omega) only [gs, gs2, gs3, gs4, ↓reduceIte, Nat.reduceEqDiff, Int.reduceToNat, Nat.reduceMul, Nat.reduceAdd, Nat.reduceBEq, isLd]; rfl) (by simp (maxSteps := 300000) (disch := omega) only [gs, gs2, gs3, gs4, ↓reduceIte, Nat.reduceEqDiff, Int.reduceToNat, Nat.reduceMul, Nat.reduceAdd, Nat.reduceBEq, isLd, z11]) ((Sub.put nb _).trans s5) ⟨q, rs, s5 _ _ (put_same _ _ _), hq2⟩ ?_ (o5.mono (Sub.put nb _)) o5.pne
  · intro u hu
    unfold upd
    repeat rw [if_neg (by omega)]
    rw [hS3 u (by omega)]
    unfold upd
    repeat rw [if_neg (by omega)]
    exact hS2' u hu
  · exact hO5.cast (by rw [List.map_append]; rfl) rfl
/-- a matrix in a box. -/
structure MatB (G : GH) (b : Nat) (p : Int) (R C : Nat) (A : Option Addr) (L c : Nat) : Prop where
  f0 : rd G (some ⟨b, 0, none⟩) = some (.int .i64 p)
  f1 : rd G (some ⟨b, 1, none⟩) = some (.int .i64 R)
  f2 : rd G (some ⟨b, 2, none⟩) = some (.int .i64 C)
  f3 : rd G (some ⟨b, 3, none⟩) = some (.slice A L c)
theorem MatB.sub {G G' : GH} {b : Nat} {p : Int} {R C : Nat} {A : Option Addr} {L c : Nat} (h : MatB G b p R C A L c) (s : Sub G G') : MatB G' b p R C A L c := ⟨rd_sub s h.f0, rd_sub s h.f1, rd_sub s h.f2, rd_sub s h.f3⟩
theorem MatB.box (G : GH) (b : Nat) (p : Int) (R C : Nat) (A : Option Addr) (L c : Nat) : MatB (put G b ⟨matC p R C A L c, true⟩) b p R C A L c := ⟨rd_box _ _ _ 0 _ rfl, rd_box _ _ _ 1 _ rfl, rd_box _ _ _ 2 _ rfl, rd_box _ _ _ 3 _ rfl⟩
theorem matC_one (p : Int) (R C : Nat) (A : Option Addr) (L c : Nat) : ∀ v ∈ matC p R C A L c, oneB v = true := by
  intro v hv; simp [matC] at hv; rcases hv with rfl | rfl | rfl | rfl <;> rfl
theorem elF_full {p : Int} {R : Nat} {f : Int → Int → Int} {k : Nat} (h : (elF p R f k).piv.length = R) : ∀ d, (elF p R f (k + d)).f = (elF p R f k).f ∧ (elF p R f (k + d)).piv = (elF p R f k).piv
  | 0 => ⟨rfl, rfl⟩
  | d + 1 => by
    have ih := elF_full h d
    have e : elF p R f (k + (d + 1)) = elS p R (elF p R f (k + d)) (k + d : Nat) := rfl
    rw [e]
    unfold elS
    rw [fstRow_none fun j h1 h2 => by rw [ih.2, h] at h1; omega]
    exact ih
/-- the loop over the columns. -/
theorem red_l5 {H G : GH} {bm b5 bc R w cc : Nat} {p : Int} {f : Int → Int → Int} {T : Nat → Value} {Q : Cont} (hH : RdG H bm b5 bc R w cc) (nb : H bc = none) (s : Sub H G) (hF : Fl G bc R w f) {cq0 : Nat} {P0 : Option Addr} (hO : Own G P0 cq0 [] 1 0) (oP : Off H P0) (hne : ∀ a, P0 = some a → a.block ≠ bc)
    (hR : R ≤ 2 ^ 10) (hw : w ≤ 2 ^ 10) (hr : Rng f p) (hp : 1 < p ∧ p ≤ 251)
    (x0 : T 0 = .pointer (some ⟨bm, 0, none⟩)) (x5 : T 5 = .pointer (some ⟨b5, 0, none⟩)) (x6 : T 6 = .int .i64 p) (x7 : T 7 = .int .i64 w) (x8 : T 8 = .slice P0 0 cq0) (x9 : T 9 = .int .i64 1) (x10 : T 10 = .int .i64 0) (x11 : T 11 = .int .i64 0)
    (hQ : ∀ T' G' P cq d, Sam 8 T' T → T' 8 = .slice P (elF p R f w).piv.length cq → T' 9 = .int .i64 d → Sub H G' → Fl G' bc R w (elF p R f w).f → Own G' P cq ((elF p R f w).piv.map I64) 1 (elF p R f w).piv.length → Off H P → Q (.ex 0) T' G') : gLoop (gW Try.prog c_spec_l03Reduced_l5) Q T G := by
  refine gLoop_intro (fun m T' G' => ∃ (k : Nat) (P : Option Addr) (cq : Nat) (d : Int), Sam 8 T' T ∧ T' 8 = .slice P (elF p R f k).piv.length cq ∧ T' 9 = .int .i64 d ∧ T' 10 = .int .i64 (elF p R f k).piv.length ∧ T' 11 = .int .i64 k ∧ m + k = w ∧ k ≤ w ∧ (0 ≤ d ∧ d ≤ p) ∧ Sub H G' ∧ Fl G' bc R w (elF p R f k).f ∧ Own G' P cq ((elF p R f k).piv.map I64) 1 (elF p R f k).piv.length ∧ Off H P ∧ ∀ a, P = some a → a.block ≠ bc)
    w ⟨0, P0, cq0, 1, Sam.refl _ _, x8, x9, x10, x11, by omega, by omega, by omega, s, hF, hO, oP, hne⟩ ?_
  clear hF hO oP hne s
  rintro m T' G' ⟨k, P, cq, d, hS, y8, y9, y10, y11, hm, hkw, hd, s, hF, hO, oP, hne⟩
  have y0 := (hS 0 (by omega)).trans x0
  have y5 := (hS 5 (by omega)).trans x5
  have y6 := (hS 6 (by omega)).trans x6
  have y7 := (hS 7 (by omega)).trans x7
  have hG := hH.sub s
  have m1 := hG.m1
  have hrg := elF_rng (R := R) (by omega : 0 < p) hr k
  have hln := elF_len p R f k
  have hstep : elF p R f (k + 1) = elS p R (elF p R f k) k := rfl
  have fin : (elF p R f k).f = (elF p R f w).f ∧ (elF p R f k).piv = (elF p R f w).piv → ∀ T2, Sam 8 T2 T → T2 8 = .slice P (elF p R f k).piv.length cq → T2 9 = .int .i64 d → Q (.ex 0) T2 G' := fun e T2 h1 h2 h3 => by
    rw [e.2] at h2 hO
    rw [e.1] at hF
    exact hQ T2 G' P cq d h1 h2 h3 s hF hO oP
  simp (maxSteps := 300000) (disch := omega) only [gs, gs2, gs3, gs4, ↓reduceIte, Nat.reduceEqDiff, Int.reduceToNat, Nat.reduceMul, Nat.reduceAdd, Nat.reduceBEq, isLd, y0, y5, y6, y7, y8, y9, y10, y11]
  by_cases hkk : (k : Int) < w
  rotate_left
  · simp (maxSteps := 300000) (disch := omega) only [gs, gs2, gs3, gs4, ↓reduceIte, Nat.reduceEqDiff, Int.reduceToNat, Nat.reduceMul, Nat.reduceAdd, Nat.reduceBEq, isLd, y0, y5, y6, y7, y8, y9, y10, y11, hkk]
    obtain rfl : k = w := by omega
    refine fin ⟨rfl, rfl⟩ _ ?_ (by simp (maxSteps := 300000) (disch := omega) only [gs, gs2, gs3, gs4, ↓reduceIte, Nat.reduceEqDiff, Int.reduceToNat, Nat.reduceMul, Nat.reduceAdd, Nat.reduceBEq, isLd, y8]) (by simp (maxSteps := 300000) (disch := omega) only [gs, gs2, gs3, gs4, ↓reduceIte, Nat.reduceEqDiff, Int.reduceToNat, Nat.reduceMul, Nat.reduceAdd, Nat.reduceBEq, isLd, y9])
    repeat (first | exact hS | refine Sam.upd ?_ _ (by omega))
  simp (maxSteps := 300000) (disch := omega) only [gs, gs2, gs3, gs4, ↓reduceIte, Nat.reduceEqDiff, Int.reduceToNat, Nat.reduceMul, Nat.reduceAdd, Nat.reduceBEq, isLd, y0, y5, y6, y7, y8, y9, y10, y11, hkk, m1]
  by_cases hrr : ((elF p R f k).piv.length : Int) < R
  rotate_left
  · simp (maxSteps := 300000) (disch := omega) only [gs, gs2, gs3, gs4, ↓reduceIte, Nat.reduceEqDiff, Int.reduceToNat, Nat.reduceMul, Nat.reduceAdd, Nat.reduceBEq, isLd, y0, y5, y6, y7, y8, y9, y10, y11, hrr]
    have hfull := elF_full (p := p) (R := R) (f := f) (k := k) (by omega) (w - k)
    rw [show k + (w - k) = w by omega] at hfull
    refine fin ⟨hfull.1.symm, hfull.2.symm⟩ _ ?_ (by simp (maxSteps := 300000) (disch := omega) only [gs, gs2, gs3, gs4, ↓reduceIte, Nat.reduceEqDiff, Int.reduceToNat, Nat.reduceMul, Nat.reduceAdd, Nat.reduceBEq, isLd, y8]) (by simp (maxSteps := 300000) (disch := omega) only [gs, gs2, gs3, gs4, ↓reduceIte, Nat.reduceEqDiff, Int.reduceToNat, Nat.reduceMul, Nat.reduceAdd, Nat.reduceBEq, isLd, y9])
    repeat (first | exact hS | refine Sam.upd ?_ _ (by omega))
  clear fin
  generalize elF p R f k = S at *
  simp (maxSteps := 300000) (disch := omega) only [gs, gs2, gs3, gs4, ↓reduceIte, Nat.reduceEqDiff, Int.reduceToNat, Nat.reduceMul, Nat.reduceAdd, Nat.reduceBEq, isLd, y0, y5, y6, y7, y8, y9, y10, y11, hrr]
  refine red_l0 (t := S.piv.length) (k := k) hG hF hR hw (by omega) (by omega) (by simp (maxSteps := 300000) (disch := omega) only [gs, gs2, gs3, gs4, ↓reduceIte, Nat.reduceEqDiff, Int.reduceToNat, Nat.reduceMul, Nat.reduceAdd, Nat.reduceBEq, isLd, y0]) (by simp (maxSteps := 300000) (disch := omega) only [gs, gs2, gs3, gs4, ↓reduceIte, Nat.reduceEqDiff, Int.reduceToNat, Nat.reduceMul, Nat.reduceAdd, Nat.reduceBEq, isLd, y5]) (by simp (maxSteps := 300000) (disch := omega) only [gs, gs2, gs3, gs4, ↓reduceIte, Nat.reduceEqDiff, Int.reduceToNat, Nat.reduceMul, Nat.reduceAdd, Nat.reduceBEq, isLd, y7]) (by simp (maxSteps := 300000) (disch := omega) only [gs, gs2, gs3, gs4, ↓reduceIte, Nat.reduceEqDiff, Int.reduceToNat, Nat.reduceMul, Nat.reduceAdd, Nat.reduceBEq, isLd, y11]) (by simp (maxSteps := 300000) (disch := omega) only [gs, gs2, gs3, gs4, ↓reduceIte, Nat.reduceEqDiff, Int.reduceToNat, Nat.reduceMul, Nat.reduceAdd, Nat.reduceBEq, isLd]) fun T2 i hS2 z12 hti hiR hz hnz => ?_
  have z0 : T2 0 = .pointer (some ⟨bm, 0, none⟩) := (hS2 0 (by omega)).trans (by simp (maxSteps := 300000) (disch := omega) only [gs, gs2, gs3, gs4, ↓reduceIte, Nat.reduceEqDiff, Int.reduceToNat, Nat.reduceMul, Nat.reduceAdd, Nat.reduceBEq, isLd, y0])
  have z5 : T2 5 = .pointer (some ⟨b5, 0, none⟩) := (hS2 5 (by omega)).trans (by simp (maxSteps := 300000) (disch := omega) only [gs, gs2, gs3, gs4, ↓reduceIte, Nat.reduceEqDiff, Int.reduceToNat, Nat.reduceMul, Nat.reduceAdd, Nat.reduceBEq, isLd, y5])
  have z6 : T2 6 = .int .i64 p := (hS2 6 (by omega)).trans (by simp (maxSteps := 300000) (disch := omega) only [gs, gs2, gs3, gs4, ↓reduceIte, Nat.reduceEqDiff, Int.reduceToNat, Nat.reduceMul, Nat.reduceAdd, Nat.reduceBEq, isLd, y6])
  have z7 : T2 7 = .int .i64 w := (hS2 7 (by omega)).trans (by simp (maxSteps := 300000) (disch := omega) only [gs, gs2, gs3, gs4, ↓reduceIte, Nat.reduceEqDiff, Int.reduceToNat, Nat.reduceMul, Nat.reduceAdd, Nat.reduceBEq, isLd, y7])
  have z8 : T2 8 = .slice P S.piv.length cq := (hS2 8 (by omega)).trans (by simp (maxSteps := 300000) (disch := omega) only [gs, gs2, gs3, gs4, ↓reduceIte, Nat.reduceEqDiff, Int.reduceToNat, Nat.reduceMul, Nat.reduceAdd, Nat.reduceBEq, isLd, y8])
  have z9 : T2 9 = .int .i64 d := (hS2 9 (by omega)).trans (by simp (maxSteps := 300000) (disch := omega) only [gs, gs2, gs3, gs4, ↓reduceIte, Nat.reduceEqDiff, Int.reduceToNat, Nat.reduceMul, Nat.reduceAdd, Nat.reduceBEq, isLd, y9])
  have z10 : T2 10 = .int .i64 S.piv.length := (hS2 10 (by omega)).trans (by simp (maxSteps := 300000) (disch := omega) only [gs, gs2, gs3, gs4, ↓reduceIte, Nat.reduceEqDiff, Int.reduceToNat, Nat.reduceMul, Nat.reduceAdd, Nat.reduceBEq, isLd, y10])
  have z11 : T2 11 = .int .i64 k := (hS2 11 (by omega)).trans (by simp (maxSteps := 300000) (disch := omega) only [gs, gs2, gs3, gs4, ↓reduceIte, Nat.reduceEqDiff, Int.reduceToNat, Nat.reduceMul, Nat.reduceAdd, Nat.reduceBEq, isLd, y11])
  have hS2' : Sam 8 T2 T := fun u hu => by
    rw [hS2 u (by omega)]
    unfold upd
    repeat rw [if_neg (by omega)]
    exact hS u hu
  simp (maxSteps := 300000) (disch := omega) only [gs, gs2, gs3, gs4, ↓reduceIte, Nat.reduceEqDiff, Int.reduceToNat, Nat.reduceMul, Nat.reduceAdd, Nat.reduceBEq, isLd, z0, z12, m1]
  by_cases hiR' : (i : Int) = R
  · simp (maxSteps := 300000) (disch := omega) only [gs, gs2, gs3, gs4, ↓reduceIte, Nat.reduceEqDiff, Int.reduceToNat, Nat.reduceMul, Nat.reduceAdd, Nat.reduceBEq, isLd, eq_true hiR', z11]
    have hSS : elS p R S k = ⟨S.f, S.piv, 0⟩ := by unfold elS; rw [fstRow_none fun j h1 h2 => hz j h1 (by omega)]
    rw [hSS] at hstep
    refine ⟨m - 1, by omega, G', Sub.refl _, k + 1, P, cq, d, ?_, ?_, ?_, ?_, rfl, by omega, by omega, hd, s, by rw [hstep]; exact hF, by rw [hstep]; exact hO, oP, hne⟩
    · repeat (first | exact hS2' | refine Sam.upd ?_ _ (by omega))
    · rw [hstep]; simp (maxSteps := 300000) (disch := omega) only [gs, gs2, gs3, gs4, ↓reduceIte, Nat.reduceEqDiff, Int.reduceToNat, Nat.reduceMul, Nat.reduceAdd, Nat.reduceBEq, isLd, z8]
    · exact z9
    · rw [hstep]; simp (maxSteps := 300000) (disch := omega) only [gs, gs2, gs3, gs4, ↓reduceIte, Nat.reduceEqDiff, Int.reduceToNat, Nat.reduceMul, Nat.reduceAdd, Nat.reduceBEq, isLd, z10]
  · rw [decide_eq_false hiR']
    have hi : i < R := by omega
    have hnz' := hnz hi
    have hSS : elS p R S k = ⟨clr (scl (swp S.f S.piv.length i) S.piv.length (invF (swp S.f S.piv.length i S.piv.length k) p) p) S.piv.length k p, S.piv ++ [(k : Int)], (if i = S.piv.length then S.det else (-S.det) % p) * swp S.f S.piv.length i S.piv.length k % p⟩ := by unfold elS; rw [fstRow_some hti hi hnz' hz]
    rw [hSS] at hstep
    refine red_sw (X := reTail) (t := S.piv.length) (i := i) (k := k) (d := d) (p := p) hG hF hR hw (by omega) hi ⟨hp.1, by omega⟩ hd (by simp (maxSteps := 300000) (disch := omega) only [gs, gs2, gs3, gs4, ↓reduceIte, Nat.reduceEqDiff, Int.reduceToNat, Nat.reduceMul, Nat.reduceAdd, Nat.reduceBEq, isLd, z5]) (by simp (maxSteps := 300000) (disch := omega) only [gs, gs2, gs3, gs4, ↓reduceIte, Nat.reduceEqDiff, Int.reduceToNat, Nat.reduceMul, Nat.reduceAdd, Nat.reduceBEq, isLd, z6]) (by simp (maxSteps := 300000) (disch := omega) only [gs, gs2, gs3, gs4, ↓reduceIte, Nat.reduceEqDiff, Int.reduceToNat, Nat.reduceMul, Nat.reduceAdd, Nat.reduceBEq, isLd, z7]) (by simp (maxSteps := 300000) (disch := omega) only [gs, gs2, gs3, gs4, ↓reduceIte, Nat.reduceEqDiff, Int.reduceToNat, Nat.reduceMul, Nat.reduceAdd, Nat.reduceBEq, isLd, z9]) (by simp (maxSteps := 300000) (disch := omega) only [gs, gs2, gs3, gs4, ↓reduceIte, Nat.reduceEqDiff, Int.reduceToNat, Nat.reduceMul, Nat.reduceAdd, Nat.reduceBEq, isLd, z10]) (by simp (maxSteps := 300000) (disch := omega) only [gs, gs2, gs3, gs4, ↓reduceIte, Nat.reduceEqDiff, Int.reduceToNat, Nat.reduceMul, Nat.reduceAdd, Nat.reduceBEq, isLd, z11]) (by simp (maxSteps := 300000) (disch := omega) only [gs, gs2, gs3, gs4, ↓reduceIte, Nat.reduceEqDiff, Int.reduceToNat, Nat.reduceMul, Nat.reduceAdd, Nat.reduceBEq, isLd, z12]) fun T3 G3 d3 h30 h3p hS3 w9 w10 w11 hF3 hK3 => ?_
    have w0 : T3 0 = .pointer (some ⟨bm, 0, none⟩) := (hS3 0 (by omega)).trans (by simp (maxSteps := 300000) (disch := omega) only [gs, gs2, gs3, gs4, ↓reduceIte, Nat.reduceEqDiff, Int.reduceToNat, Nat.reduceMul, Nat.reduceAdd, Nat.reduceBEq, isLd, z0])
    have w5 : T3 5 = .pointer (some ⟨b5, 0, none⟩) := (hS3 5 (by omega)).trans (by simp (maxSteps := 300000) (disch := omega) only [gs, gs2, gs3, gs4, ↓reduceIte, Nat.reduceEqDiff, Int.reduceToNat, Nat.reduceMul, Nat.reduceAdd, Nat.reduceBEq, isLd, z5])
    have w6 : T3 6 = .int .i64 p := (hS3 6 (by omega)).trans (by simp (maxSteps := 300000) (disch := omega) only [gs, gs2, gs3, gs4, ↓reduceIte, Nat.reduceEqDiff, Int.reduceToNat, Nat.reduceMul, Nat.reduceAdd, Nat.reduceBEq, isLd, z6])
    have w7 : T3 7 = .int .i64 w := (hS3 7 (by omega)).trans (by simp (maxSteps := 300000) (disch := omega) only [gs, gs2, gs3, gs4, ↓reduceIte, Nat.reduceEqDiff, Int.reduceToNat, Nat.reduceMul, Nat.reduceAdd, Nat.reduceBEq, isLd, z7])
    have w8 : T3 8 = .slice P S.piv.length cq := (hS3 8 (by omega)).trans (by simp (maxSteps := 300000) (disch := omega) only [gs, gs2, gs3, gs4, ↓reduceIte, Nat.reduceEqDiff, Int.reduceToNat, Nat.reduceMul, Nat.reduceAdd, Nat.reduceBEq, isLd, z8])
    refine red_tail (g := swp S.f S.piv.length i) (t := S.piv.length) (k := k) (p := p) (d := d3) (piv := S.piv) hH nb (sub_keep hK3 nb s) hF3 (hO.keep hK3 hne) oP hne (by omega) hR hw (by omega) (by omega) (hrg.swp _ _) hp ⟨h30, h3p⟩ w0 w5 w6 w7 w8 w9 w10 w11 fun T4 G4 P4 cq4 d4 h40 h4p hS4 v8 v9 v10 v11 s4 hF4 hO4 oP4 hne4 => ?_
    simp (maxSteps := 300000) (disch := omega) only [gs, gs2, gs3, gs4, ↓reduceIte, Nat.reduceEqDiff, Int.reduceToNat, Nat.reduceMul, Nat.reduceAdd, Nat.reduceBEq, isLd, v8, v9, v10, v11]
    refine ⟨m - 1, by omega, G4, Sub.refl _, k + 1, P4, cq4, d4, ?_, ?_, ?_, ?_, rfl, by omega, by omega, ⟨h40, h4p⟩, s4, by rw [hstep]; exact hF4, ?_, oP4, hne4⟩
    · refine Sam.upd (Sam.upd (Sam.upd (hS4.trans ?_) _ (by omega)) _ (by omega)) _ (by omega)
      refine (hS3.le (by omega)).trans ?_
      repeat (first | exact hS2' | refine Sam.upd ?_ _ (by omega))
    · rw [hstep]; simp (maxSteps := 300000) (disch := omega) only [gs, gs2, gs3, gs4, ↓reduceIte, Nat.reduceEqDiff, Int.reduceToNat, Nat.reduceMul, Nat.reduceAdd, Nat.reduceBEq, isLd, v8]; simp
    · rfl
    · rw [hstep]; simp (maxSteps := 300000) (disch := omega) only [gs, gs2, gs3, gs4, ↓reduceIte, Nat.reduceEqDiff, Int.reduceToNat, Nat.reduceMul, Nat.reduceAdd, Nat.reduceBEq, isLd, v10]; simp
    · rw [hstep]; exact hO4.cast rfl (by simp)
theorem spec_l03Reduced_ok {G : GH} {bm : Nat} {p : Int} {R w c : Nat} {A : Option Addr} {f : Int → Int → Int} (hM : MatB G bm p R w A (R * w) c) (hI : IntS G A c (flatL R w f)) (hR : 0 < R ∧ R ≤ 2 ^ 10) (hw : 0 < w ∧ w ≤ 2 ^ 10) (hr : Rng f p) (hp : 1 < p ∧ p ≤ 251) {K : Value → GH → Prop}
    (hk : ∀ G' bc cc P cq d, Sub G G' → Fl G' bc R w (elF p R f w).f → Own G' P cq ((elF p R f w).piv.map I64) 1 (elF p R f w).piv.length → K (.tuple [matV p R w (some ⟨bc, 0, none⟩) (R * w) cc, .slice P (elF p R f w).piv.length cq, .int .i64 d].toArray) G') :
    GC Try.prog 224 [.pointer (some ⟨bm, 0, none⟩)] G K := by
  refine c_spec_l03Reduced_i (by simp) ?_
  simp (maxSteps := 300000) (disch := omega) only [gs, gs2, gs3, gs4, ↓reduceIte, Nat.reduceEqDiff, Int.reduceToNat, Nat.reduceMul, Nat.reduceAdd, Nat.reduceBEq, isLd]
  intro b2 hb2
  have s2 := Sub.put hb2 ⟨[.int .i64 0, .int .i64 0, .int .i64 0, .slice none 0 0], true⟩
  have g2 : put G b2 ⟨[.int .i64 0, .int .i64 0, .int .i64 0, .slice none 0 0], true⟩ b2 = some ⟨[.int .i64 0, .int .i64 0, .int .i64 0, .slice none 0 0], true⟩ := put_same _ _ _
  revert s2 g2
  generalize put G b2 ⟨[.int .i64 0, .int .i64 0, .int .i64 0, .slice none 0 0], true⟩ = G1
  intro s2 g2
  have hM1 := hM.sub s2
  have hI1 := hI.sub s2
  have f0 := hM1.f0
  have f1 := hM1.f1
  have f2 := hM1.f2
  have f3 := hM1.f3
  simp (maxSteps := 300000) (disch := omega) only [gs, gs2, gs3, gs4, ↓reduceIte, Nat.reduceEqDiff, Int.reduceToNat, Nat.reduceMul, Nat.reduceAdd, Nat.reduceBEq, isLd, f0, f1, f2, f3]
  have key : ∀ (H G3 : GH) (bc b5 cc : Nat) (T : Nat → Value) {P0 : Option Addr}, RdG H bm b5 bc R w cc → H bc = none → Sub G1 H → MatB H b5 p R w (some ⟨bc, 0, none⟩) (R * w) cc → Sub H G3 → Fl G3 bc R w f → Own G3 P0 0 [] 1 0 → Off H P0 → (∀ a, P0 = some a → a.block ≠ bc) →
      T 0 = .pointer (some ⟨bm, 0, none⟩) → T 2 = .pointer (some ⟨b2, 0, none⟩) → T 5 = .pointer (some ⟨b5, 0, none⟩) → T 6 = .int .i64 p → T 7 = .int .i64 w → T 8 = .slice P0 0 0 → T 9 = .int .i64 1 → T 10 = .int .i64 0 → T 11 = .int .i64 0 →
      gLoop (gW Try.prog c_spec_l03Reduced_l5) (BlkK 0 (SeqK (gW Try.prog (.seq (.reg c_spec_l03Reduced_46) .ret)) (RetK [.cn 2 4, .t 3, .t 4] K))) T G3 := by
    intro H G3 bc b5 cc T P0 hH nb sH hM5 s3 hF hO oP hne x0 x2 x5 x6 x7 x8 x9 x10 x11
    refine red_l5 hH nb s3 hF hO oP hne (by omega) (by omega) hr hp x0 x5 x6 x7 x8 x9 x10 x11 fun T' G' P cq d hS y8 y9 s' hF' hO' oP' => ?_
    have y2 := (hS 2 (by omega)).trans x2
    have y5 := (hS 5 (by omega)).trans x5
    have m := hM5.sub s'
    have m0 := m.f0
    have m1 := m.f1
    have m2 := m.f2
    have m3 := m.f3
    simp (maxSteps := 300000) (disch := omega) only [gs, gs2, gs3, gs4, ↓reduceIte, Nat.reduceEqDiff, Int.reduceToNat, Nat.reduceMul, Nat.reduceAdd, Nat.reduceBEq, isLd, y2, y5, y8, y9, m0, m1, m2, m3]
    have hb2' := s' _ _ (sH _ _ g2)
    have n2 : b2 ≠ bc := fun x => by
      have := sH _ _ g2
      rw [x, nb] at this; cases this
    refine st_many (vs := matC p R w (some ⟨bc, 0, none⟩) (R * w) cc) rfl hb2' rfl (by simp) (matC_one _ _ _ _ _ _) ?_
    simp (maxSteps := 300000) (disch := omega) only [gs, gs2, gs3, gs4, ↓reduceIte, Nat.reduceEqDiff, Int.reduceToNat, Nat.reduceMul, Nat.reduceAdd, Nat.reduceBEq, isLd, over, matC, y2, y5, y8, y9]
    refine hk (put G' b2 ⟨matC p R w (some ⟨bc, 0, none⟩) (R * w) cc, true⟩) bc cc P cq d (((s2.trans sH).trans s').skip hb2) ?_ (hO'.put (fun a ha x => ?_) _)
    · obtain ⟨q, rs, h1, h2⟩ := hF'
      exact ⟨q, rs, by rw [put_ne _ _ n2.symm]; exact h1, h2⟩
    · have := oP' a ha
      rw [x, sH _ _ g2] at this; cases this
  have mkFl : ∀ {Gx G2 : GH} {A2 : Option Addr} {c2 : Nat}, New Gx G2 A2 c2 ((flatL R w f).map I64) 1 (flatL R w f).length → ∃ bc, A2 = some ⟨bc, 0, none⟩ ∧ Gx bc = none ∧ Fl G2 bc R w f := by
    intro Gx G2 A2 c2 hN
    rw [flatL_len] at hN
    have hpos : 0 < R * w := Nat.mul_pos hR.1 hw.1
    rcases hN with ⟨_, _, h0, _, _⟩ | ⟨bc, rs, rfl, h1, rfl, h3⟩
    · omega
    · refine ⟨bc, rfl, h1, fun v => f ((v.toNat / w : Nat) : Int) ((v.toNat % w : Nat) : Int), rs, ?_, fun i j hi hj => ?_⟩
      · rw [put_same]
        refine congrArg (fun l => some (⟨l ++ rs, true⟩ : Ent)) ?_
        unfold flatL fcells
        rw [List.map_map]
        refine List.map_congr_left fun v _ => ?_
        simp only [Function.comp, Int.toNat_natCast]
      · have e : (i : Int) * w + j = ((i * w + j : Nat) : Int) := by push_cast; rfl
        have h1 : (i * w + j) / w = i := by rw [Nat.mul_comm, Nat.mul_add_div (by omega), Nat.div_eq_of_lt hj, Nat.add_zero]
        have h2 : (i * w + j) % w = j := by rw [Nat.mul_comm, Nat.mul_add_mod, Nat.mod_eq_of_lt hj]
        dsimp only
        rw [e, Int.toNat_natCast, h1, h2]
  have hbm : ∃ e, G1 bm = some e := by
    cases h : G1 bm with
    | none => simp [rd, h] at f0
    | some e => exact ⟨e, rfl⟩
  obtain ⟨em, hbm⟩ := hbm
  have hlen : (flatL R w f).length < 2 ^ 30 := by
    rw [flatL_len]
    have : R * w ≤ 2 ^ 10 * 2 ^ 10 := Nat.mul_le_mul hR.2 hw.2
    omega
  have hl : Value.slice A (R * w) c = .slice A (flatL R w f).length c := by rw [flatL_len]
  have hbld : ∀ bc c2 : Nat, bldV [.int .i64 0, .int .i64 0, .int .i64 0, .slice none 0 0] [(0, 1, .int .i64 p), (1, 1, .int .i64 R), (2, 1, .int .i64 w), (3, 1, .slice (some ⟨bc, 0, none⟩) (R * w) c2)] = some (matC p R w (some ⟨bc, 0, none⟩) (R * w) c2) := fun _ _ => rfl
  refine ⟨?_, ?_⟩
  · rw [hl]
    refine spec_l00Own_ok hI1 hlen fun G2 A2 c2 hN => ?_
    obtain ⟨bc, rfl, hbc, hF⟩ := mkFl hN
    rw [flatL_len]
    have sN := hN.sub
    simp (maxSteps := 300000) (disch := omega) only [gs, gs2, gs3, gs4, ↓reduceIte, Nat.reduceEqDiff, Int.reduceToNat, Nat.reduceMul, Nat.reduceAdd, Nat.reduceBEq, isLd, rd_sub sN f0, rd_sub sN f1, rd_sub sN f2, rd_sub sN f3, hbld]
    intro b5 hb5
    have s5 := sN.trans (Sub.put hb5 ⟨[.int .i64 0, .int .i64 0, .int .i64 0, .slice none 0 0], true⟩)
    simp (maxSteps := 300000) (disch := omega) only [gs, gs2, gs3, gs4, ↓reduceIte, Nat.reduceEqDiff, Int.reduceToNat, Nat.reduceMul, Nat.reduceAdd, Nat.reduceBEq, isLd, rd_sub s5 f0, rd_sub s5 f1, rd_sub s5 f2, rd_sub s5 f3]
    refine st_many (vs := matC p R w (some ⟨bc, 0, none⟩) (R * w) c2) rfl (put_same _ _ _) rfl (by simp) (matC_one _ _ _ _ _ _) ?_
    rw [put_put']
    have hov : over [Value.int .i64 0, .int .i64 0, .int .i64 0, .slice none 0 0] 0 (matC p R w (some ⟨bc, 0, none⟩) (R * w) c2) = matC p R w (some ⟨bc, 0, none⟩) (R * w) c2 := rfl
    rw [hov]
    have h15 : G1 b5 = none := sN.none hb5
    have sH : Sub G1 (put G1 b5 ⟨matC p R w (some ⟨bc, 0, none⟩) (R * w) c2, true⟩) := Sub.put h15 _
    have s6 : Sub (put G1 b5 ⟨matC p R w (some ⟨bc, 0, none⟩) (R * w) c2, true⟩) (put G2 b5 ⟨matC p R w (some ⟨bc, 0, none⟩) (R * w) c2, true⟩) := Sub.both sN
    have hM5 := MatB.box G1 b5 p R w (some ⟨bc, 0, none⟩) (R * w) c2
    have n5 : b5 ≠ bc := fun x => by
      obtain ⟨q, rs, h1, _⟩ := hF
      rw [x, h1] at hb5; cases hb5
    have nb : put G1 b5 ⟨matC p R w (some ⟨bc, 0, none⟩) (R * w) c2, true⟩ bc = none := by rw [put_ne _ _ n5.symm]; exact hbc
    have hF6 : Fl (put G2 b5 ⟨matC p R w (some ⟨bc, 0, none⟩) (R * w) c2, true⟩) bc R w f := by
      obtain ⟨q, rs, h1, h2⟩ := hF
      exact ⟨q, rs, by rw [put_ne _ _ n5.symm]; exact h1, h2⟩
    have hH : RdG (put G1 b5 ⟨matC p R w (some ⟨bc, 0, none⟩) (R * w) c2, true⟩) bm b5 bc R w c2 := ⟨rd_sub sH f1, hM5.f3, (fun x => by rw [x, hbc] at hbm; simp at hbm), n5⟩
    revert sH s6 hM5 nb hF6 hH
    generalize put G1 b5 ⟨matC p R w (some ⟨bc, 0, none⟩) (R * w) c2, true⟩ = H
    generalize put G2 b5 ⟨matC p R w (some ⟨bc, 0, none⟩) (R * w) c2, true⟩ = G3
    intro sH s6 hM5 nb hF6 hH
    have s7 := sH.trans s6
    simp (maxSteps := 300000) (disch := omega) only [gs, gs2, gs3, gs4, ↓reduceIte, Nat.reduceEqDiff, Int.reduceToNat, Nat.reduceMul, Nat.reduceAdd, Nat.reduceBEq, isLd, rd_sub s7 f0, rd_sub s7 f1, rd_sub s7 f2, rd_sub s7 f3, gBs]
    refine ⟨by intro v hv; simp at hv, fun b8 hb8 => ?_⟩
    have hN8 := New.mk hb8 [] 1 0 rfl
    refine key H _ bc b5 c2 _ (P0 := some ⟨b8, 0, none⟩) hH nb sH hM5 (s6.trans (Sub.put hb8 _)) ?_ hN8.fresh (hN8.offs s6) ?_ (by simp (maxSteps := 300000) (disch := omega) only [gs, gs2, gs3, gs4, ↓reduceIte, Nat.reduceEqDiff, Int.reduceToNat, Nat.reduceMul, Nat.reduceAdd, Nat.reduceBEq, isLd]) (by simp (maxSteps := 300000) (disch := omega) only [gs, gs2, gs3, gs4, ↓reduceIte, Nat.reduceEqDiff, Int.reduceToNat, Nat.reduceMul, Nat.reduceAdd, Nat.reduceBEq, isLd]) (by simp (maxSteps := 300000) (disch := omega) only [gs, gs2, gs3, gs4, ↓reduceIte, Nat.reduceEqDiff, Int.reduceToNat, Nat.reduceMul, Nat.reduceAdd, Nat.reduceBEq, isLd]) (by simp (maxSteps := 300000) (disch := omega) only [gs, gs2, gs3, gs4, ↓reduceIte, Nat.reduceEqDiff, Int.reduceToNat, Nat.reduceMul, Nat.reduceAdd, Nat.reduceBEq, isLd]) (by simp (maxSteps := 300000) (disch := omega) only [gs, gs2, gs3, gs4, ↓reduceIte, Nat.reduceEqDiff, Int.reduceToNat, Nat.reduceMul, Nat.reduceAdd, Nat.reduceBEq, isLd]) (by simp (maxSteps := 300000) (disch := omega) only [gs, gs2, gs3, gs4, ↓reduceIte, Nat.reduceEqDiff, Int.reduceToNat, Nat.reduceMul, Nat.reduceAdd, Nat.reduceBEq, isLd] <;> rfl) (by simp (maxSteps := 300000) (disch := omega) only [gs, gs2, gs3, gs4, ↓reduceIte, Nat.reduceEqDiff, Int.reduceToNat, Nat.reduceMul, Nat.reduceAdd, Nat.reduceBEq, isLd] <;> rfl) (by simp (maxSteps := 300000) (disch := omega) only [gs, gs2, gs3, gs4, ↓reduceIte, Nat.reduceEqDiff, Int.reduceToNat, Nat.reduceMul, Nat.reduceAdd, Nat.reduceBEq, isLd] <;> rfl) (by simp (maxSteps := 300000) (disch := omega) only [gs, gs2, gs3, gs4, ↓reduceIte, Nat.reduceEqDiff, Int.reduceToNat, Nat.reduceMul, Nat.reduceAdd, Nat.reduceBEq, isLd] <;> rfl)
    · obtain ⟨q, rs, h1, h2⟩ := hF6
      exact ⟨q, rs, Sub.put hb8 _ _ _ h1, h2⟩
    · obtain ⟨q, rs, h1, _⟩ := hF6
      exact hN8.nb h1
  · intro b5 hb5
    have s5 := Sub.put hb5 ⟨[.int .i64 0, .int .i64 0, .int .i64 0, .slice none 0 0], true⟩
    simp (maxSteps := 300000) (disch := omega) only [gs, gs2, gs3, gs4, ↓reduceIte, Nat.reduceEqDiff, Int.reduceToNat, Nat.reduceMul, Nat.reduceAdd, Nat.reduceBEq, isLd, rd_sub s5 f0, rd_sub s5 f1, rd_sub s5 f2, rd_sub s5 f3]
    rw [hl]
    refine spec_l00Own_ok (hI1.sub s5) hlen fun G2 A2 c2 hN => ?_
    obtain ⟨bc, rfl, hbc, hF⟩ := mkFl hN
    rw [flatL_len]
    have sN := s5.trans hN.sub
    have g5 := hN.sub _ _ (put_same _ _ _)
    simp (maxSteps := 300000) (disch := omega) only [gs, gs2, gs3, gs4, ↓reduceIte, Nat.reduceEqDiff, Int.reduceToNat, Nat.reduceMul, Nat.reduceAdd, Nat.reduceBEq, isLd, rd_sub sN f0, rd_sub sN f1, rd_sub sN f2, rd_sub sN f3, hbld]
    refine st_many (vs := matC p R w (some ⟨bc, 0, none⟩) (R * w) c2) rfl g5 rfl (by simp) (matC_one _ _ _ _ _ _) ?_
    have hov : over [Value.int .i64 0, .int .i64 0, .int .i64 0, .slice none 0 0] 0 (matC p R w (some ⟨bc, 0, none⟩) (R * w) c2) = matC p R w (some ⟨bc, 0, none⟩) (R * w) c2 := rfl
    rw [hov]
    have n5 : b5 ≠ bc := fun x => by
      rw [x, put_same] at hbc; cases hbc
    have hbc1 : G1 bc = none := by rwa [put_ne _ _ n5.symm] at hbc
    have sH : Sub G1 (put G1 b5 ⟨matC p R w (some ⟨bc, 0, none⟩) (R * w) c2, true⟩) := Sub.put hb5 _
    have s6 : Sub (put G1 b5 ⟨matC p R w (some ⟨bc, 0, none⟩) (R * w) c2, true⟩) (put G2 b5 ⟨matC p R w (some ⟨bc, 0, none⟩) (R * w) c2, true⟩) := Sub.both sN
    have hM5 := MatB.box G1 b5 p R w (some ⟨bc, 0, none⟩) (R * w) c2
    have nb : put G1 b5 ⟨matC p R w (some ⟨bc, 0, none⟩) (R * w) c2, true⟩ bc = none := by rw [put_ne _ _ n5.symm]; exact hbc1
    have hF6 : Fl (put G2 b5 ⟨matC p R w (some ⟨bc, 0, none⟩) (R * w) c2, true⟩) bc R w f := by
      obtain ⟨q, rs, h1, h2⟩ := hF
      exact ⟨q, rs, by rw [put_ne _ _ n5.symm]; exact h1, h2⟩
    have hH : RdG (put G1 b5 ⟨matC p R w (some ⟨bc, 0, none⟩) (R * w) c2, true⟩) bm b5 bc R w c2 := ⟨rd_sub sH f1, hM5.f3, (fun x => by rw [x, hbc1] at hbm; simp at hbm), n5⟩
    revert sH s6 hM5 nb hF6 hH
    generalize put G1 b5 ⟨matC p R w (some ⟨bc, 0, none⟩) (R * w) c2, true⟩ = H
    generalize put G2 b5 ⟨matC p R w (some ⟨bc, 0, none⟩) (R * w) c2, true⟩ = G3
    intro sH s6 hM5 nb hF6 hH
    have s7 := sH.trans s6
    simp (maxSteps := 300000) (disch := omega) only [gs, gs2, gs3, gs4, ↓reduceIte, Nat.reduceEqDiff, Int.reduceToNat, Nat.reduceMul, Nat.reduceAdd, Nat.reduceBEq, isLd, rd_sub s7 f0, rd_sub s7 f1, rd_sub s7 f2, rd_sub s7 f3, gBs]
    refine ⟨by intro v hv; simp at hv, fun b8 hb8 => ?_⟩
    have hN8 := New.mk hb8 [] 1 0 rfl
    refine key H _ bc b5 c2 _ (P0 := some ⟨b8, 0, none⟩) hH nb sH hM5 (s6.trans (Sub.put hb8 _)) ?_ hN8.fresh (hN8.offs s6) ?_ (by simp (maxSteps := 300000) (disch := omega) only [gs, gs2, gs3, gs4, ↓reduceIte, Nat.reduceEqDiff, Int.reduceToNat, Nat.reduceMul, Nat.reduceAdd, Nat.reduceBEq, isLd]) (by simp (maxSteps := 300000) (disch := omega) only [gs, gs2, gs3, gs4, ↓reduceIte, Nat.reduceEqDiff, Int.reduceToNat, Nat.reduceMul, Nat.reduceAdd, Nat.reduceBEq, isLd]) (by simp (maxSteps := 300000) (disch := omega) only [gs, gs2, gs3, gs4, ↓reduceIte, Nat.reduceEqDiff, Int.reduceToNat, Nat.reduceMul, Nat.reduceAdd, Nat.reduceBEq, isLd]) (by simp (maxSteps := 300000) (disch := omega) only [gs, gs2, gs3, gs4, ↓reduceIte, Nat.reduceEqDiff, Int.reduceToNat, Nat.reduceMul, Nat.reduceAdd, Nat.reduceBEq, isLd]) (by simp (maxSteps := 300000) (disch := omega) only [gs, gs2, gs3, gs4, ↓reduceIte, Nat.reduceEqDiff, Int.reduceToNat, Nat.reduceMul, Nat.reduceAdd, Nat.reduceBEq, isLd]) (by simp (maxSteps := 300000) (disch := omega) only [gs, gs2, gs3, gs4, ↓reduceIte, Nat.reduceEqDiff, Int.reduceToNat, Nat.reduceMul, Nat.reduceAdd, Nat.reduceBEq, isLd] <;> rfl) (by simp (maxSteps := 300000) (disch := omega) only [gs, gs2, gs3, gs4, ↓reduceIte, Nat.reduceEqDiff, Int.reduceToNat, Nat.reduceMul, Nat.reduceAdd, Nat.reduceBEq, isLd] <;> rfl) (by simp (maxSteps := 300000) (disch := omega) only [gs, gs2, gs3, gs4, ↓reduceIte, Nat.reduceEqDiff, Int.reduceToNat, Nat.reduceMul, Nat.reduceAdd, Nat.reduceBEq, isLd] <;> rfl) (by simp (maxSteps := 300000) (disch := omega) only [gs, gs2, gs3, gs4, ↓reduceIte, Nat.reduceEqDiff, Int.reduceToNat, Nat.reduceMul, Nat.reduceAdd, Nat.reduceBEq, isLd] <;> rfl)
    · obtain ⟨q, rs, h1, h2⟩ := hF6
      exact ⟨q, rs, Sub.put hb8 _ _ _ h1, h2⟩
    · obtain ⟨q, rs, h1, _⟩ := hF6
      exact hN8.nb h1
theorem flatL_one (n : Nat) (g : Int → Int → Int) : flatL n 1 g = rowL n fun i => g i 0 := by
  unfold flatL rowL
  rw [Nat.mul_one]
  refine List.map_congr_left fun v _ => ?_
  rw [Nat.div_one, Nat.mod_one]; rfl
theorem flatL_cong {R C : Nat} {f g : Int → Int → Int} (h : ∀ i j : Nat, i < R → j < C → f i j = g i j) : flatL R C f = flatL R C g := by
  unfold flatL
  refine List.map_congr_left fun v hv => ?_
  have hv := List.mem_range.1 hv
  have hC : 0 < C := by
    rcases Nat.eq_zero_or_pos C with h0 | h0
    · rw [h0] at hv; omega
    · exact h0
  exact h _ _ (Nat.div_lt_of_lt_mul (by rw [Nat.mul_comm]; exact hv)) (Nat.mod_lt _ hC)
theorem spec_l03Rank_ok {G : GH} {bm : Nat} {p : Int} {n c : Nat} {A : Option Addr} {f : Int → Int → Int} (hM : MatB G bm p n n A (n * n) c) (hI : IntS G A c (flatL n n f)) (hn : 0 < n ∧ n ≤ 2 ^ 10) (hr : Rng f p) (hp : 1 < p ∧ p ≤ 251) {K : Value → GH → Prop}
    (hk : K (.int .i64 (elF p n f n).piv.length) G) : GC Try.prog 163 [.pointer (some ⟨bm, 0, none⟩)] G K := by
  refine GC_drop (c_spec_l03Rank_i (by simp) ?_)
  simp (maxSteps := 300000) (disch := omega) only [gs, gs2, gs3, gs4, ↓reduceIte, Nat.reduceEqDiff, Int.reduceToNat, Nat.reduceMul, Nat.reduceAdd, Nat.reduceBEq, isLd]
  refine spec_l03Reduced_ok hM hI hn hn hr hp fun G2 bc cc P cq d s2 hF hO => ?_
  simp (maxSteps := 300000) (disch := omega) only [gs, gs2, gs3, gs4, ↓reduceIte, Nat.reduceEqDiff, Int.reduceToNat, Nat.reduceMul, Nat.reduceAdd, Nat.reduceBEq, isLd]
  intro b3 hb3
  simp (maxSteps := 300000) (disch := omega) only [gs, gs2, gs3, gs4, ↓reduceIte, Nat.reduceEqDiff, Int.reduceToNat, Nat.reduceMul, Nat.reduceAdd, Nat.reduceBEq, isLd]
  refine st_many (vs := matC p n n (some ⟨bc, 0, none⟩) (n * n) cc) rfl (put_same _ _ _) rfl (by simp) (matC_one _ _ _ _ _ _) ?_
  rw [put_put']
  simp (maxSteps := 300000) (disch := omega) only [gs, gs2, gs3, gs4, ↓reduceIte, Nat.reduceEqDiff, Int.reduceToNat, Nat.reduceMul, Nat.reduceAdd, Nat.reduceBEq, isLd]
  exact ⟨G, s2.trans (Sub.put hb3 _), hk⟩
theorem spec_l03Join_ok {G : GH} {ba bb : Nat} {p : Int} {R w c d : Nat} {A B : Option Addr} {F : Int → Int → Int} (hA : MatB G ba p R w A (R * w) c) (hB : MatB G bb p R 1 B (R * 1) d) (hI : IntS G A c (flatL R w F)) (hJ : IntS G B d (flatL R 1 (fun i _ => F i w))) (hR : R ≤ 2 ^ 9) (hw : 0 < w ∧ w ≤ 2 ^ 9) {K : Value → GH → Prop}
    (hk : ∀ G' A' c', Sub G G' → IntS G' A' c' (flatL R (w + 1) F) → K (matV p R (w + 1) A' (R * (w + 1)) c') G') : GC Try.prog 223 [.pointer (some ⟨ba, 0, none⟩), .pointer (some ⟨bb, 0, none⟩)] G K := by
  refine c_spec_l03Join_i (by simp) ?_
  have hcA := hI.cap
  rw [flatL_len] at hcA
  have hcB := hJ.cap
  rw [flatL_len] at hcB
  simp (maxSteps := 300000) (disch := omega) only [gs, gs2, gs3, gs4, ↓reduceIte, Nat.reduceEqDiff, Int.reduceToNat, Nat.reduceMul, Nat.reduceAdd, Nat.reduceBEq, isLd]
  intro b4 hb4
  have s4 := Sub.put hb4 ⟨[.int .i64 0, .int .i64 0, .int .i64 0, .slice none 0 0], true⟩
  have g4 : put G b4 ⟨[.int .i64 0, .int .i64 0, .int .i64 0, .slice none 0 0], true⟩ b4 = some ⟨[.int .i64 0, .int .i64 0, .int .i64 0, .slice none 0 0], true⟩ := put_same _ _ _
  revert s4 g4
  generalize put G b4 ⟨[.int .i64 0, .int .i64 0, .int .i64 0, .slice none 0 0], true⟩ = H
  intro s4 g4
  have hA := hA.sub s4
  have hB := hB.sub s4
  have hI := hI.sub s4
  have hJ := hJ.sub s4
  have a0 := hA.f0
  have a1 := hA.f1
  have a2 := hA.f2
  have a3 := hA.f3
  have q2 := hB.f2
  have q3 := hB.f3
  have ww := w64 ((w : Int) + ((1 : Nat) : Int)) (by omega) (by omega)
  have key : ∀ (G3 : GH) (b5 : Nat) (P0 : Option Addr) (T : Nat → Value), H b5 = none → Sub (put H b5 ⟨matC p R (w + 1) P0 0 0, true⟩) G3 → Off (put H b5 ⟨matC p R (w + 1) P0 0 0, true⟩) P0 → Own G3 P0 0 [] 1 0 →
      T 0 = .pointer (some ⟨ba, 0, none⟩) → T 1 = .pointer (some ⟨bb, 0, none⟩) → T 4 = .pointer (some ⟨b4, 0, none⟩) → T 5 = .pointer (some ⟨b5, 0, none⟩) → T 6 = .int .i64 0 →
      gLoop (gW Try.prog c_spec_l03Join_l0) (BlkK 0 (SeqK (gW Try.prog (.seq (.reg c_spec_l03Join_8) .ret)) (RetK [.cn 4 4] K))) T G3 := by
    intro G3 b5 P0 T hb5 hS hO hW x0 x1 x4 x5 x6
    refine gLoop_intro (fun m T G' => ∃ (i : Nat) (Pl : Option Addr) (cl : Nat), T 0 = .pointer (some ⟨ba, 0, none⟩) ∧ T 1 = .pointer (some ⟨bb, 0, none⟩) ∧ T 4 = .pointer (some ⟨b4, 0, none⟩) ∧ T 5 = .pointer (some ⟨b5, 0, none⟩) ∧ T 6 = .int .i64 i ∧ m + i = R ∧ i ≤ R ∧
      Sub (put H b5 ⟨matC p R (w + 1) Pl (i * (w + 1)) cl, true⟩) G' ∧ Off (put H b5 ⟨matC p R (w + 1) Pl (i * (w + 1)) cl, true⟩) Pl ∧ Own G' Pl cl ((flatL i (w + 1) F).map I64) 1 (i * (w + 1))) R
      ⟨0, P0, 0, x0, x1, x4, x5, x6, by omega, by omega, by rw [Nat.zero_mul]; exact hS, by rw [Nat.zero_mul]; exact hO, by rw [Nat.zero_mul, flatL_zero]; exact hW⟩ ?_
    clear x0 x1 x4 x5 x6 hS hO hW
    rintro m T G' ⟨i, Pl, cl, x0, x1, x4, x5, x6, hm, hi, hS, hO, hW⟩
    have sH : Sub H G' := (Sub.put hb5 _).trans hS
    simp (maxSteps := 300000) (disch := omega) only [gs, gs2, gs3, gs4, ↓reduceIte, Nat.reduceEqDiff, Int.reduceToNat, Nat.reduceMul, Nat.reduceAdd, Nat.reduceBEq, isLd, x0, x1, x4, x5, x6, rd_sub sH a1]
    by_cases hii : (i : Int) < R
    · have r3 : rd G' (some ⟨b5, 3, none⟩) = some (.slice Pl (i * (w + 1)) cl) := rd_sub hS (rd_box _ _ _ 3 _ rfl)
      have hbi := iw_bd (i := i) (w := w) (by omega) (by omega)
      have hbi1 := iw_bd (i := i + 1) (w := w) (by omega) (by omega)
      push_cast at hbi1
      have hiw1 : i * (w + 1) ≤ 2 ^ 10 * 2 ^ 10 := Nat.mul_le_mul (by omega) (by omega)
      have w1 := w64 ((i : Int) * w) (by omega) (by omega)
      have w2 := w64 ((i : Int) + 1) (by omega) (by omega)
      have w3 := w64 (((i : Int) + 1) * w) (by omega) (by omega)
      have w4 := w64 ((i : Int) * ((1 : Nat) : Int)) (by omega) (by omega)
      have w5 := w64 (((i : Int) + 1) * ((1 : Nat) : Int)) (by omega) (by omega)
      have sl1 := sl_row (A := A) (show i < R by omega) hw.1 hcA
      have sl2 := sl_row (A := B) (C := 1) (show i < R by omega) (by omega) hcB
      rw [Nat.mul_one, Nat.mul_one] at sl2
      simp (maxSteps := 300000) (disch := omega) only [gs, gs2, gs3, gs4, ↓reduceIte, Nat.reduceEqDiff, Int.reduceToNat, Nat.reduceMul, Nat.reduceAdd, Nat.reduceBEq, isLd, x0, x1, x4, x5, x6, hii, rd_sub sH a0, rd_sub sH a1, rd_sub sH a2, rd_sub sH a3, r3, w1, w2, w3, sl1]
      have hrow := row_ints (hI.sub sH) (show i < R by omega)
      refine ap_own hW (news := (rowL w (F i)).map I64) (m := w) hrow.cells (by simp [rowL_len]) (by intro v hv; obtain ⟨x, _, rfl⟩ := List.mem_map.1 hv; rfl) rfl (by omega) (by omega) (by omega) fun G3 P3 c3 hW3 keep => ?_
      obtain ⟨hS3, hO3⟩ := keep _ hS hO
      have sH3 : Sub H G3 := (Sub.put hb5 _).trans hS3
      simp (maxSteps := 300000) (disch := omega) only [gs, gs2, gs3, gs4, ↓reduceIte, Nat.reduceEqDiff, Int.reduceToNat, Nat.reduceMul, Nat.reduceAdd, Nat.reduceBEq, isLd, x0, x1, x4, x5, x6, rd_sub sH3 a2, rd_sub sH3 a3]
      refine st_src (hS3 _ _ (put_same _ _ _)) rfl (by simp [matC]) fun G4 k4 g4' => ?_
      have hS4 : Sub (put H b5 ⟨matC p R (w + 1) P3 (i * (w + 1) + w) c3, true⟩) G4 := hS3.swap k4 g4'
      have hO4 : Off (put H b5 ⟨matC p R (w + 1) P3 (i * (w + 1) + w) c3, true⟩) P3 := hO3.put
      have hW4 := hW3.keep k4 hO3.pne
      have sH4 : Sub H G4 := (Sub.put hb5 _).trans hS4
      have r34 : rd G4 (some ⟨b5, 3, none⟩) = some (.slice P3 (i * (w + 1) + w) c3) := rd_sub hS4 (rd_box _ _ _ 3 _ rfl)
      clear hS hO hW hW3 keep hS3 hO3 hrow r3
      have hrow := row_ints (hJ.sub sH4) (show i < R by omega)
      rw [Nat.mul_one] at hrow
      have q3' := rd_sub sH4 q3
      rw [Nat.mul_one] at q3'
      simp (maxSteps := 300000) (disch := omega) only [gs, gs2, gs3, gs4, ↓reduceIte, Nat.reduceEqDiff, Int.reduceToNat, Nat.reduceMul, Nat.reduceAdd, Nat.reduceBEq, isLd, x0, x1, x4, x5, x6, r34, rd_sub sH4 q2, q3', w4, w2, w5, sl2]
      refine ap_own hW4 (news := (rowL 1 (fun _ => F i w)).map I64) (m := 1) hrow.cells rfl (by intro v hv; obtain ⟨x, _, rfl⟩ := List.mem_map.1 hv; rfl) rfl (by omega) (by omega) (by omega) fun G5 P5 c5 hW5 keep => ?_
      obtain ⟨hS5, hO5⟩ := keep _ hS4 hO4
      have sH5 : Sub H G5 := (Sub.put hb5 _).trans hS5
      simp (maxSteps := 300000) (disch := omega) only [gs, gs2, gs3, gs4, ↓reduceIte, Nat.reduceEqDiff, Int.reduceToNat, Nat.reduceMul, Nat.reduceAdd, Nat.reduceBEq, isLd, x0, x1, x4, x5, x6, rd_sub sH5 q2, rd_sub sH5 q3]
      refine st_src (hS5 _ _ (put_same _ _ _)) rfl (by simp [matC]) fun G6 k6 g6' => ?_
      have hlen : i * (w + 1) + w + 1 = (i + 1) * (w + 1) := by rw [Nat.add_mul i 1, Nat.one_mul]; omega
      have hS6 : Sub (put H b5 ⟨matC p R (w + 1) P5 (i * (w + 1) + w + 1) c5, true⟩) G6 := hS5.swap k6 g6'
      have hO6 : Off (put H b5 ⟨matC p R (w + 1) P5 (i * (w + 1) + w + 1) c5, true⟩) P5 := hO5.put
      have hW6 := hW5.keep k6 hO5.pne
      rw [hlen] at hS6 hO6 hW6
      simp (maxSteps := 300000) (disch := omega) only [gs, gs2, gs3, gs4, ↓reduceIte, Nat.reduceEqDiff, Int.reduceToNat, Nat.reduceMul, Nat.reduceAdd, Nat.reduceBEq, isLd, x0, x1, x4, x5, x6, w2]
      refine ⟨m - 1, by omega, G6, Sub.refl _, i + 1, P5, c5, rfl, by omega, by omega, hS6, hO6, hW6.cast ?_ rfl⟩
      rw [flatL_succ, rowL_succ w (F i)]
      simp only [List.map_append, List.append_assoc]
      rfl
    · simp (maxSteps := 300000) (disch := omega) only [gs, gs2, gs3, gs4, ↓reduceIte, Nat.reduceEqDiff, Int.reduceToNat, Nat.reduceMul, Nat.reduceAdd, Nat.reduceBEq, isLd, x0, x1, x4, x5, x6, hii]
      obtain rfl : i = R := by omega
      have r0 : rd G' (some ⟨b5, 0, none⟩) = some (.int .i64 p) := rd_sub hS (rd_box _ _ _ 0 _ rfl)
      have r1 : rd G' (some ⟨b5, 1, none⟩) = some (.int .i64 i) := rd_sub hS (rd_box _ _ _ 1 _ rfl)
      have r2 : rd G' (some ⟨b5, 2, none⟩) = some (.int .i64 ((w + 1 : Nat) : Int)) := rd_sub hS (rd_box _ _ _ 2 _ rfl)
      have r3 : rd G' (some ⟨b5, 3, none⟩) = some (.slice Pl (i * (w + 1)) cl) := rd_sub hS (rd_box _ _ _ 3 _ rfl)
      have n45 : b4 ≠ b5 := fun x => by rw [x, hb5] at g4; cases g4
      simp (maxSteps := 300000) (disch := omega) only [gs, gs2, gs3, gs4, ↓reduceIte, Nat.reduceEqDiff, Int.reduceToNat, Nat.reduceMul, Nat.reduceAdd, Nat.reduceBEq, isLd, x4, x5, r0, r1, r2, r3]
      refine st_many (vs := matC p i (w + 1) Pl (i * (w + 1)) cl) rfl (sH _ _ g4) rfl (by simp) (matC_one _ _ _ _ _ _) ?_
      simp (maxSteps := 300000) (disch := omega) only [gs, gs2, gs3, gs4, ↓reduceIte, Nat.reduceEqDiff, Int.reduceToNat, Nat.reduceMul, Nat.reduceAdd, Nat.reduceBEq, isLd, over, matC, x4]
      have oH : Off H Pl := hO.mono (Sub.put hb5 _)
      have nb : ∀ a, Pl = some a → a.block ≠ b4 := fun a ha x => by
        have := oH a ha
        rw [x, g4] at this; cases this
      exact hk _ _ _ ((s4.trans sH).skip hb4) ((hW.put nb _).ints' (by rw [flatL_len]))
  simp (maxSteps := 300000) (disch := omega) only [gs, gs2, gs3, gs4, ↓reduceIte, Nat.reduceEqDiff, Int.reduceToNat, Nat.reduceMul, Nat.reduceAdd, Nat.reduceBEq, isLd, a0, a1, a2, a3, q2, q3, ww, gBs]
  have hbld : ∀ b8 : Nat, bldV [.int .i64 0, .int .i64 0, .int .i64 0, .slice none 0 0] [(0, 1, .int .i64 p), (1, 1, .int .i64 R), (2, 1, .int .i64 ((w : Int) + ((1 : Nat) : Int))), (3, 1, .slice (some ⟨b8, 0, none⟩) 0 0)] = some (matC p R (w + 1) (some ⟨b8, 0, none⟩) 0 0) := fun _ => rfl
  have fin : ∀ (G3 : GH) (b5 b8 : Nat), H b5 = none → H b8 = none → b8 ≠ b5 → Sub H G3 → G3 b8 = some ⟨[], true⟩ → ∀ T, T 0 = .pointer (some ⟨ba, 0, none⟩) → T 1 = .pointer (some ⟨bb, 0, none⟩) → T 4 = .pointer (some ⟨b4, 0, none⟩) → T 5 = .pointer (some ⟨b5, 0, none⟩) → T 6 = .int .i64 0 →
      gLoop (gW Try.prog c_spec_l03Join_l0) (BlkK 0 (SeqK (gW Try.prog (.seq (.reg c_spec_l03Join_8) .ret)) (RetK [.cn 4 4] K))) T (put G3 b5 ⟨over [.int .i64 0, .int .i64 0, .int .i64 0, .slice none 0 0] 0 (matC p R (w + 1) (some ⟨b8, 0, none⟩) 0 0), true⟩) := by
    intro G3 b5 b8 hb5 hb8 hne s3 h8 T x0 x1 x4 x5 x6
    refine key _ b5 (some ⟨b8, 0, none⟩) T hb5 (Sub.both s3) (fun a ha => by cases ha; rw [put_ne _ _ hne]; exact hb8) (.inr ⟨b8, [], rfl, by rw [put_ne _ _ hne]; exact h8, rfl, rfl, Nat.le_refl _⟩) x0 x1 x4 x5 x6
  refine ⟨⟨by intro v hv; simp at hv, fun b8 hb8 => ?_⟩, fun b5 hb5 => ?_⟩
  · have s8 := Sub.put hb8 ⟨[], true⟩
    refine ⟨⟨rd_sub s8 q2, rd_sub s8 a2, rd_sub s8 a1, rd_sub s8 a0⟩, ?_⟩
    simp (maxSteps := 300000) (disch := omega) only [gs, gs2, gs3, gs4, ↓reduceIte, Nat.reduceEqDiff, Int.reduceToNat, Nat.reduceMul, Nat.reduceAdd, Nat.reduceBEq, isLd, hbld]
    intro b5 hb5
    have s5 := s8.trans (Sub.put hb5 ⟨[.int .i64 0, .int .i64 0, .int .i64 0, .slice none 0 0], true⟩)
    refine ⟨⟨rd_sub s5 q2, rd_sub s5 a2, rd_sub s5 a1, rd_sub s5 a0, trivial⟩, ?_⟩
    have n8 : b8 ≠ b5 := blk_ne (put_same _ _ _) hb5
    refine st_many (vs := matC p R (w + 1) (some ⟨b8, 0, none⟩) 0 0) rfl (put_same _ _ _) rfl (by simp) (matC_one _ _ _ _ _ _) ?_
    simp (maxSteps := 300000) (disch := omega) only [gs, gs2, gs3, gs4, ↓reduceIte, Nat.reduceEqDiff, Int.reduceToNat, Nat.reduceMul, Nat.reduceAdd, Nat.reduceBEq, isLd]
    refine fin _ b5 b8 (s8.none hb5) hb8 n8 s8 (put_same _ _ _) _ ?_ ?_ ?_ ?_ ?_
    · simp (maxSteps := 300000) (disch := omega) only [gs, gs2, gs3, gs4, ↓reduceIte, Nat.reduceEqDiff, Int.reduceToNat, Nat.reduceMul, Nat.reduceAdd, Nat.reduceBEq, isLd]
    · simp (maxSteps := 300000) (disch := omega) only [gs, gs2, gs3, gs4, ↓reduceIte, Nat.reduceEqDiff, Int.reduceToNat, Nat.reduceMul, Nat.reduceAdd, Nat.reduceBEq, isLd]
    · simp (maxSteps := 300000) (disch := omega) only [gs, gs2, gs3, gs4, ↓reduceIte, Nat.reduceEqDiff, Int.reduceToNat, Nat.reduceMul, Nat.reduceAdd, Nat.reduceBEq, isLd]
    · simp (maxSteps := 300000) (disch := omega) only [gs, gs2, gs3, gs4, ↓reduceIte, Nat.reduceEqDiff, Int.reduceToNat, Nat.reduceMul, Nat.reduceAdd, Nat.reduceBEq, isLd]
    · simp (maxSteps := 300000) (disch := omega) only [gs, gs2, gs3, gs4, ↓reduceIte, Nat.reduceEqDiff, Int.reduceToNat, Nat.reduceMul, Nat.reduceAdd, Nat.reduceBEq, isLd] <;> rfl
  · have s5 := Sub.put hb5 ⟨[.int .i64 0, .int .i64 0, .int .i64 0, .slice none 0 0], true⟩
    refine ⟨⟨rd_sub s5 q2, rd_sub s5 a2, rd_sub s5 a1, rd_sub s5 a0, trivial⟩, by intro v hv; simp at hv, fun b8 hb8 => ?_⟩
    have s8 := s5.trans (Sub.put hb8 ⟨[], true⟩)
    refine ⟨⟨rd_sub s8 q2, rd_sub s8 a2, rd_sub s8 a1, rd_sub s8 a0, trivial⟩, ?_⟩
    simp (maxSteps := 300000) (disch := omega) only [gs, gs2, gs3, gs4, ↓reduceIte, Nat.reduceEqDiff, Int.reduceToNat, Nat.reduceMul, Nat.reduceAdd, Nat.reduceBEq, isLd, hbld]
    have n8 : b8 ≠ b5 := (blk_ne (put_same _ _ _) hb8).symm
    refine st_many (vs := matC p R (w + 1) (some ⟨b8, 0, none⟩) 0 0) rfl (by rw [put_ne _ _ n8.symm]; exact put_same _ _ _) rfl (by simp) (matC_one _ _ _ _ _ _) ?_
    simp (maxSteps := 300000) (disch := omega) only [gs, gs2, gs3, gs4, ↓reduceIte, Nat.reduceEqDiff, Int.reduceToNat, Nat.reduceMul, Nat.reduceAdd, Nat.reduceBEq, isLd]
    refine fin _ b5 b8 hb5 (s5.none hb8) n8 s8 (put_same _ _ _) _ (by simp (maxSteps := 300000) (disch := omega) only [gs, gs2, gs3, gs4, ↓reduceIte, Nat.reduceEqDiff, Int.reduceToNat, Nat.reduceMul, Nat.reduceAdd, Nat.reduceBEq, isLd]) (by simp (maxSteps := 300000) (disch := omega) only [gs, gs2, gs3, gs4, ↓reduceIte, Nat.reduceEqDiff, Int.reduceToNat, Nat.reduceMul, Nat.reduceAdd, Nat.reduceBEq, isLd]) (by simp (maxSteps := 300000) (disch := omega) only [gs, gs2, gs3, gs4, ↓reduceIte, Nat.reduceEqDiff, Int.reduceToNat, Nat.reduceMul, Nat.reduceAdd, Nat.reduceBEq, isLd]) (by simp (maxSteps := 300000) (disch := omega) only [gs, gs2, gs3, gs4, ↓reduceIte, Nat.reduceEqDiff, Int.reduceToNat, Nat.reduceMul, Nat.reduceAdd, Nat.reduceBEq, isLd]) (by simp (maxSteps := 300000) (disch := omega) only [gs, gs2, gs3, gs4, ↓reduceIte, Nat.reduceEqDiff, Int.reduceToNat, Nat.reduceMul, Nat.reduceAdd, Nat.reduceBEq, isLd] <;> rfl)
theorem spec_l03Solve_ok {G : GH} {bm : Nat} {p : Int} {A Bb : Option Addr} {n c cb : Nat} {F : Int → Int → Int} (hM : MatB G bm p n n A (n * n) c) (h : IntS G A c (flatL n n F)) (hb : IntS G Bb cb (rowL n fun i => F i n)) (hn : 0 < n ∧ n < 2 ^ 8) (hr : Rng F p) (hp : 1 < p ∧ p ≤ 251) {K : Value → GH → Prop}
    (h0 : (n : Int) ∈ (elF p n F (n + 1)).piv → K (.tuple [.slice none 0 0, .bool false].toArray) G)
    (h1 : ¬ (n : Int) ∈ (elF p n F (n + 1)).piv → ∀ G' b, Sub G G' → G b = none → G' b = some ⟨fcells n (solX (elF p n F (n + 1)) n (elF p n F (n + 1)).piv.length), true⟩ → K (.tuple [.slice (some ⟨b, 0, none⟩) n n, .bool true].toArray) G') :
    GC Try.prog 162 [.pointer (some ⟨bm, 0, none⟩), .slice Bb n cb] G K := by
  refine GC_drop (c_spec_l03Solve_i (by simp) ?_)
  have a0 := hM.f0
  have a1 := hM.f1
  have a2 := hM.f2
  have hbld : bldV [.int .i64 0, .int .i64 0, .int .i64 0, .slice none 0 0] [(0, 1, .int .i64 p), (1, 1, .int .i64 n), (2, 1, .int .i64 1), (3, 1, .slice Bb n cb)] = some (matC p n 1 Bb n cb) := rfl
  simp (maxSteps := 300000) (disch := omega) only [gs, gs2, gs3, gs4, ↓reduceIte, Nat.reduceEqDiff, Int.reduceToNat, Nat.reduceMul, Nat.reduceAdd, Nat.reduceBEq, isLd, a0, a1, hbld]
  intro b6 hb6
  have s6 := Sub.put hb6 ⟨[.int .i64 0, .int .i64 0, .int .i64 0, .slice none 0 0], true⟩
  simp (maxSteps := 300000) (disch := omega) only [gs, gs2, gs3, gs4, ↓reduceIte, Nat.reduceEqDiff, Int.reduceToNat, Nat.reduceMul, Nat.reduceAdd, Nat.reduceBEq, isLd, rd_sub s6 a0, rd_sub s6 a1]
  refine st_many (vs := matC p n 1 Bb n cb) rfl (put_same _ _ _) rfl (by simp) (matC_one _ _ _ _ _ _) ?_
  rw [put_put']
  have hM6 : MatB (put G b6 ⟨matC p n 1 Bb n cb, true⟩) b6 p n 1 Bb n cb := MatB.box G b6 p n 1 Bb n cb
  have s7 : Sub G (put G b6 ⟨matC p n 1 Bb n cb, true⟩) := Sub.put hb6 _
  rw [show over [Value.int .i64 0, .int .i64 0, .int .i64 0, .slice none 0 0] 0 (matC p n 1 Bb n cb) = matC p n 1 Bb n cb from rfl]
  revert hM6 s7
  generalize put G b6 ⟨matC p n 1 Bb n cb, true⟩ = G1
  intro hM6 s7
  simp (maxSteps := 300000) (disch := omega) only [gs, gs2, gs3, gs4, ↓reduceIte, Nat.reduceEqDiff, Int.reduceToNat, Nat.reduceMul, Nat.reduceAdd, Nat.reduceBEq, isLd]
  refine spec_l03Join_ok (F := F) (hM.sub s7) (by rw [Nat.mul_one]; exact hM6) (h.sub s7) (by rw [flatL_one]; exact hb.sub s7) (by omega) ⟨hn.1, by omega⟩ fun G2 A2 c2 s2 hI2 => ?_
  simp (maxSteps := 300000) (disch := omega) only [gs, gs2, gs3, gs4, ↓reduceIte, Nat.reduceEqDiff, Int.reduceToNat, Nat.reduceMul, Nat.reduceAdd, Nat.reduceBEq, isLd]
  intro b7 hb7
  simp (maxSteps := 300000) (disch := omega) only [gs, gs2, gs3, gs4, ↓reduceIte, Nat.reduceEqDiff, Int.reduceToNat, Nat.reduceMul, Nat.reduceAdd, Nat.reduceBEq, isLd]
  refine st_many (vs := matC p n (n + 1) A2 (n * (n + 1)) c2) rfl (put_same _ _ _) rfl (by simp) (matC_one _ _ _ _ _ _) ?_
  rw [put_put']
  rw [show over [Value.int .i64 0, .int .i64 0, .int .i64 0, .slice none 0 0] 0 (matC p n (n + 1) A2 (n * (n + 1)) c2) = matC p n (n + 1) A2 (n * (n + 1)) c2 from rfl]
  have hM7 := MatB.box G2 b7 p n (n + 1) A2 (n * (n + 1)) c2
  have s8 := Sub.put hb7 ⟨matC p n (n + 1) A2 (n * (n + 1)) c2, true⟩
  revert hM7 s8
  generalize put G2 b7 ⟨matC p n (n + 1) A2 (n * (n + 1)) c2, true⟩ = G3
  intro hM7 s8
  simp (maxSteps := 300000) (disch := omega) only [gs, gs2, gs3, gs4, ↓reduceIte, Nat.reduceEqDiff, Int.reduceToNat, Nat.reduceMul, Nat.reduceAdd, Nat.reduceBEq, isLd]
  refine spec_l03Reduced_ok hM7 (hI2.sub s8) ⟨hn.1, by omega⟩ ⟨by omega, by omega⟩ hr hp fun G4 bc cc P cq d s9 hF hP => ?_
  simp (maxSteps := 300000) (disch := omega) only [gs, gs2, gs3, gs4, ↓reduceIte, Nat.reduceEqDiff, Int.reduceToNat, Nat.reduceMul, Nat.reduceAdd, Nat.reduceBEq, isLd]
  intro b8 hb8
  simp (maxSteps := 300000) (disch := omega) only [gs, gs2, gs3, gs4, ↓reduceIte, Nat.reduceEqDiff, Int.reduceToNat, Nat.reduceMul, Nat.reduceAdd, Nat.reduceBEq, isLd]
  refine st_many (vs := matC p n (n + 1) (some ⟨bc, 0, none⟩) (n * (n + 1)) cc) rfl (put_same _ _ _) rfl (by simp) (matC_one _ _ _ _ _ _) ?_
  rw [put_put']
  rw [show over [Value.int .i64 0, .int .i64 0, .int .i64 0, .slice none 0 0] 0 (matC p n (n + 1) (some ⟨bc, 0, none⟩) (n * (n + 1)) cc) = matC p n (n + 1) (some ⟨bc, 0, none⟩) (n * (n + 1)) cc from rfl]
  have hM8 := MatB.box G4 b8 p n (n + 1) (some ⟨bc, 0, none⟩) (n * (n + 1)) cc
  have s10 := Sub.put hb8 ⟨matC p n (n + 1) (some ⟨bc, 0, none⟩) (n * (n + 1)) cc, true⟩
  have hM7 := (hM7.sub s9).sub s10
  have hPi := hP.ints.sub s10
  have hF8 : Fl (put G4 b8 ⟨matC p n (n + 1) (some ⟨bc, 0, none⟩) (n * (n + 1)) cc, true⟩) bc n (n + 1) (elF p n F (n + 1)).f := by
    obtain ⟨q, rs, g1, g2⟩ := hF
    exact ⟨q, rs, s10 _ _ g1, g2⟩
  have sA := s7.trans (s2.trans (s8.trans (s9.trans s10)))
  revert hM7 hM8 hPi hF8 sA s10
  generalize put G4 b8 ⟨matC p n (n + 1) (some ⟨bc, 0, none⟩) (n * (n + 1)) cc, true⟩ = G5
  intro hM8 s10 hM7 hPi hF8 sA
  have hM := hM.sub sA
  have hpl := elF_len p n F (n + 1)
  have hpb := elF_piv p n F (n + 1)
  generalize elF p n F (n + 1) = E at *
  have a2 := hM.f2
  have m72 := hM7.f2
  have m83 := hM8.f3
  simp (maxSteps := 300000) (disch := omega) only [gs, gs2, gs3, gs4, ↓reduceIte, Nat.reduceEqDiff, Int.reduceToNat, Nat.reduceMul, Nat.reduceAdd, Nat.reduceBEq, isLd, a2]
  refine ⟨n, n, rfl, rfl, Nat.le_refl _, by omega, by omega, fun bx hbx => ?_⟩
  have hz : zc [.int .i64 0] n = fcells n (solX E n 0) := by rw [zc_one, rep_range]; rfl
  rw [hz]
  simp (maxSteps := 300000) (disch := omega) only [gs, gs2, gs3, gs4, ↓reduceIte, Nat.reduceEqDiff, Int.reduceToNat, Nat.reduceMul, Nat.reduceAdd, Nat.reduceBEq, isLd]
  refine gLoop_intro (fun m T G' => ∃ j : Nat, T 0 = .pointer (some ⟨bm, 0, none⟩) ∧ T 7 = .pointer (some ⟨b7, 0, none⟩) ∧ T 8 = .pointer (some ⟨b8, 0, none⟩) ∧ T 9 = .slice P E.piv.length cq ∧ T 11 = .slice (some ⟨bx, 0, none⟩) n n ∧ T 12 = .int .i64 j ∧ m + j = E.piv.length ∧ j ≤ E.piv.length ∧ Sub G5 G' ∧ G' bx = some ⟨fcells n (solX E n j), true⟩ ∧ ∀ i, i < j → E.piv.getD i 0 ≠ n)
    E.piv.length ⟨0, by simp (maxSteps := 300000) (disch := omega) only [gs, gs2, gs3, gs4, ↓reduceIte, Nat.reduceEqDiff, Int.reduceToNat, Nat.reduceMul, Nat.reduceAdd, Nat.reduceBEq, isLd], by simp (maxSteps := 300000) (disch := omega) only [gs, gs2, gs3, gs4, ↓reduceIte, Nat.reduceEqDiff, Int.reduceToNat, Nat.reduceMul, Nat.reduceAdd, Nat.reduceBEq, isLd], by simp (maxSteps := 300000) (disch := omega) only [gs, gs2, gs3, gs4, ↓reduceIte, Nat.reduceEqDiff, Int.reduceToNat, Nat.reduceMul, Nat.reduceAdd, Nat.reduceBEq, isLd], by simp (maxSteps := 300000) (disch := omega) only [gs, gs2, gs3, gs4, ↓reduceIte, Nat.reduceEqDiff, Int.reduceToNat, Nat.reduceMul, Nat.reduceAdd, Nat.reduceBEq, isLd], by simp (maxSteps := 300000) (disch := omega) only [gs, gs2, gs3, gs4, ↓reduceIte, Nat.reduceEqDiff, Int.reduceToNat, Nat.reduceMul, Nat.reduceAdd, Nat.reduceBEq, isLd], by simp (maxSteps := 300000) (disch := omega) only [gs, gs2, gs3, gs4, ↓reduceIte, Nat.reduceEqDiff, Int.reduceToNat, Nat.reduceMul, Nat.reduceAdd, Nat.reduceBEq, isLd] <;> rfl, by omega, by omega, Sub.put hbx _, put_same _ _ _, fun i hi => by omega⟩ ?_
  rintro m T G' ⟨j, e0, e7, e8, e9, e11, e12, hm, hjm, s6, hX, hne⟩
  have g2 := rd_sub s6 a2
  simp (maxSteps := 300000) (disch := omega) only [gs, gs2, gs3, gs4, ↓reduceIte, Nat.reduceEqDiff, Int.reduceToNat, Nat.reduceMul, Nat.reduceAdd, Nat.reduceBEq, isLd, e0, e7, e8, e9, e11, e12]
  by_cases hjj : (j : Int) < E.piv.length
  · have hpj := (hPi.sub s6).rd j (by omega)
    have hsP := hPi.sn (by omega)
    have hpbj := hpb j (by omega)
    simp (maxSteps := 300000) (disch := omega) only [gs, gs2, gs3, gs4, ↓reduceIte, Nat.reduceEqDiff, Int.reduceToNat, Nat.reduceMul, Nat.reduceAdd, Nat.reduceBEq, isLd, e0, e7, e8, e9, e11, e12, hjj, hpj, g2]
    by_cases hpn : E.piv.getD j 0 = n
    · simp (maxSteps := 300000) (disch := omega) only [gs, gs2, gs3, gs4, ↓reduceIte, Nat.reduceEqDiff, Int.reduceToNat, Nat.reduceMul, Nat.reduceAdd, Nat.reduceBEq, isLd, eq_true hpn]
      exact ⟨G, sA.trans s6, h0 (by rw [← hpn]; simp [List.getD, show j < E.piv.length by omega])⟩
    · have hF' : Fl G' bc n (n + 1) E.f := by
        obtain ⟨q, rs, g1, g2⟩ := hF8
        exact ⟨q, rs, s6 _ _ g1, g2⟩
      have hc := hF'.rd (i := j) (j := n) (by omega) (by omega)
      have h1 := flat_lt (R := n) (w := n + 1) (i := j) (j := n) (by omega) (by omega)
      have h2 := flat_nn j n (n + 1)
      have hbt := iw_bd (i := j) (w := n + 1) (by omega) (by omega)
      have w3 := w64 ((j : Int) * ((n + 1 : Nat) : Int)) (by omega) (by omega)
      have w4 := w64 ((j : Int) * ((n + 1 : Nat) : Int) + n) (by omega) (by omega)
      simp (maxSteps := 300000) (disch := omega) only [gs, gs2, gs3, gs4, ↓reduceIte, Nat.reduceEqDiff, Int.reduceToNat, Nat.reduceMul, Nat.reduceAdd, Nat.reduceBEq, isLd, eq_false hpn, e0, e7, e8, e9, e11, e12, hpj, g2, rd_sub s6 m72, rd_sub s6 m83, w3, w4, hc]
      refine st_fcells hX (v := E.piv.getD j 0) (by omega) (by omega) fun G7 hX7 hK7 => ?_
      simp (maxSteps := 300000) (disch := omega) only [gs, gs2, gs3, gs4, ↓reduceIte, Nat.reduceEqDiff, Int.reduceToNat, Nat.reduceMul, Nat.reduceAdd, Nat.reduceBEq, isLd, e0, e7, e8, e9, e11, e12]
      exact ⟨m - 1, by omega, G7, Sub.refl _, j + 1, rfl, by omega, by omega, sub_keep hK7 hbx s6, hX7, fun i hi => by
        by_cases e : i = j
        · rw [e]; exact hpn
        · exact hne i (by omega)⟩
  · simp (maxSteps := 300000) (disch := omega) only [gs, gs2, gs3, gs4, ↓reduceIte, Nat.reduceEqDiff, Int.reduceToNat, Nat.reduceMul, Nat.reduceAdd, Nat.reduceBEq, isLd, e0, e7, e8, e9, e11, e12, hjj]
    obtain rfl : j = E.piv.length := by omega
    have sG := sA.trans s6
    refine ⟨G', Sub.refl _, h1 (fun hmem => ?_) G' bx sG (sA.none hbx) hX⟩
    obtain ⟨i, hi, e⟩ := List.mem_iff_getElem.1 hmem
    exact hne i hi (by simp [List.getD, hi, e])
theorem LI.nil {v : List Int × Int} {e : Int} (hv : v = ([], e)) {K : Value → GH → Prop} {G : GH} (hk : LI v K G) : K (.tuple [.slice none 0 0, .int .i64 e].toArray) G := by
  subst hv; exact hk G none 0 (New.nil _ _)
/-- with a full rank, the solution is the last column. -/
theorem solX_all {S : ElS} {n : Nat} {C : Int} (hp : ∀ m, m < n → S.piv.getD m 0 = m) : ∀ k, k ≤ n → ∀ j : Nat, j < k → solX S C k j = S.f j C
  | 0, _, j, hj => by omega
  | k + 1, hk, j, hj => by
    show updAt (solX S C k) (S.piv.getD k 0) (S.f k C) j = _
    rw [hp k (by omega)]
    unfold updAt
    by_cases e : j = k
    · subst e; rw [if_pos rfl]
    · rw [if_neg (by omega)]; exact solX_all hp k (by omega) j (by omega)
theorem har_two {N : Gra} {p : Int} {fixed values : List Int} (h1 : GraOk N ∧ PrimeP p ∧ InB values 0 (p - 1) ∧ values.length ≤ 64) (h2 : SetOk N fixed) (h3 : fixed.length = values.length) : harV N p fixed values =
    if (elF p N.n.toNat (harF N p fixed values) N.n.toNat).piv.length = N.n.toNat then ((List.range N.n.toNat).map fun j : Nat => (elF p N.n.toNat (harF N p fixed values) N.n.toNat).f j N.n, 0) else ([], 6) := by
  unfold harV
  rw [if_neg (fun x => x h1), if_neg (fun x => x h2), if_neg (fun x => x h3)]
theorem Own.some {G : GH} {A : Option Addr} {c sz n : Nat} {cs : List Value} (h : Own G A c cs sz n) (hn : 0 < n) : ∃ b r, A = Option.some ⟨b, 0, none⟩ ∧ G b = Option.some ⟨cs ++ r, true⟩ ∧ cs.length = n * sz ∧ (cs ++ r).length = c * sz ∧ n ≤ c := by
  rcases h with ⟨_, _, h0, _⟩ | h
  · omega
  · exact h
theorem impl_HarmonicModulo_ok {G : GH} {N : Gra} {A B D : Option Addr} {c d e : Nat} {p : Int} {fixed values : List Int} (h : T3S G A c N.edges) (hf : IntS G B d fixed) (hv : IntS G D e values) (hl : N.edges.length < 2 ^ 40) (hl1 : fixed.length < 2 ^ 40) (hl2 : values.length < 2 ^ 40) {K : Value → GH → Prop}
    (hk : LI (harV N p fixed values) K G) : GC Try.prog 75 [graV N A c, .int .i64 p, .slice B fixed.length d, .slice D values.length e] G K := by
  refine GC_drop (c_impl_HarmonicModulo_i (by simp) ?_)
  unfold graV graC
  simp (maxSteps := 300000) (disch := omega) only [gs, gs2, gs3, gs4, ↓reduceIte, Nat.reduceEqDiff, Int.reduceToNat, Nat.reduceMul, Nat.reduceAdd, Nat.reduceBEq, isLd]
  intro b1 hb1
  have s1 := Sub.put hb1 ⟨[.int .i64 N.n, .slice A N.edges.length c], true⟩
  have f0 : rd (put G b1 ⟨[.int .i64 N.n, .slice A N.edges.length c], true⟩) (some ⟨b1, 0, none⟩) = some (.int .i64 N.n) := rd_box _ _ _ 0 _ rfl
  have f1 : rd (put G b1 ⟨[.int .i64 N.n, .slice A N.edges.length c], true⟩) (some ⟨b1, 1, none⟩) = some (.slice A N.edges.length c) := rd_box _ _ _ 1 _ rfl
  revert s1 f0 f1
  generalize put G b1 ⟨[.int .i64 N.n, .slice A N.edges.length c], true⟩ = G1
  intro s1 f0 f1
  simp (maxSteps := 300000) (disch := omega) only [gs, gs2, gs3, gs4, ↓reduceIte, Nat.reduceEqDiff, Int.reduceToNat, Nat.reduceMul, Nat.reduceAdd, Nat.reduceBEq, isLd, f0, f1]
  refine impl_ValidGraph_ok (N := N) (h.sub s1) hl fun bb hbb => ?_
  cases bb
  · simp (maxSteps := 300000) (disch := omega) only [gs, gs2, gs3, gs4, ↓reduceIte, Nat.reduceEqDiff, Int.reduceToNat, Nat.reduceMul, Nat.reduceAdd, Nat.reduceBEq, isLd]
    exact ⟨G, s1, LI.nil (e := 1) (by unfold harV; rw [if_pos fun x => by have := hbb.2 x.1; cases this]) hk⟩
  have hn := hbb.1 rfl
  have hn1 := hn.1
  simp (maxSteps := 300000) (disch := omega) only [gs, gs2, gs3, gs4, ↓reduceIte, Nat.reduceEqDiff, Int.reduceToNat, Nat.reduceMul, Nat.reduceAdd, Nat.reduceBEq, isLd, f0, f1]
  refine impl_ValidVector_ok (hv.sub s1) hl2 fun bv hbv => ?_
  cases bv
  · simp (maxSteps := 300000) (disch := omega) only [gs, gs2, gs3, gs4, ↓reduceIte, Nat.reduceEqDiff, Int.reduceToNat, Nat.reduceMul, Nat.reduceAdd, Nat.reduceBEq, isLd]
    exact ⟨G, s1, LI.nil (e := 1) (by unfold harV; rw [if_pos fun x => by have := hbv.2 x.2; cases this]) hk⟩
  obtain ⟨hp, hvb, hvl⟩ := hbv.1 rfl
  have h1 : GraOk N ∧ PrimeP p ∧ InB values 0 (p - 1) ∧ values.length ≤ 64 := ⟨hn, hp, hvb, hvl⟩
  have hp1 := hp.1
  simp (maxSteps := 300000) (disch := omega) only [gs, gs2, gs3, gs4, ↓reduceIte, Nat.reduceEqDiff, Int.reduceToNat, Nat.reduceMul, Nat.reduceAdd, Nat.reduceBEq, isLd, f0, f1]
  refine impl_isSet_ok (N := N) (hf.sub s1) hn hl1 fun bs hbs => ?_
  cases bs
  · simp (maxSteps := 300000) (disch := omega) only [gs, gs2, gs3, gs4, ↓reduceIte, Nat.reduceEqDiff, Int.reduceToNat, Nat.reduceMul, Nat.reduceAdd, Nat.reduceBEq, isLd]
    exact ⟨G, s1, LI.nil (e := 2) (by unfold harV; rw [if_neg (fun x => x h1), if_pos fun x => by have := hbs.2 x; cases this]) hk⟩
  have hset := hbs.1 rfl
  simp (maxSteps := 300000) (disch := omega) only [gs, gs2, gs3, gs4, ↓reduceIte, Nat.reduceEqDiff, Int.reduceToNat, Nat.reduceMul, Nat.reduceAdd, Nat.reduceBEq, isLd, f0, f1]
  by_cases h3 : fixed.length = values.length
  rotate_left
  · have hne : ¬ ((fixed.length : Int) = (values.length : Int)) := by omega
    simp (maxSteps := 300000) (disch := omega) only [gs, gs2, gs3, gs4, ↓reduceIte, Nat.reduceEqDiff, Int.reduceToNat, Nat.reduceMul, Nat.reduceAdd, Nat.reduceBEq, isLd, eq_false hne]
    exact ⟨G, s1, LI.nil (e := 6) (by unfold harV; rw [if_neg (fun x => x h1), if_neg (fun x => x hset), if_pos h3]) hk⟩
  rw [har_two h1 hset h3] at hk
  have he3 : ((fixed.length : Int) = (values.length : Int)) := by omega
  simp (maxSteps := 300000) (disch := omega) only [gs, gs2, gs3, gs4, ↓reduceIte, Nat.reduceEqDiff, Int.reduceToNat, Nat.reduceMul, Nat.reduceAdd, Nat.reduceBEq, isLd, eq_true he3, f0, f1]
  obtain ⟨n, hnn⟩ : ∃ n, n = N.n.toNat := ⟨_, rfl⟩
  have hNn : N.n = (n : Int) := by omega
  rw [← hnn] at hk
  rw [hNn] at hk
  have f0n : rd G1 (some ⟨b1, 0, none⟩) = some (.int .i64 n) := by rw [← hNn]; exact f0
  refine impl_laplacian_ok (N := N) (h.sub s1) hn fun G2 bO Bm hM => ?_
  rw [← hnn] at hM ⊢
  simp (maxSteps := 300000) (disch := omega) only [gs, gs2, gs3, gs4, ↓reduceIte, Nat.reduceEqDiff, Int.reduceToNat, Nat.reduceMul, Nat.reduceAdd, Nat.reduceBEq, isLd, rd_sub hM.sub f0n]
  refine ⟨n, n, rfl, rfl, Nat.le_refl _, by omega, by omega, fun bg hbg => ?_⟩
  have hz : zc [.int .i64 0] n = fcells n (fun _ => 0) := by rw [zc_one, rep_range]; rfl
  rw [hz]
  simp (maxSteps := 300000) (disch := omega) only [gs, gs2, gs3, gs4, ↓reduceIte, Nat.reduceEqDiff, Int.reduceToNat, Nat.reduceMul, Nat.reduceAdd, Nat.reduceBEq, isLd]
  obtain ⟨F, hF⟩ : ∃ F, F = harF N p fixed values := ⟨_, rfl⟩
  have hFr : Rng F p := by rw [hF]; exact harF_rng hp fixed hvb
  have hF1 : ∀ i j : Nat, i < n → j < n → ¬ (i : Int) ∈ fixed → F i j = lapK N.edges N.edges.length i j % p := fun i j hi hj hm => by
    rw [hF]; unfold harF; rw [if_neg hm, if_neg (by omega)]
  have hF2 : ∀ i : Nat, ¬ (i : Int) ∈ fixed → F i n = 0 := fun i hm => by
    rw [hF]; unfold harF; rw [if_neg hm, if_pos (by omega)]
  have hF3 : ∀ i j : Nat, i < n → j < n → (i : Int) ∈ fixed → F i j = if (i : Int) = j then 1 else 0 := fun i j hi hj hm => by
    rw [hF]; unfold harF; rw [if_pos hm, if_neg (by omega)]
    by_cases e : (i : Int) = j
    · rw [if_pos e, if_pos e.symm]
    · rw [if_neg e, if_neg (fun x => e x.symm)]
  have hF4 : ∀ i : Nat, (i : Int) ∈ fixed → F i n = values.getD (fixed.idxOf (i : Int)) 0 := fun i hm => by
    rw [hF]; unfold harF; rw [if_pos hm, if_pos (by omega)]
  rw [← hF] at hk
  clear hF
  generalize lapK N.edges N.edges.length = L at *
  have hX0 : Hx G1 (put G2 bg ⟨fcells n fun _ => 0, true⟩) bO bg Bm (fun _ => 0) (fun _ => n) n 0 L (fun _ => 0) := hM.hx hbg (Sub.put hbg _) (put_same _ _ _)
  clear hM
  generalize put G2 bg ⟨fcells n fun _ => 0, true⟩ = G3 at hX0 ⊢
  refine gLoop_intro (fun m T G' => ∃ (k : Nat) (Bk o cp : Nat → Nat), T 1 = .int .i64 p ∧ T 2 = .slice B fixed.length d ∧ T 3 = .slice D values.length e ∧ T 4 = .pointer (some ⟨b1, 0, none⟩) ∧ T 10 = .slice (some ⟨bO, 0, none⟩) n n ∧ T 11 = .slice (some ⟨bg, 0, none⟩) n n ∧ T 46 = .slice (some ⟨bO, 0, none⟩) n n ∧ T 47 = .int .i64 n ∧ T 48 = .int .i64 k ∧ m + k = n ∧ k ≤ n ∧
      Hx G1 G' bO bg Bk o cp n k (fun i j => if i < k then F i j else L i j) (fun j => if j < k then F j n else 0)) n
    ⟨0, Bm, fun _ => 0, fun _ => n, by simp (maxSteps := 300000) (disch := omega) only [gs, gs2, gs3, gs4, ↓reduceIte, Nat.reduceEqDiff, Int.reduceToNat, Nat.reduceMul, Nat.reduceAdd, Nat.reduceBEq, isLd], by simp (maxSteps := 300000) (disch := omega) only [gs, gs2, gs3, gs4, ↓reduceIte, Nat.reduceEqDiff, Int.reduceToNat, Nat.reduceMul, Nat.reduceAdd, Nat.reduceBEq, isLd], by simp (maxSteps := 300000) (disch := omega) only [gs, gs2, gs3, gs4, ↓reduceIte, Nat.reduceEqDiff, Int.reduceToNat, Nat.reduceMul, Nat.reduceAdd, Nat.reduceBEq, isLd], by simp (maxSteps := 300000) (disch := omega) only [gs, gs2, gs3, gs4, ↓reduceIte, Nat.reduceEqDiff, Int.reduceToNat, Nat.reduceMul, Nat.reduceAdd, Nat.reduceBEq, isLd], by simp (maxSteps := 300000) (disch := omega) only [gs, gs2, gs3, gs4, ↓reduceIte, Nat.reduceEqDiff, Int.reduceToNat, Nat.reduceMul, Nat.reduceAdd, Nat.reduceBEq, isLd], by simp (maxSteps := 300000) (disch := omega) only [gs, gs2, gs3, gs4, ↓reduceIte, Nat.reduceEqDiff, Int.reduceToNat, Nat.reduceMul, Nat.reduceAdd, Nat.reduceBEq, isLd], by simp (maxSteps := 300000) (disch := omega) only [gs, gs2, gs3, gs4, ↓reduceIte, Nat.reduceEqDiff, Int.reduceToNat, Nat.reduceMul, Nat.reduceAdd, Nat.reduceBEq, isLd], by simp (maxSteps := 300000) (disch := omega) only [gs, gs2, gs3, gs4, ↓reduceIte, Nat.reduceEqDiff, Int.reduceToNat, Nat.reduceMul, Nat.reduceAdd, Nat.reduceBEq, isLd], by simp (maxSteps := 300000) (disch := omega) only [gs, gs2, gs3, gs4, ↓reduceIte, Nat.reduceEqDiff, Int.reduceToNat, Nat.reduceMul, Nat.reduceAdd, Nat.reduceBEq, isLd] <;> rfl, by omega, by omega, hX0.cong (fun i j hi hj => by rw [if_neg (by omega)]) (fun j hj => by rw [if_neg (by omega)])⟩ ?_
  clear hX0
  rintro m T G' ⟨k, Bk, o, cp, e1, e2, e3, e4, e10, e11, e46, e47, e48, hm, hkn, hX⟩
  simp (maxSteps := 300000) (disch := omega) only [gs, gs2, gs3, gs4, ↓reduceIte, Nat.reduceEqDiff, Int.reduceToNat, Nat.reduceMul, Nat.reduceAdd, Nat.reduceBEq, isLd, e1, e2, e3, e4, e10, e11, e46, e47, e48]
  by_cases hkk : (k : Int) < n
  · have hg := hX.get (show k < n by omega)
    simp (maxSteps := 300000) (disch := omega) only [gs, gs2, gs3, gs4, ↓reduceIte, Nat.reduceEqDiff, Int.reduceToNat, Nat.reduceMul, Nat.reduceAdd, Nat.reduceBEq, isLd, e1, e2, e3, e4, e10, e11, e46, e47, e48, hkk, hg]
    refine gLoop_intro (fun m' T' G' => ∃ (j : Nat), T' 1 = .int .i64 p ∧ T' 2 = .slice B fixed.length d ∧ T' 3 = .slice D values.length e ∧ T' 4 = .pointer (some ⟨b1, 0, none⟩) ∧ T' 10 = .slice (some ⟨bO, 0, none⟩) n n ∧ T' 11 = .slice (some ⟨bg, 0, none⟩) n n ∧ T' 12 = .int .i64 k ∧ T' 13 = .slice (some ⟨Bk k, o k, none⟩) n (cp k) ∧ T' 46 = .slice (some ⟨bO, 0, none⟩) n n ∧ T' 47 = .int .i64 n ∧ T' 48 = .int .i64 k ∧ T' 53 = .slice (some ⟨Bk k, o k, none⟩) n (cp k) ∧ T' 54 = .int .i64 n ∧ T' 55 = .int .i64 j ∧ m' + j = n ∧ j ≤ n ∧
        Hx G1 G' bO bg Bk o cp n k (fun i j' => if i < k then F i j' else if i = k ∧ j' < j then L i j' % p else L i j') (fun j => if j < k then F j n else 0)) n
      ⟨0, by simp (maxSteps := 300000) (disch := omega) only [gs, gs2, gs3, gs4, ↓reduceIte, Nat.reduceEqDiff, Int.reduceToNat, Nat.reduceMul, Nat.reduceAdd, Nat.reduceBEq, isLd, e1], by simp (maxSteps := 300000) (disch := omega) only [gs, gs2, gs3, gs4, ↓reduceIte, Nat.reduceEqDiff, Int.reduceToNat, Nat.reduceMul, Nat.reduceAdd, Nat.reduceBEq, isLd, e2], by simp (maxSteps := 300000) (disch := omega) only [gs, gs2, gs3, gs4, ↓reduceIte, Nat.reduceEqDiff, Int.reduceToNat, Nat.reduceMul, Nat.reduceAdd, Nat.reduceBEq, isLd, e3], by simp (maxSteps := 300000) (disch := omega) only [gs, gs2, gs3, gs4, ↓reduceIte, Nat.reduceEqDiff, Int.reduceToNat, Nat.reduceMul, Nat.reduceAdd, Nat.reduceBEq, isLd, e4], by simp (maxSteps := 300000) (disch := omega) only [gs, gs2, gs3, gs4, ↓reduceIte, Nat.reduceEqDiff, Int.reduceToNat, Nat.reduceMul, Nat.reduceAdd, Nat.reduceBEq, isLd, e10], by simp (maxSteps := 300000) (disch := omega) only [gs, gs2, gs3, gs4, ↓reduceIte, Nat.reduceEqDiff, Int.reduceToNat, Nat.reduceMul, Nat.reduceAdd, Nat.reduceBEq, isLd, e11], by simp (maxSteps := 300000) (disch := omega) only [gs, gs2, gs3, gs4, ↓reduceIte, Nat.reduceEqDiff, Int.reduceToNat, Nat.reduceMul, Nat.reduceAdd, Nat.reduceBEq, isLd], by simp (maxSteps := 300000) (disch := omega) only [gs, gs2, gs3, gs4, ↓reduceIte, Nat.reduceEqDiff, Int.reduceToNat, Nat.reduceMul, Nat.reduceAdd, Nat.reduceBEq, isLd], by simp (maxSteps := 300000) (disch := omega) only [gs, gs2, gs3, gs4, ↓reduceIte, Nat.reduceEqDiff, Int.reduceToNat, Nat.reduceMul, Nat.reduceAdd, Nat.reduceBEq, isLd, e46], by simp (maxSteps := 300000) (disch := omega) only [gs, gs2, gs3, gs4, ↓reduceIte, Nat.reduceEqDiff, Int.reduceToNat, Nat.reduceMul, Nat.reduceAdd, Nat.reduceBEq, isLd, e47], by simp (maxSteps := 300000) (disch := omega) only [gs, gs2, gs3, gs4, ↓reduceIte, Nat.reduceEqDiff, Int.reduceToNat, Nat.reduceMul, Nat.reduceAdd, Nat.reduceBEq, isLd, e48], by simp (maxSteps := 300000) (disch := omega) only [gs, gs2, gs3, gs4, ↓reduceIte, Nat.reduceEqDiff, Int.reduceToNat, Nat.reduceMul, Nat.reduceAdd, Nat.reduceBEq, isLd], by simp (maxSteps := 300000) (disch := omega) only [gs, gs2, gs3, gs4, ↓reduceIte, Nat.reduceEqDiff, Int.reduceToNat, Nat.reduceMul, Nat.reduceAdd, Nat.reduceBEq, isLd], by simp (maxSteps := 300000) (disch := omega) only [gs, gs2, gs3, gs4, ↓reduceIte, Nat.reduceEqDiff, Int.reduceToNat, Nat.reduceMul, Nat.reduceAdd, Nat.reduceBEq, isLd] <;> rfl, by omega, by omega, hX.cong (fun i j hi hj => by
        by_cases c1 : (i : Int) < k
        · rw [if_pos c1, if_pos c1]
        · rw [if_neg c1, if_neg c1, if_neg (by omega)]) (fun j hj => rfl)⟩ ?_
    clear e1 e2 e3 e4 e10 e11 e46 e47 e48 hX hg
    rintro m' T' G' ⟨j, e1, e2, e3, e4, e10, e11, e12, e13, e46, e47, e48, e53, e54, e55, hm', hj, hX⟩
    simp (maxSteps := 300000) (disch := omega) only [gs, gs2, gs3, gs4, ↓reduceIte, Nat.reduceEqDiff, Int.reduceToNat, Nat.reduceMul, Nat.reduceAdd, Nat.reduceBEq, isLd, e1, e2, e3, e4, e10, e11, e12, e13, e46, e47, e48, e53, e54, e55]
    by_cases hjj : (j : Int) < n
    · have hr := hX.row k j (by omega) (by omega)
      rw [if_neg (by omega), if_neg (by omega)] at hr
      simp (maxSteps := 300000) (disch := omega) only [gs, gs2, gs3, gs4, ↓reduceIte, Nat.reduceEqDiff, Int.reduceToNat, Nat.reduceMul, Nat.reduceAdd, Nat.reduceBEq, isLd, e1, e2, e3, e4, e10, e11, e12, e13, e46, e47, e48, e53, e54, e55, hjj, hr]
      refine impl_reduce_ok ⟨by omega, by omega⟩ ?_
      simp (maxSteps := 300000) (disch := omega) only [gs, gs2, gs3, gs4, ↓reduceIte, Nat.reduceEqDiff, Int.reduceToNat, Nat.reduceMul, Nat.reduceAdd, Nat.reduceBEq, isLd, e1, e2, e3, e4, e10, e11, e12, e13, e46, e47, e48, e53, e54, e55]
      refine hX.st (by omega) (j := j) (by omega) fun G4 hX4 => ?_
      simp (maxSteps := 300000) (disch := omega) only [gs, gs2, gs3, gs4, ↓reduceIte, Nat.reduceEqDiff, Int.reduceToNat, Nat.reduceMul, Nat.reduceAdd, Nat.reduceBEq, isLd, e1, e2, e3, e4, e10, e11, e12, e13, e46, e47, e48, e53, e54, e55]
      refine ⟨m' - 1, by omega, G4, Sub.refl _, j + 1, rfl, by omega, by omega, hX4.cong (fun i j' hi hj' => ?_) (fun j hj => rfl)⟩
      unfold upd2
      dsimp only
      by_cases c1 : (i : Int) = k ∧ (j' : Int) = j
      · rw [if_pos c1, if_neg (by omega), if_pos (by omega), c1.1, c1.2]
      · rw [if_neg c1]
        by_cases c2 : (i : Int) < k
        · rw [if_pos c2, if_pos c2]
        · rw [if_neg c2, if_neg c2]
          by_cases c3 : (i : Int) = k ∧ (j' : Int) < j
          · rw [if_pos c3, if_pos (by omega)]
          · rw [if_neg c3, if_neg (by omega)]
    simp (maxSteps := 300000) (disch := omega) only [gs, gs2, gs3, gs4, ↓reduceIte, Nat.reduceEqDiff, Int.reduceToNat, Nat.reduceMul, Nat.reduceAdd, Nat.reduceBEq, isLd, e1, e2, e3, e4, e10, e11, e12, e13, e46, e47, e48, e53, e54, e55, hjj]
    have hjn : n = j := by omega
    subst hjn
    have hf' := (hf.sub s1).sub hX.sub
    have hv' := (hv.sub s1).sub hX.sub
    refine slices_Index_ok hf' hl1 ?_
    by_cases hmem : (k : Int) ∈ fixed
    rotate_left
    · have hid : idxI (fun x => decide (x = (k : Int))) fixed = -1 := idxI_none fun i hi => by
        refine decide_eq_false fun x => hmem ?_
        rw [← x]; simp [List.getD, hi]
      rw [hid]
      have lm : decide ((0 : Int) ≤ -1) = false := by decide
      simp (maxSteps := 300000) (disch := omega) only [gs, gs2, gs3, gs4, ↓reduceIte, Nat.reduceEqDiff, Int.reduceToNat, Nat.reduceMul, Nat.reduceAdd, Nat.reduceBEq, isLd, e1, e2, e3, e4, e10, e11, e12, e46, e47, e48, lm]
      refine ⟨m - 1, by omega, G', Sub.refl _, k + 1, Bk, o, cp, rfl, by omega, by omega, hX.next.cong (fun i j hi hj => ?_) (fun j hj => ?_)⟩
      · by_cases c1 : (i : Int) < k
        · rw [if_pos c1, if_pos (by omega)]
        · rw [if_neg c1]
          by_cases c2 : i = k
          · subst c2
            rw [if_pos ⟨rfl, by omega⟩, if_pos (by omega), hF1 i j hi hj hmem]
          · rw [if_neg (by omega), if_neg (by omega)]
      · by_cases c1 : (j : Int) < k
        · rw [if_pos c1, if_pos (by omega)]
        · rw [if_neg c1]
          by_cases c2 : j = k
          · subst c2
            rw [if_pos (by omega), hF2 j hmem]
          · rw [if_neg (by omega)]
    obtain ⟨ix, hix, hxk⟩ : ∃ ix, ix < fixed.length ∧ fixed.getD ix 0 = k := by
      obtain ⟨ix, hix, hx⟩ := List.mem_iff_getElem.1 hmem
      exact ⟨ix, hix, by simp [List.getD, hix, hx]⟩
    have hidx : fixed.idxOf (k : Int) = ix := by rw [← hxk]; exact idxOf_rise hset.2 hix
    have hid : idxI (fun x => decide (x = (k : Int))) fixed = ix := idxI_some hix (decide_eq_true hxk) fun i hi => decide_eq_false fun x => by
      have := rise_mono hset.2 hi hix
      omega
    rw [hid]
    have lge : decide ((ix : Int) ≥ 0) = true := decide_eq_true (by omega)
    simp (maxSteps := 300000) (disch := omega) only [gs, gs2, gs3, gs4, ↓reduceIte, Nat.reduceEqDiff, Int.reduceToNat, Nat.reduceMul, Nat.reduceAdd, Nat.reduceBEq, isLd, e1, e2, e3, e4, e10, e11, e12, e46, e47, e48, lge, rd_sub hX.sub f0n]
    refine impl_unit_ok (by omega) fun G5 Au cu s5 oA hW => ?_
    obtain ⟨bu, ru, rfl, hbu, _, _, hcu⟩ := Own.some hW (Nat.mul_pos (by omega) (by omega))
    have hui : IntS G5 (some ⟨bu, 0, none⟩) cu (flatL n n (fun i j => if i = j then 1 else 0)) := hW.ints' (by rw [flatL_len])
    have hnu : G' bu = none := oA _ rfl
    have hX5 := hX.up s5
    simp (maxSteps := 300000) (disch := omega) only [gs, gs2, gs3, gs4, ↓reduceIte, Nat.reduceEqDiff, Int.reduceToNat, Nat.reduceMul, Nat.reduceAdd, Nat.reduceBEq, isLd, e1, e2, e3, e4, e10, e11, e12, e46, e47, e48]
    refine impl_row_ok (by omega) ⟨by omega, by omega⟩ (by omega) hcu ?_
    simp (maxSteps := 300000) (disch := omega) only [gs, gs2, gs3, gs4, ↓reduceIte, Nat.reduceEqDiff, Int.reduceToNat, Nat.reduceMul, Nat.reduceAdd, Nat.reduceBEq, isLd, e1, e2, e3, e4, e10, e11, e12, e46, e47, e48, pa_mk]
    refine hX5.put (k := k) (by omega) (r := fun j => if (k : Int) = j then 1 else 0) (fun j hj => ?_) ?_ (hX.sub.none hnu) ⟨by intro x; rw [x, hX.bo] at hnu; simp at hnu, by intro x; rw [x, hX.gg] at hnu; simp at hnu⟩ (fun i hi x => ?_) fun G6 B6 o6 c6 hX6 => ?_
    · have := (row_ints hui (i := k) (by omega)).rd j (by rw [rowL_len]; exact hj)
      rw [pa_mk, pa_mk, rowL_get _ hj, Nat.zero_add] at this
      exact this
    · have : (k + 1) * n ≤ n * n := Nat.mul_le_mul_right n (by omega)
      rw [Nat.add_mul, Nat.one_mul] at this
      omega
    · have := hX.row i 0 hi (by omega)
      rw [x] at this
      simp [rd, hnu] at this
    have hvx := ((hv.sub s1).sub hX6.sub).rd ix (by omega)
    have hsv := hv.sn (by omega)
    simp (maxSteps := 300000) (disch := omega) only [gs, gs2, gs3, gs4, ↓reduceIte, Nat.reduceEqDiff, Int.reduceToNat, Nat.reduceMul, Nat.reduceAdd, Nat.reduceBEq, isLd, e1, e2, e3, e4, e10, e11, e12, e46, e47, e48, hvx]
    refine hX6.stg (j := k) (by omega) fun G7 hX7 => ?_
    simp (maxSteps := 300000) (disch := omega) only [gs, gs2, gs3, gs4, ↓reduceIte, Nat.reduceEqDiff, Int.reduceToNat, Nat.reduceMul, Nat.reduceAdd, Nat.reduceBEq, isLd, e1, e2, e3, e4, e10, e11, e12, e46, e47, e48]
    refine ⟨m - 1, by omega, G7, Sub.refl _, k + 1, B6, o6, c6, rfl, by omega, by omega, hX7.cong (fun i j hi hj => ?_) (fun j hj => ?_)⟩
    · by_cases c2 : i = k
      · subst c2
        rw [if_pos (rfl : (i : Int) = (i : Int)), if_pos (show (i : Int) < ((i + 1 : Nat) : Int) by omega), hF3 i j hi hj hmem]
      · rw [if_neg (by omega)]
        by_cases c1 : (i : Int) < k
        · rw [if_pos c1, if_pos (by omega)]
        · rw [if_neg c1, if_neg (by omega), if_neg (by omega)]
    · unfold updAt
      dsimp only
      by_cases c2 : j = k
      · subst c2
        rw [if_pos rfl, if_pos (by omega), hF4 j hmem, hidx]
      · rw [if_neg (by omega)]
        by_cases c1 : (j : Int) < k
        · rw [if_pos c1, if_pos (by omega)]
        · rw [if_neg c1, if_neg (by omega)]
  · simp (maxSteps := 300000) (disch := omega) only [gs, gs2, gs3, gs4, ↓reduceIte, Nat.reduceEqDiff, Int.reduceToNat, Nat.reduceMul, Nat.reduceAdd, Nat.reduceBEq, isLd, e1, e2, e3, e4, e10, e11, e46, e47, e48, hkk]
    have hkn' : n = k := by omega
    subst hkn'
    have hR : RowsS G' (some ⟨bO, 0, none⟩) n n F := by
      have := (hX.cong (f' := F) (q' := fun j => if j < n then F j n else 0) (fun i j hi hj => if_pos (by omega)) (fun j hj => rfl)).rows
      exact this
    have hG : G' bg = some ⟨fcells n (fun j => F j n), true⟩ := by
      rw [hX.gg, fcells_conN (g := fun j => F j n) fun j hj => if_pos (by omega)]
    have q0 := rd_sub hX.sub f0n
    simp (maxSteps := 300000) (disch := omega) only [gs, gs2, gs3, gs4, ↓reduceIte, Nat.reduceEqDiff, Int.reduceToNat, Nat.reduceMul, Nat.reduceAdd, Nat.reduceBEq, isLd, q0, e1, e2, e3, e4, e10, e11, e46, e47, e48]
    have hn10 : 0 < n ∧ n ≤ 2 ^ 10 := ⟨by omega, by omega⟩
    refine impl_matrixOf_ok (p := p) (n := n) (cy := n) hR hn10 ?_
    intro G5 Am cm s5 hI
    unfold matV matC
    simp (maxSteps := 300000) (disch := omega) only [gs, gs2, gs3, gs4, ↓reduceIte, Nat.reduceEqDiff, Int.reduceToNat, Nat.reduceMul, Nat.reduceAdd, Nat.reduceBEq, isLd]
    intro bm hbm
    simp (maxSteps := 300000) (disch := omega) only [gs, gs2, gs3, gs4, ↓reduceIte, Nat.reduceEqDiff, Int.reduceToNat, Nat.reduceMul, Nat.reduceAdd, Nat.reduceBEq, isLd]
    refine st_many (vs := matC p n n Am (n * n) cm) rfl (put_same _ _ _) rfl (by simp) (by intro v hv; simp [matC] at hv; rcases hv with rfl | rfl | rfl | rfl <;> rfl) ?_
    rw [put_put']
    have s8 : Sub G5 (put G5 bm ⟨over [.int .i64 0, .int .i64 0, .int .i64 0, .slice none 0 0] 0 (matC p n n Am (n * n) cm), true⟩) := Sub.put hbm _
    have r0 : rd (put G5 bm ⟨over [.int .i64 0, .int .i64 0, .int .i64 0, .slice none 0 0] 0 (matC p n n Am (n * n) cm), true⟩) (some ⟨bm, 0, none⟩) = some (.int .i64 p) := rd_box _ _ _ 0 _ rfl
    have r1 : rd (put G5 bm ⟨over [.int .i64 0, .int .i64 0, .int .i64 0, .slice none 0 0] 0 (matC p n n Am (n * n) cm), true⟩) (some ⟨bm, 1, none⟩) = some (.int .i64 n) := rd_box _ _ _ 1 _ rfl
    have r2 : rd (put G5 bm ⟨over [.int .i64 0, .int .i64 0, .int .i64 0, .slice none 0 0] 0 (matC p n n Am (n * n) cm), true⟩) (some ⟨bm, 2, none⟩) = some (.int .i64 n) := rd_box _ _ _ 2 _ rfl
    have r3 : rd (put G5 bm ⟨over [.int .i64 0, .int .i64 0, .int .i64 0, .slice none 0 0] 0 (matC p n n Am (n * n) cm), true⟩) (some ⟨bm, 3, none⟩) = some (.slice Am (n * n) cm) := rd_box _ _ _ 3 _ rfl
    revert s8 r0 r1 r2 r3
    generalize put G5 bm ⟨over [.int .i64 0, .int .i64 0, .int .i64 0, .slice none 0 0] 0 (matC p n n Am (n * n) cm), true⟩ = G8
    intro s8 r0 r1 r2 r3
    have sg := (s1.trans hX.sub).trans (s5.trans s8)
    have q8 := rd_sub (s5.trans s8) q0
    have hI8 := hI.sub s8
    have hbs8 : IntS G8 (some ⟨bg, 0, none⟩) n (rowL n (fun j => F j n)) := ⟨by rw [rowL_len]; exact Nat.le_refl _, fun j hj => by
      rw [rowL_len] at hj
      rw [pa_mk, Nat.zero_add, rowL_get _ hj]
      have := rd_fcells (s8 _ _ (s5 _ _ hG)) (v := (j : Int)) (by omega) (by omega)
      rwa [Int.toNat_natCast] at this⟩
    have hpp : 1 < p ∧ p ≤ 2 ^ 30 := ⟨by omega, by omega⟩
    have hn8 : 0 < n ∧ n < 2 ^ 8 := ⟨by omega, by omega⟩
    have hn9 : 0 < n ∧ n < 2 ^ 10 := ⟨by omega, by omega⟩
    simp (maxSteps := 300000) (disch := omega) only [gs, gs2, gs3, gs4, ↓reduceIte, Nat.reduceEqDiff, Int.reduceToNat, Nat.reduceMul, Nat.reduceAdd, Nat.reduceBEq, isLd, r0, r1, r2, r3, e1, e2, e3, e4, e10, e11]
    have hpl := elF_len p n F n
    have hpv := elF_piv p n F n
    refine impl_solve_ok (p := p) (F := F) hI8 hbs8 (rowL_len _ _) (fun i hi => rowL_get _ hi) hn8 hFr hpp ?_ ?_
    · intro hin
      have hne : (elF p n F n).piv.length ≠ n := fun x => by
        rw [(el_full x).2] at hin
        obtain ⟨m', hm', hx⟩ := List.mem_iff_getElem.1 hin
        have := hpv m' hm'
        simp [List.getD, hm', hx] at this
      rw [if_neg hne] at hk
      simp (maxSteps := 300000) (disch := omega) only [gs, gs2, gs3, gs4, ↓reduceIte, Nat.reduceEqDiff, Int.reduceToNat, Nat.reduceMul, Nat.reduceAdd, Nat.reduceBEq, isLd, r0, r1, r2, r3, q8, e4]
      exact ⟨G, sg, LI.nil rfl hk⟩
    · intro hin G9 bx s9 hbx hxb
      have t0 := rd_sub s9 r0
      have t1 := rd_sub s9 r1
      have t2 := rd_sub s9 r2
      have t3 := rd_sub s9 r3
      have q9 := rd_sub s9 q8
      simp (maxSteps := 300000) (disch := omega) only [gs, gs2, gs3, gs4, ↓reduceIte, Nat.reduceEqDiff, Int.reduceToNat, Nat.reduceMul, Nat.reduceAdd, Nat.reduceBEq, isLd, t0, t1, t2, t3, q9, e4]
      refine impl_rank_ok (hI8.sub s9) hn9 hFr hpp ?_
      by_cases hrk : (elF p n F n).piv.length = n
      rotate_left
      · rw [if_neg hrk] at hk
        have lr : decide (((elF p n F n).piv.length : Int) < (n : Int)) = true := decide_eq_true (by omega)
        simp (maxSteps := 300000) (disch := omega) only [gs, gs2, gs3, gs4, ↓reduceIte, Nat.reduceEqDiff, Int.reduceToNat, Nat.reduceMul, Nat.reduceAdd, Nat.reduceBEq, isLd, t0, t1, t2, t3, q9, e4, lr]
        exact ⟨G, sg.trans s9, LI.nil rfl hk⟩
      · rw [if_pos hrk] at hk
        have lr : decide (((elF p n F n).piv.length : Int) < (n : Int)) = false := decide_eq_false (by omega)
        simp (maxSteps := 300000) (disch := omega) only [gs, gs2, gs3, gs4, ↓reduceIte, Nat.reduceEqDiff, Int.reduceToNat, Nat.reduceMul, Nat.reduceAdd, Nat.reduceBEq, isLd, t0, t1, t2, t3, q9, e4, lr]
        have hpa := piv_all (elF_unc hpp.1 hp.inv hFr (R := n) n) hrk
        have hcx : fcells n (solX (elF p n F (n + 1)) n (elF p n F (n + 1)).piv.length) = (((List.range n).map fun j : Nat => (elF p n F n).f j n).map I64) := by
          rw [(el_full hrk).2, hrk, List.map_map]
          unfold fcells
          refine List.map_congr_left fun j hj => ?_
          have hj := List.mem_range.1 hj
          rw [solX_all (S := elF p n F (n + 1)) (n := n) (fun m hm => by rw [(el_full hrk).2]; exact hpa m hm) n (Nat.le_refl _) j hj, (el_full hrk).1]
          rfl
        rw [hcx] at hxb
        have hbG : G bx = none := sg.none hbx
        have hK := hk (put G bx ⟨((List.range n).map fun j : Nat => (elF p n F n).f j n).map I64, true⟩) (some ⟨bx, 0, none⟩) n (by
          have := New.mk hbG (((List.range n).map fun j : Nat => (elF p n F n).f j n).map I64) 1 n (by simp)
          refine this.cast rfl (by simp))
        have hlen : ((List.range n).map fun j : Nat => (elF p n F n).f j n).length = n := by simp
        dsimp only at hK
        rw [hlen] at hK
        exact ⟨_, Sub.of_put (sg.trans s9) hxb, hK⟩
/-- a list beside rows is written. -/
theorem Mr.stg {H G : GH} {bO bg : Nat} {B cp : Nat → Nat} {R C n : Nat} {rs : Nat → List Value} {ro : List Value} {f : Int → Int → Int} {q : Int → Int} (h : Mr (put H bg ⟨fcells n q, true⟩) G bO B cp R C rs ro f) {j : Nat} (hj : j < n) {x : Int} {K : Value → GH → Prop} (hK : ∀ G', Mr (put H bg ⟨fcells n (updAt q j x), true⟩) G' bO B cp R C rs ro f → K undef G') : gSt 1 (.pointer (some ⟨bg, j, none⟩)) (.int .i64 x) G K := by
  have hf := st_fcells (K := K) (h.sub _ _ (put_same _ _ _)) (v := (j : Int)) (x := x) (by omega) (by omega)
  rw [Int.toNat_natCast] at hf
  have nO : bO ≠ bg := fun e => by have := h.nO; rw [e, put_same] at this; cases this
  have nB : ∀ i, i < R → B i ≠ bg := fun i hi e => by have := h.nB i hi; rw [e, put_same] at this; cases this
  refine hf fun G' hb' hK' => hK G' ⟨h.sub.swap hK' hb', ?_, by rw [hK' _ nO]; exact h.o, fun i hi => ?_, fun i hi => by rw [hK' _ (nB i hi)]; exact h.b i hi, h.inj, h.ne⟩
  · have := h.nO; rwa [put_ne _ _ nO] at this ⊢
  · have := h.nB i hi; rwa [put_ne _ _ (nB i hi)] at this ⊢
theorem Mr.withg {H G G' : GH} {bO bg : Nat} {B cp : Nat → Nat} {R C n : Nat} {rs : Nat → List Value} {ro : List Value} {f : Int → Int → Int} {q : Int → Int} (h : Mr H G bO B cp R C rs ro f) (hg : G bg = none) (s : Sub G G') (hq : G' bg = some ⟨fcells n q, true⟩) : Mr (put H bg ⟨fcells n q, true⟩) G' bO B cp R C rs ro f := by
  have nO : bO ≠ bg := blk_ne h.o hg
  have nB : ∀ i, i < R → B i ≠ bg := fun i hi => blk_ne (h.b i hi) hg
  exact ⟨Sub.of_put (h.sub.trans s) hq, by rw [put_ne _ _ nO]; exact h.nO, s _ _ h.o, fun i hi => by rw [put_ne _ _ (nB i hi)]; exact h.nB i hi, fun i hi => s _ _ (h.b i hi), h.inj, h.ne⟩
theorem har_len (N : Gra) (p : Int) (fixed values : List Int) : (harV N p fixed values).1.length ≤ 2 ^ 20 := by
  unfold harV
  by_cases h1 : GraOk N ∧ PrimeP p ∧ InB values 0 (p - 1) ∧ values.length ≤ 64
  · rw [if_neg (fun x => x h1)]
    have := h1.1.1
    (repeat' split) <;> simp
    omega
  · rw [if_pos h1]; simp
theorem spec_HarmonicModulo_ok {G : GH} {N : Gra} {A B D : Option Addr} {c d e : Nat} {p : Int} {fixed values : List Int} (h : T3S G A c N.edges) (hf : IntS G B d fixed) (hv : IntS G D e values) (hl : N.edges.length < 2 ^ 40) (hl1 : fixed.length < 2 ^ 40) (hl2 : values.length < 2 ^ 40) {K : Value → GH → Prop}
    (hk : LI (harV N p fixed values) K G) : GC Try.prog 74 [graV N A c, .int .i64 p, .slice B fixed.length d, .slice D values.length e] G K := by
  refine GC_drop (c_spec_HarmonicModulo_i (by simp) ?_)
  unfold graV
  simp (maxSteps := 300000) (disch := omega) only [gs, gs2, gs3, gs4, ↓reduceIte, Nat.reduceEqDiff, Int.reduceToNat, Nat.reduceMul, Nat.reduceAdd, Nat.reduceBEq, isLd]
  intro b1 hb1
  simp (maxSteps := 300000) (disch := omega) only [gs, gs2, gs3, gs4, ↓reduceIte, Nat.reduceEqDiff, Int.reduceToNat, Nat.reduceMul, Nat.reduceAdd, Nat.reduceBEq, isLd]
  have hP := GraP.box hb1 h
  have s1 := Sub.put hb1 ⟨graC N A c, true⟩
  revert hP s1
  generalize put G b1 ⟨graC N A c, true⟩ = G1
  intro hP s1
  have f0 := hP.f0
  refine spec_l16Ok_ok hP hl fun bb hbb => ?_
  cases bb
  · simp (maxSteps := 300000) (disch := omega) only [gs, gs2, gs3, gs4, ↓reduceIte, Nat.reduceEqDiff, Int.reduceToNat, Nat.reduceMul, Nat.reduceAdd, Nat.reduceBEq, isLd]
    exact ⟨G, s1, LI.nil (e := 1) (by unfold harV; rw [if_pos fun x => by have := hbb.2 x.1; cases this]) hk⟩
  have hn := hbb.1 rfl
  have hn1 := hn.1
  simp (maxSteps := 300000) (disch := omega) only [gs, gs2, gs3, gs4, ↓reduceIte, Nat.reduceEqDiff, Int.reduceToNat, Nat.reduceMul, Nat.reduceAdd, Nat.reduceBEq, isLd]
  refine spec_l02Prime_ok fun bp hbp => ?_
  cases bp
  · simp (maxSteps := 300000) (disch := omega) only [gs, gs2, gs3, gs4, ↓reduceIte, Nat.reduceEqDiff, Int.reduceToNat, Nat.reduceMul, Nat.reduceAdd, Nat.reduceBEq, isLd]
    exact ⟨G, s1, LI.nil (e := 1) (by unfold harV; rw [if_pos fun x => by have := hbp.2 x.2.1; cases this]) hk⟩
  have hp := hbp.1 rfl
  have hp1 := hp.1
  simp (maxSteps := 300000) (disch := omega) only [gs, gs2, gs3, gs4, ↓reduceIte, Nat.reduceEqDiff, Int.reduceToNat, Nat.reduceMul, Nat.reduceAdd, Nat.reduceBEq, isLd]
  refine spec_l02Numbers_ok (hv.sub s1) hl2 ⟨by omega, hp1.2⟩ fun bv hbv => ?_
  cases bv
  · simp (maxSteps := 300000) (disch := omega) only [gs, gs2, gs3, gs4, ↓reduceIte, Nat.reduceEqDiff, Int.reduceToNat, Nat.reduceMul, Nat.reduceAdd, Nat.reduceBEq, isLd]
    exact ⟨G, s1, LI.nil (e := 1) (by unfold harV; rw [if_pos fun x => by have := hbv.2 x.2.2; cases this]) hk⟩
  obtain ⟨hvb, hvl⟩ := hbv.1 rfl
  have h1 : GraOk N ∧ PrimeP p ∧ InB values 0 (p - 1) ∧ values.length ≤ 64 := ⟨hn, hp, hvb, hvl⟩
  simp (maxSteps := 300000) (disch := omega) only [gs, gs2, gs3, gs4, ↓reduceIte, Nat.reduceEqDiff, Int.reduceToNat, Nat.reduceMul, Nat.reduceAdd, Nat.reduceBEq, isLd]
  refine spec_l16Set_ok hP (hf.sub s1) hn hl1 fun bs hbs => ?_
  cases bs
  · simp (maxSteps := 300000) (disch := omega) only [gs, gs2, gs3, gs4, ↓reduceIte, Nat.reduceEqDiff, Int.reduceToNat, Nat.reduceMul, Nat.reduceAdd, Nat.reduceBEq, isLd]
    exact ⟨G, s1, LI.nil (e := 2) (by unfold harV; rw [if_neg (fun x => x h1), if_pos fun x => by have := hbs.2 x; cases this]) hk⟩
  have hset := hbs.1 rfl
  simp (maxSteps := 300000) (disch := omega) only [gs, gs2, gs3, gs4, ↓reduceIte, Nat.reduceEqDiff, Int.reduceToNat, Nat.reduceMul, Nat.reduceAdd, Nat.reduceBEq, isLd]
  by_cases h3 : fixed.length = values.length
  rotate_left
  · have hne : ¬ ((values.length : Int) = (fixed.length : Int)) := by omega
    simp (maxSteps := 300000) (disch := omega) only [gs, gs2, gs3, gs4, ↓reduceIte, Nat.reduceEqDiff, Int.reduceToNat, Nat.reduceMul, Nat.reduceAdd, Nat.reduceBEq, isLd, eq_false hne]
    exact ⟨G, s1, LI.nil (e := 6) (by unfold harV; rw [if_neg (fun x => x h1), if_neg (fun x => x hset), if_pos h3]) hk⟩
  rw [har_two h1 hset h3] at hk
  have he3 : ((values.length : Int) = (fixed.length : Int)) := by omega
  simp (maxSteps := 300000) (disch := omega) only [gs, gs2, gs3, gs4, ↓reduceIte, Nat.reduceEqDiff, Int.reduceToNat, Nat.reduceMul, Nat.reduceAdd, Nat.reduceBEq, isLd, eq_true he3]
  obtain ⟨n, hnn⟩ : ∃ n, n = N.n.toNat := ⟨_, rfl⟩
  have hNn : N.n = (n : Int) := by omega
  rw [← hnn] at hk
  rw [hNn] at hk
  have f0n : rd G1 (some ⟨b1, 0, none⟩) = some (.int .i64 n) := by rw [← hNn]; exact f0
  refine spec_l16Rows_ok hP hn fun G2 bO Bm cp cb rs ro hM hcb => ?_
  rw [← hnn] at hM hcb ⊢
  simp (maxSteps := 300000) (disch := omega) only [gs, gs2, gs3, gs4, ↓reduceIte, Nat.reduceEqDiff, Int.reduceToNat, Nat.reduceMul, Nat.reduceAdd, Nat.reduceBEq, isLd, rd_sub hM.sub f0n]
  refine ⟨n, n, rfl, rfl, Nat.le_refl _, by omega, by omega, fun bg hbg => ?_⟩
  have hz : zc [.int .i64 0] n = fcells n (fun _ => 0) := by rw [zc_one, rep_range]; rfl
  rw [hz]
  simp (maxSteps := 300000) (disch := omega) only [gs, gs2, gs3, gs4, ↓reduceIte, Nat.reduceEqDiff, Int.reduceToNat, Nat.reduceMul, Nat.reduceAdd, Nat.reduceBEq, isLd]
  have hX0 := hM.withg (n := n) (q := fun _ => 0) hbg (Sub.put hbg _) (put_same _ _ _)
  have hg1 : G1 bg = none := hM.sub.none hbg
  clear hM
  generalize put G2 bg ⟨fcells n fun _ => 0, true⟩ = G3 at hX0 ⊢
  generalize hL : lapK N.edges N.edges.length = L at *
  have hfix : ∀ i, i < fixed.length → ∃ u : Nat, fixed.getD i 0 = u ∧ u < n := fun i hi => by
    have := hset.1 i hi
    exact ⟨(fixed.getD i 0).toNat, by omega, by omega⟩
  refine gLoop_intro (fun m T G' => ∃ (i : Nat) (f : Int → Int → Int) (q : Int → Int), T 1 = .int .i64 p ∧ T 2 = .slice B fixed.length d ∧ T 3 = .slice D values.length e ∧ T 4 = .pointer (some ⟨b1, 0, none⟩) ∧ T 10 = .slice (some ⟨bO, 0, none⟩) n cb ∧ T 11 = .slice (some ⟨bg, 0, none⟩) n n ∧ T 12 = .int .i64 i ∧ m + i = fixed.length ∧ i ≤ fixed.length ∧
      Mr (put G1 bg ⟨fcells n q, true⟩) G' bO Bm cp n n rs ro f ∧ (∀ x, x < i → ∀ b : Nat, b < n → f (fixed.getD x 0) b = if fixed.getD x 0 = b then 1 else 0) ∧ (∀ a b : Nat, a < n → b < n → (∀ x, x < i → fixed.getD x 0 ≠ a) → f a b = L a b) ∧
      (∀ x, x < i → q (fixed.getD x 0) = values.getD x 0) ∧ (∀ a : Nat, a < n → (∀ x, x < i → fixed.getD x 0 ≠ a) → q a = 0)) fixed.length
    ⟨0, L, fun _ => 0, by simp (maxSteps := 300000) (disch := omega) only [gs, gs2, gs3, gs4, ↓reduceIte, Nat.reduceEqDiff, Int.reduceToNat, Nat.reduceMul, Nat.reduceAdd, Nat.reduceBEq, isLd], by simp (maxSteps := 300000) (disch := omega) only [gs, gs2, gs3, gs4, ↓reduceIte, Nat.reduceEqDiff, Int.reduceToNat, Nat.reduceMul, Nat.reduceAdd, Nat.reduceBEq, isLd], by simp (maxSteps := 300000) (disch := omega) only [gs, gs2, gs3, gs4, ↓reduceIte, Nat.reduceEqDiff, Int.reduceToNat, Nat.reduceMul, Nat.reduceAdd, Nat.reduceBEq, isLd], by simp (maxSteps := 300000) (disch := omega) only [gs, gs2, gs3, gs4, ↓reduceIte, Nat.reduceEqDiff, Int.reduceToNat, Nat.reduceMul, Nat.reduceAdd, Nat.reduceBEq, isLd], by simp (maxSteps := 300000) (disch := omega) only [gs, gs2, gs3, gs4, ↓reduceIte, Nat.reduceEqDiff, Int.reduceToNat, Nat.reduceMul, Nat.reduceAdd, Nat.reduceBEq, isLd], by simp (maxSteps := 300000) (disch := omega) only [gs, gs2, gs3, gs4, ↓reduceIte, Nat.reduceEqDiff, Int.reduceToNat, Nat.reduceMul, Nat.reduceAdd, Nat.reduceBEq, isLd], by simp (maxSteps := 300000) (disch := omega) only [gs, gs2, gs3, gs4, ↓reduceIte, Nat.reduceEqDiff, Int.reduceToNat, Nat.reduceMul, Nat.reduceAdd, Nat.reduceBEq, isLd] <;> rfl, by omega, by omega, hX0, fun x hx => by omega, fun a b _ _ _ => rfl, fun x hx => by omega, fun a _ _ => rfl⟩ ?_
  clear hX0
  rintro m T G' ⟨i, f, q, e1, e2, e3, e4, e10, e11, e12, hm, hi, hX, p1, p2, p3, p4⟩
  simp (maxSteps := 300000) (disch := omega) only [gs, gs2, gs3, gs4, ↓reduceIte, Nat.reduceEqDiff, Int.reduceToNat, Nat.reduceMul, Nat.reduceAdd, Nat.reduceBEq, isLd, e1, e2, e3, e4, e10, e11, e12]
  have sG1 : Sub G1 G' := (Sub.put hg1 _).trans hX.sub
  by_cases hii : (i : Int) < fixed.length
  · obtain ⟨u, hu, hun⟩ := hfix i (by omega)
    simp (maxSteps := 300000) (disch := omega) only [gs, gs2, gs3, gs4, ↓reduceIte, Nat.reduceEqDiff, Int.reduceToNat, Nat.reduceMul, Nat.reduceAdd, Nat.reduceBEq, isLd, e1, e2, e3, e4, e10, e11, e12, hii]
    refine gLoop_intro (fun m' T' G' => ∃ (k : Nat) (f' : Int → Int → Int), T' 1 = .int .i64 p ∧ T' 2 = .slice B fixed.length d ∧ T' 3 = .slice D values.length e ∧ T' 4 = .pointer (some ⟨b1, 0, none⟩) ∧ T' 10 = .slice (some ⟨bO, 0, none⟩) n cb ∧ T' 11 = .slice (some ⟨bg, 0, none⟩) n n ∧ T' 12 = .int .i64 i ∧ T' 13 = .int .i64 k ∧ m' + k = n ∧ k ≤ n ∧
        Mr (put G1 bg ⟨fcells n q, true⟩) G' bO Bm cp n n rs ro f' ∧ (∀ b : Nat, b < k → f' u b = 0) ∧ ∀ a b : Nat, a ≠ u → f' a b = f a b) n
      ⟨0, f, by simp (maxSteps := 300000) (disch := omega) only [gs, gs2, gs3, gs4, ↓reduceIte, Nat.reduceEqDiff, Int.reduceToNat, Nat.reduceMul, Nat.reduceAdd, Nat.reduceBEq, isLd, e1], by simp (maxSteps := 300000) (disch := omega) only [gs, gs2, gs3, gs4, ↓reduceIte, Nat.reduceEqDiff, Int.reduceToNat, Nat.reduceMul, Nat.reduceAdd, Nat.reduceBEq, isLd, e2], by simp (maxSteps := 300000) (disch := omega) only [gs, gs2, gs3, gs4, ↓reduceIte, Nat.reduceEqDiff, Int.reduceToNat, Nat.reduceMul, Nat.reduceAdd, Nat.reduceBEq, isLd, e3], by simp (maxSteps := 300000) (disch := omega) only [gs, gs2, gs3, gs4, ↓reduceIte, Nat.reduceEqDiff, Int.reduceToNat, Nat.reduceMul, Nat.reduceAdd, Nat.reduceBEq, isLd, e4], by simp (maxSteps := 300000) (disch := omega) only [gs, gs2, gs3, gs4, ↓reduceIte, Nat.reduceEqDiff, Int.reduceToNat, Nat.reduceMul, Nat.reduceAdd, Nat.reduceBEq, isLd, e10], by simp (maxSteps := 300000) (disch := omega) only [gs, gs2, gs3, gs4, ↓reduceIte, Nat.reduceEqDiff, Int.reduceToNat, Nat.reduceMul, Nat.reduceAdd, Nat.reduceBEq, isLd, e11], by simp (maxSteps := 300000) (disch := omega) only [gs, gs2, gs3, gs4, ↓reduceIte, Nat.reduceEqDiff, Int.reduceToNat, Nat.reduceMul, Nat.reduceAdd, Nat.reduceBEq, isLd, e12], by simp (maxSteps := 300000) (disch := omega) only [gs, gs2, gs3, gs4, ↓reduceIte, Nat.reduceEqDiff, Int.reduceToNat, Nat.reduceMul, Nat.reduceAdd, Nat.reduceBEq, isLd] <;> rfl, by omega, by omega, hX, fun b hb => by omega, fun a b _ => rfl⟩ ?_
    clear e1 e2 e3 e4 e10 e11 e12 hX sG1
    rintro m' T' G' ⟨k, f', e1, e2, e3, e4, e10, e11, e12, e13, hm', hkn, hX, r1, r2⟩
    have sG1 : Sub G1 G' := (Sub.put hg1 _).trans hX.sub
    have g0 := rd_sub sG1 f0n
    have hfx := ((hf.sub s1).sub sG1).rd i (by omega)
    rw [hu] at hfx
    have hsf := hf.sn (by omega)
    have hru := hX.get hun
    simp (maxSteps := 300000) (disch := omega) only [gs, gs2, gs3, gs4, ↓reduceIte, Nat.reduceEqDiff, Int.reduceToNat, Nat.reduceMul, Nat.reduceAdd, Nat.reduceBEq, isLd, e1, e2, e3, e4, e10, e11, e12, e13, g0]
    by_cases hkk : (k : Int) < n
    · simp (maxSteps := 300000) (disch := omega) only [gs, gs2, gs3, gs4, ↓reduceIte, Nat.reduceEqDiff, Int.reduceToNat, Nat.reduceMul, Nat.reduceAdd, Nat.reduceBEq, isLd, e1, e2, e3, e4, e10, e11, e12, e13, hkk, hfx, hru]
      refine hX.st hun (j := k) (by omega) fun G4 hX4 => ?_
      simp (maxSteps := 300000) (disch := omega) only [gs, gs2, gs3, gs4, ↓reduceIte, Nat.reduceEqDiff, Int.reduceToNat, Nat.reduceMul, Nat.reduceAdd, Nat.reduceBEq, isLd, e1, e2, e3, e4, e10, e11, e12, e13]
      refine ⟨m' - 1, by omega, G4, Sub.refl _, k + 1, _, rfl, by omega, by omega, hX4, fun b hb => ?_, fun a b ha => ?_⟩
      · unfold upd2
        by_cases eb : b = k
        · rw [if_pos ⟨rfl, by omega⟩]
        · rw [if_neg (by omega)]; exact r1 b (by omega)
      · unfold upd2
        rw [if_neg (by omega)]; exact r2 a b ha
    · simp (maxSteps := 300000) (disch := omega) only [gs, gs2, gs3, gs4, ↓reduceIte, Nat.reduceEqDiff, Int.reduceToNat, Nat.reduceMul, Nat.reduceAdd, Nat.reduceBEq, isLd, e1, e2, e3, e4, e10, e11, e12, e13, hkk, hfx, hru]
      have hkn' : n = k := by omega
      subst hkn'
      refine hX.st hun (j := u) hun fun G5 hX5 => ?_
      have sG5 : Sub G1 G5 := (Sub.put hg1 _).trans hX5.sub
      have hfx5 := ((hf.sub s1).sub sG5).rd i (by omega)
      rw [hu] at hfx5
      have hvx := ((hv.sub s1).sub sG5).rd i (by omega)
      have hsv := hv.sn (by omega)
      simp (maxSteps := 300000) (disch := omega) only [gs, gs2, gs3, gs4, ↓reduceIte, Nat.reduceEqDiff, Int.reduceToNat, Nat.reduceMul, Nat.reduceAdd, Nat.reduceBEq, isLd, e1, e2, e3, e4, e10, e11, e12, e13, hfx5, hvx]
      refine hX5.stg (j := u) hun fun G6 hX6 => ?_
      simp (maxSteps := 300000) (disch := omega) only [gs, gs2, gs3, gs4, ↓reduceIte, Nat.reduceEqDiff, Int.reduceToNat, Nat.reduceMul, Nat.reduceAdd, Nat.reduceBEq, isLd, e1, e2, e3, e4, e10, e11, e12, e13]
      have hdis : ∀ x, x < i → ∃ y : Nat, fixed.getD x 0 = y ∧ y < n ∧ y ≠ u := fun x hx => by
        obtain ⟨y, hy, hyn⟩ := hfix x (by omega)
        have := rise_mono hset.2 hx (show i < fixed.length by omega)
        exact ⟨y, hy, hyn, by omega⟩
      refine ⟨m - 1, by omega, G6, Sub.refl _, i + 1, _, _, rfl, by omega, by omega, hX6, fun x hx b hb => ?_, fun a b ha hb hx => ?_, fun x hx => ?_, fun a ha hx => ?_⟩
      · by_cases ex : x = i
        · subst ex
          rw [hu]
          unfold upd2
          by_cases eb : b = u
          · subst eb; rw [if_pos ⟨rfl, rfl⟩, if_pos rfl]
          · rw [if_neg (by omega), if_neg (by omega)]; exact r1 b hb
        · obtain ⟨y, hy, hyn, hyu⟩ := hdis x (by omega)
          have := p1 x (by omega) b hb
          rw [hy] at this ⊢
          unfold upd2
          rw [if_neg (by omega), r2 y b hyu]; exact this
      · have hau : a ≠ u := fun e => hx i (by omega) (by rw [hu, e])
        unfold upd2
        rw [if_neg (by omega), r2 a b hau]
        exact p2 a b ha hb fun x hx' => hx x (by omega)
      · by_cases ex : x = i
        · subst ex
          rw [hu]; unfold updAt; rw [if_pos rfl]
        · obtain ⟨y, hy, hyn, hyu⟩ := hdis x (by omega)
          have := p3 x (by omega)
          rw [hy] at this ⊢
          unfold updAt; rw [if_neg (by omega)]; exact this
      · have hau : a ≠ u := fun e => hx i (by omega) (by rw [hu, e])
        unfold updAt
        rw [if_neg (by omega)]
        exact p4 a ha fun x hx' => hx x (by omega)
  · have hil : i = fixed.length := by omega
    subst hil
    have g0 := rd_sub sG1 f0n
    have hb : bldV [Value.int IntKind.i64 0, Value.int IntKind.i64 0, Value.int IntKind.i64 0, Value.slice none 0 0] [(0, 1, Value.int IntKind.i64 p), (1, 1, Value.int IntKind.i64 n), (2, 1, Value.int IntKind.i64 n)] = some (matC p n n none 0 0) := rfl
    simp (maxSteps := 300000) (disch := omega) only [gs, gs2, gs3, gs4, ↓reduceIte, Nat.reduceEqDiff, Int.reduceToNat, Nat.reduceMul, Nat.reduceAdd, Nat.reduceBEq, isLd, e1, e2, e3, e4, e10, e11, e12, hii, g0, hb]
    intro b14 hb14
    simp (maxSteps := 300000) (disch := omega) only [gs, gs2, gs3, gs4, ↓reduceIte, Nat.reduceEqDiff, Int.reduceToNat, Nat.reduceMul, Nat.reduceAdd, Nat.reduceBEq, isLd]
    refine st_many (vs := matC p n n none 0 0) rfl (put_same _ _ _) rfl (by simp) (by intro v hv; simp [matC] at hv; rcases hv with rfl | rfl | rfl | rfl <;> rfl) ?_
    rw [put_put']
    simp (maxSteps := 300000) (disch := omega) only [gs, gs2, gs3, gs4, ↓reduceIte, Nat.reduceEqDiff, Int.reduceToNat, Nat.reduceMul, Nat.reduceAdd, Nat.reduceBEq, isLd, over, matC]
    obtain ⟨F, hF⟩ : ∃ F, F = harF N p fixed values := ⟨_, rfl⟩
    have hFr : Rng F p := by rw [hF]; exact harF_rng hp fixed hvb
    have hmx : ∀ a : Nat, (a : Int) ∈ fixed → ∃ x, x < fixed.length ∧ fixed.getD x 0 = a ∧ fixed.idxOf (a : Int) = x := fun a hm => by
      obtain ⟨x, hx, hxa⟩ := List.mem_iff_getElem.1 hm
      have hg : fixed.getD x 0 = a := by simp [List.getD, hx, hxa]
      exact ⟨x, hx, hg, by rw [← hg]; exact idxOf_rise hset.2 hx⟩
    have hnx : ∀ a : Nat, ¬ (a : Int) ∈ fixed → ∀ x, x < fixed.length → fixed.getD x 0 ≠ a := fun a hm x hx e => hm (by rw [← e]; simp [List.getD, hx])
    have hFf : ∀ a b : Nat, a < n → b < n → f a b % p = F a b := fun a b ha hb' => by
      rw [hF]; unfold harF
      by_cases hm' : (a : Int) ∈ fixed
      · obtain ⟨x, hx, hxa, _⟩ := hmx a hm'
        have := p1 x hx b hb'
        rw [hxa] at this
        rw [if_pos hm', if_neg (by omega), this]
        by_cases e : (a : Int) = b
        · rw [if_pos e, if_pos e.symm]; exact Int.emod_eq_of_lt (by omega) (by omega)
        · rw [if_neg e, if_neg fun x => e x.symm]; exact Int.zero_emod _
      · rw [if_neg hm', if_neg (by omega), hL, p2 a b ha hb' (hnx a hm')]
    have hFq : ∀ a : Nat, a < n → q a = F a n := fun a ha => by
      rw [hF]; unfold harF
      by_cases hm' : (a : Int) ∈ fixed
      · obtain ⟨x, hx, hxa, hxi⟩ := hmx a hm'
        have := p3 x hx
        rw [hxa] at this
        rw [if_pos hm', if_pos (by omega), hxi, this]
      · rw [if_neg hm', if_pos (by omega), p4 a ha (hnx a hm')]
    rw [← hF] at hk
    clear hF hmx hnx p1 p2 p3 p4
    refine gLoop_intro (fun m T G9 => ∃ (i : Nat) (Z : Option Addr) (cz : Nat), T 1 = .int .i64 p ∧ T 4 = .pointer (some ⟨b1, 0, none⟩) ∧ T 10 = .slice (some ⟨bO, 0, none⟩) n cb ∧ T 11 = .slice (some ⟨bg, 0, none⟩) n n ∧ T 14 = .pointer (some ⟨b14, 0, none⟩) ∧ T 15 = .int .i64 i ∧ m + i = n ∧ i ≤ n ∧
        Sub (put G' b14 ⟨matC p n n Z (i * n) cz, true⟩) G9 ∧ Off (put G' b14 ⟨matC p n n Z (i * n) cz, true⟩) Z ∧ Own G9 Z cz ((flatL i n (fun a b => f a b % p)).map I64) 1 (i * n)) n
      ⟨0, none, 0, by simp (maxSteps := 300000) (disch := omega) only [gs, gs2, gs3, gs4, ↓reduceIte, Nat.reduceEqDiff, Int.reduceToNat, Nat.reduceMul, Nat.reduceAdd, Nat.reduceBEq, isLd, e1], by simp (maxSteps := 300000) (disch := omega) only [gs, gs2, gs3, gs4, ↓reduceIte, Nat.reduceEqDiff, Int.reduceToNat, Nat.reduceMul, Nat.reduceAdd, Nat.reduceBEq, isLd, e4], by simp (maxSteps := 300000) (disch := omega) only [gs, gs2, gs3, gs4, ↓reduceIte, Nat.reduceEqDiff, Int.reduceToNat, Nat.reduceMul, Nat.reduceAdd, Nat.reduceBEq, isLd, e10], by simp (maxSteps := 300000) (disch := omega) only [gs, gs2, gs3, gs4, ↓reduceIte, Nat.reduceEqDiff, Int.reduceToNat, Nat.reduceMul, Nat.reduceAdd, Nat.reduceBEq, isLd, e11], by simp (maxSteps := 300000) (disch := omega) only [gs, gs2, gs3, gs4, ↓reduceIte, Nat.reduceEqDiff, Int.reduceToNat, Nat.reduceMul, Nat.reduceAdd, Nat.reduceBEq, isLd], by simp (maxSteps := 300000) (disch := omega) only [gs, gs2, gs3, gs4, ↓reduceIte, Nat.reduceEqDiff, Int.reduceToNat, Nat.reduceMul, Nat.reduceAdd, Nat.reduceBEq, isLd] <;> rfl, by omega, by omega, by rw [Nat.zero_mul]; exact Sub.refl _, Off.nil _, by rw [Nat.zero_mul, flatL_zero]; exact Own.nil _ _⟩ ?_
    clear e1 e2 e3 e4 e10 e11 e12 hm hi
    have sB : ∀ {Z : Option Addr} {k cz : Nat} {G9 : GH}, Sub (put G' b14 ⟨matC p n n Z k cz, true⟩) G9 → Sub G' G9 := fun s => (Sub.put hb14 _).trans s
    rintro m T G9 ⟨i, Z, cz, e1, e4, e10, e11, e14, e15, hm, hi, hS, hO, hW⟩
    have q0 := rd_sub (sB hS) g0
    simp (maxSteps := 300000) (disch := omega) only [gs, gs2, gs3, gs4, ↓reduceIte, Nat.reduceEqDiff, Int.reduceToNat, Nat.reduceMul, Nat.reduceAdd, Nat.reduceBEq, isLd, e1, e4, e10, e11, e14, e15, q0]
    by_cases hin : (i : Int) < n
    · simp (maxSteps := 300000) (disch := omega) only [gs, gs2, gs3, gs4, ↓reduceIte, Nat.reduceEqDiff, Int.reduceToNat, Nat.reduceMul, Nat.reduceAdd, Nat.reduceBEq, isLd, e1, e4, e10, e11, e14, e15, q0, hin]
      refine gLoop_intro (fun m' T' G9 => ∃ (j : Nat) (Z : Option Addr) (cz : Nat), T' 1 = .int .i64 p ∧ T' 4 = .pointer (some ⟨b1, 0, none⟩) ∧ T' 10 = .slice (some ⟨bO, 0, none⟩) n cb ∧ T' 11 = .slice (some ⟨bg, 0, none⟩) n n ∧ T' 14 = .pointer (some ⟨b14, 0, none⟩) ∧ T' 15 = .int .i64 i ∧ T' 16 = .int .i64 j ∧ m' + j = n ∧ j ≤ n ∧
          Sub (put G' b14 ⟨matC p n n Z (i * n + j) cz, true⟩) G9 ∧ Off (put G' b14 ⟨matC p n n Z (i * n + j) cz, true⟩) Z ∧ Own G9 Z cz ((flatL i n (fun a b => f a b % p) ++ rowL j (fun b => f i b % p)).map I64) 1 (i * n + j)) n
        ⟨0, Z, cz, by simp (maxSteps := 300000) (disch := omega) only [gs, gs2, gs3, gs4, ↓reduceIte, Nat.reduceEqDiff, Int.reduceToNat, Nat.reduceMul, Nat.reduceAdd, Nat.reduceBEq, isLd, e1], by simp (maxSteps := 300000) (disch := omega) only [gs, gs2, gs3, gs4, ↓reduceIte, Nat.reduceEqDiff, Int.reduceToNat, Nat.reduceMul, Nat.reduceAdd, Nat.reduceBEq, isLd, e4], by simp (maxSteps := 300000) (disch := omega) only [gs, gs2, gs3, gs4, ↓reduceIte, Nat.reduceEqDiff, Int.reduceToNat, Nat.reduceMul, Nat.reduceAdd, Nat.reduceBEq, isLd, e10], by simp (maxSteps := 300000) (disch := omega) only [gs, gs2, gs3, gs4, ↓reduceIte, Nat.reduceEqDiff, Int.reduceToNat, Nat.reduceMul, Nat.reduceAdd, Nat.reduceBEq, isLd, e11], by simp (maxSteps := 300000) (disch := omega) only [gs, gs2, gs3, gs4, ↓reduceIte, Nat.reduceEqDiff, Int.reduceToNat, Nat.reduceMul, Nat.reduceAdd, Nat.reduceBEq, isLd, e14], by simp (maxSteps := 300000) (disch := omega) only [gs, gs2, gs3, gs4, ↓reduceIte, Nat.reduceEqDiff, Int.reduceToNat, Nat.reduceMul, Nat.reduceAdd, Nat.reduceBEq, isLd, e15], by simp (maxSteps := 300000) (disch := omega) only [gs, gs2, gs3, gs4, ↓reduceIte, Nat.reduceEqDiff, Int.reduceToNat, Nat.reduceMul, Nat.reduceAdd, Nat.reduceBEq, isLd] <;> rfl, by omega, by omega, hS, hO, by rw [show rowL 0 (fun b => f i b % p) = [] from rfl, List.append_nil]; exact hW⟩ ?_
      clear e1 e4 e10 e11 e14 e15 hS hO hW Z cz q0 G9
      rintro m' T' G9 ⟨j, Z, cz, e1, e4, e10, e11, e14, e15, e16, hm', hj, hS, hO, hW⟩
      have q0 := rd_sub (sB hS) g0
      simp (maxSteps := 300000) (disch := omega) only [gs, gs2, gs3, gs4, ↓reduceIte, Nat.reduceEqDiff, Int.reduceToNat, Nat.reduceMul, Nat.reduceAdd, Nat.reduceBEq, isLd, e1, e4, e10, e11, e14, e15, e16, q0]
      by_cases hjj : (j : Int) < n
      · have r3 : rd G9 (some ⟨b14, 3, none⟩) = some (.slice Z (i * n + j) cz) := rd_sub hS (rd_box _ _ _ 3 _ rfl)
        have hrow := rd_sub (sB hS) (hX.get (i := i) (by omega))
        have hcell := rd_sub (sB hS) (hX.cell (i := i) (j := j) (by omega) (by omega))
        simp (maxSteps := 300000) (disch := omega) only [gs, gs2, gs3, gs4, ↓reduceIte, Nat.reduceEqDiff, Int.reduceToNat, Nat.reduceMul, Nat.reduceAdd, Nat.reduceBEq, isLd, e1, e4, e10, e11, e14, e15, e16, q0, hjj, r3, hrow, hcell]
        refine spec_l02Mod_ok ⟨by omega, by omega⟩ ?_
        have hin2 : i * n ≤ 12 * 12 := Nat.mul_le_mul (by omega) (by omega)
        simp (maxSteps := 300000) (disch := omega) only [gs, gs2, gs3, gs4, ↓reduceIte, Nat.reduceEqDiff, Int.reduceToNat, Nat.reduceMul, Nat.reduceAdd, Nat.reduceBEq, isLd, e1, e4, e10, e11, e14, e15, e16, r3, hrow, hcell, gBs]
        refine ⟨by intro v hv; simp at hv; subst hv; rfl, fun b15 hb15 => ?_⟩
        have s15 := Sub.put hb15 ⟨[.int .i64 (f i j % p)], true⟩
        refine ⟨⟨rd_sub s15 hcell, rd_sub s15 hrow, rd_sub s15 r3⟩, ?_⟩
        refine ap_own (hW.sub s15) (news := [I64 (f i j % p)]) (m := 1) (cells_one _ true) rfl (by intro v hv; simp at hv; subst hv; rfl) rfl (by omega) (by omega) (by omega) fun G3 A3 c3' hW3 keep => ?_
        obtain ⟨hS3, hO3⟩ := keep _ (hS.trans s15) hO
        have hrow3 := rd_sub (sB hS3) (hX.get (i := i) (by omega))
        have hcell3 := rd_sub (sB hS3) (hX.cell (i := i) (j := j) (by omega) (by omega))
        simp (maxSteps := 300000) (disch := omega) only [gs, gs2, gs3, gs4, ↓reduceIte, Nat.reduceEqDiff, Int.reduceToNat, Nat.reduceMul, Nat.reduceAdd, Nat.reduceBEq, isLd, e1, e4, e10, e11, e14, e15, e16, hrow3, hcell3]
        refine st_src (hS3 _ _ (put_same _ _ _)) rfl (by simp [matC]) fun G4 k4 g4 => ?_
        simp (maxSteps := 300000) (disch := omega) only [gs, gs2, gs3, gs4, ↓reduceIte, Nat.reduceEqDiff, Int.reduceToNat, Nat.reduceMul, Nat.reduceAdd, Nat.reduceBEq, isLd, e1, e4, e10, e11, e14, e15, e16]
        refine ⟨m' - 1, by omega, G4, Sub.refl _, j + 1, A3, c3', rfl, by omega, by omega, hS3.swap k4 g4, hO3.put, ?_⟩
        rw [rowL_succ, ← List.append_assoc, List.map_append]
        exact hW3.keep k4 hO3.pne
      · simp (maxSteps := 300000) (disch := omega) only [gs, gs2, gs3, gs4, ↓reduceIte, Nat.reduceEqDiff, Int.reduceToNat, Nat.reduceMul, Nat.reduceAdd, Nat.reduceBEq, isLd, e1, e4, e10, e11, e14, e15, e16, q0, hjj]
        obtain rfl : j = n := by omega
        refine ⟨m - 1, by omega, G9, Sub.refl _, i + 1, Z, cz, rfl, by omega, by omega, ?_⟩
        rw [flatL_succ, Nat.add_mul, Nat.one_mul]
        exact ⟨hS, hO, hW⟩
    · simp (maxSteps := 300000) (disch := omega) only [gs, gs2, gs3, gs4, ↓reduceIte, Nat.reduceEqDiff, Int.reduceToNat, Nat.reduceMul, Nat.reduceAdd, Nat.reduceBEq, isLd, e1, e4, e10, e11, e14, e15, q0, hin]
      obtain rfl : n = i := by omega
      have hM : MatB G9 b14 p n n Z (n * n) cz := (MatB.box G' b14 p n n Z (n * n) cz).sub hS
      have hI : IntS G9 Z cz (flatL n n F) := by rw [← flatL_cong (f := fun a b => f a b % p) hFf]; exact hW.ints' (by rw [flatL_len])
      have hbg9 : G9 bg = some ⟨fcells n (fun j => F j n), true⟩ := by
        rw [← fcells_conN (f := q) hFq]; exact sB hS _ _ (hX.sub _ _ (put_same _ _ _))
      have hbs : IntS G9 (some ⟨bg, 0, none⟩) n (rowL n (fun j => F j n)) := ⟨by rw [rowL_len]; exact Nat.le_refl _, fun j hj => by
        rw [rowL_len] at hj
        rw [pa_mk, Nat.zero_add, rowL_get _ hj]
        have := rd_fcells hbg9 (v := (j : Int)) (by omega) (by omega)
        rwa [Int.toNat_natCast] at this⟩
      have sg : Sub G G9 := (s1.trans sG1).trans (sB hS)
      have hpp : 1 < p ∧ p ≤ 251 := ⟨by omega, by omega⟩
      have hn8 : 0 < n ∧ n < 2 ^ 8 := ⟨by omega, by omega⟩
      have hn9 : 0 < n ∧ n ≤ 2 ^ 10 := ⟨by omega, by omega⟩
      have hpl := elF_len p n F n
      have hpv := elF_piv p n F n
      refine spec_l03Solve_ok hM hI hbs hn8 hFr hpp ?_ ?_
      · intro hin
        have hne : (elF p n F n).piv.length ≠ n := fun x => by
          rw [(el_full x).2] at hin
          obtain ⟨m', hm', hx⟩ := List.mem_iff_getElem.1 hin
          have := hpv m' hm'
          simp [List.getD, hm', hx] at this
        rw [if_neg hne] at hk
        simp (maxSteps := 300000) (disch := omega) only [gs, gs2, gs3, gs4, ↓reduceIte, Nat.reduceEqDiff, Int.reduceToNat, Nat.reduceMul, Nat.reduceAdd, Nat.reduceBEq, isLd, q0, e4]
        exact ⟨G, sg, LI.nil rfl hk⟩
      · intro hin G10 bx s10 hbx hxb
        have q10 := rd_sub s10 q0
        simp (maxSteps := 300000) (disch := omega) only [gs, gs2, gs3, gs4, ↓reduceIte, Nat.reduceEqDiff, Int.reduceToNat, Nat.reduceMul, Nat.reduceAdd, Nat.reduceBEq, isLd, q10, e4, e14]
        refine spec_l03Rank_ok (hM.sub s10) (hI.sub s10) hn9 hFr hpp ?_
        by_cases hrk : (elF p n F n).piv.length = n
        rotate_left
        · rw [if_neg hrk] at hk
          have lr : (((elF p n F n).piv.length : Int) < (n : Int)) = True := eq_true (by omega)
          simp (maxSteps := 300000) (disch := omega) only [gs, gs2, gs3, gs4, ↓reduceIte, Nat.reduceEqDiff, Int.reduceToNat, Nat.reduceMul, Nat.reduceAdd, Nat.reduceBEq, isLd, q10, e4, e14, lr]
          exact ⟨G, sg.trans s10, LI.nil rfl hk⟩
        · rw [if_pos hrk] at hk
          have lr : (((elF p n F n).piv.length : Int) < (n : Int)) = False := eq_false (by omega)
          simp (maxSteps := 300000) (disch := omega) only [gs, gs2, gs3, gs4, ↓reduceIte, Nat.reduceEqDiff, Int.reduceToNat, Nat.reduceMul, Nat.reduceAdd, Nat.reduceBEq, isLd, q10, e4, e14, lr]
          have hpa := piv_all (elF_unc hpp.1 hp.inv hFr (R := n) n) hrk
          have hcx : fcells n (solX (elF p n F (n + 1)) n (elF p n F (n + 1)).piv.length) = (((List.range n).map fun j : Nat => (elF p n F n).f j n).map I64) := by
            rw [(el_full hrk).2, hrk, List.map_map]
            unfold fcells
            refine List.map_congr_left fun j hj => ?_
            have hj := List.mem_range.1 hj
            rw [solX_all (S := elF p n F (n + 1)) (n := n) (fun m hm => by rw [(el_full hrk).2]; exact hpa m hm) n (Nat.le_refl _) j hj, (el_full hrk).1]
            rfl
          rw [hcx] at hxb
          have hIx : IntS G10 (some ⟨bx, 0, none⟩) n ((List.range n).map fun j : Nat => (elF p n F n).f j n) := by
            have := blk_ints hxb
            rw [show ((List.range n).map fun j : Nat => (elF p n F n).f j n).length = n by simp] at this
            exact this
          have hlen : ((List.range n).map fun j : Nat => (elF p n F n).f j n).length = n := by simp
          have hown := fun K => spec_l00Own_ok hIx (by rw [hlen]; omega) (K := K)
          rw [hlen] at hown
          refine hown _ fun G11 A11 c11 hN => ?_
          simp (maxSteps := 300000) (disch := omega) only [gs, gs2, gs3, gs4, ↓reduceIte, Nat.reduceEqDiff, Int.reduceToNat, Nat.reduceMul, Nat.reduceAdd, Nat.reduceBEq, isLd]
          obtain ⟨G12, s12, hN12⟩ := hN.low (sg.trans s10)
          have hK := hk G12 A11 c11 (hN12.cast rfl hlen.symm)
          dsimp only at hK
          rw [hlen] at hK
          exact ⟨G12, s12, hK⟩

end Go.Proofs.Ytmlkgpoakkgjbaa.Gh
