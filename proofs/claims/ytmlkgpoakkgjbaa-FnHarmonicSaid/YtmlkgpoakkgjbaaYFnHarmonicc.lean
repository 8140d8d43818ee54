/- What the functions that the law FnHarmonic reaches return, and the law; it stands under no condition. -/
import Derived.Test.YtmlkgpoakkgjbaaYFnHarmonicb
namespace Go.Proofs.Ytmlkgpoakkgjbaa.Gh
open Go Go.RowKit Go.Proofs
set_option linter.unusedVariables false
set_option linter.unusedSimpArgs false
set_option maxHeartbeats 4000000

/-- a row is written. -/
theorem Rw.st {H G : GH} {b : Nat} {A : Nat → Option Addr} {c : Nat → Nat} {R C : Nat} {f : Int → Int → Int} {rest : List Value} {Z : Option Addr} (h : Rw H G b A c R C f rest Z) {i : Nat} (hi : i < R) (hbz : ∀ a, Z = some a → a.block ≠ b) {A' : Option Addr} {c' : Nat} {g : Int → Int} (hg : IntS (Gh.del (wo G Z) b) A' c' (rowL C g)) {K : Value → GH → Prop}
    (hk : ∀ G', Rw H G' b (fun k => if k = i then A' else A k) (fun k => if k = i then c' else c k) R C (setr f i g) rest Z → Gh.del G' b = Gh.del G b → Gh.del (wo G' Z) b = Gh.del (wo G Z) b → K undef G') : gSt 1 (.pointer (some ⟨b, i, none⟩)) (.slice A' C c') G K := by
  refine st_src h.blk rfl (by rw [List.length_append, rowsC_len]; omega) fun G' hK hb => ?_
  have hd : Gh.del G' b = Gh.del G b := by
    funext x
    unfold Gh.del
    by_cases e : x = b
    · rw [if_pos e, if_pos e]
    · rw [if_neg e, if_neg e, hK x e]
  have hd2 : Gh.del (wo G' Z) b = Gh.del (wo G Z) b := by
    funext x
    unfold Gh.del wo
    by_cases e : x = b
    · rw [if_pos e, if_pos e]
    · rw [if_neg e, if_neg e, hK x e]
  refine hk G' ⟨sub_keep hK h.nb h.sub, h.nb, ?_, fun k hk' => ?_⟩ hd hd2
  · rw [hb, List.set_append_left _ _ (by rw [rowsC_len]; exact hi), rowsC_set]
  · rw [hd2]
    by_cases e : k = i
    · subst e
      simp only [if_true]
      have : setr f k g k = g := by unfold setr; rw [if_pos rfl]
      rw [this]; exact hg
    · simp only [if_neg e]
      have : setr f i g k = f k := by unfold setr; rw [if_neg (by omega)]
      rw [this]; exact h.row k hk'
/-- the list at Z grows. -/
theorem Rw.rez {H G : GH} {b : Nat} {A : Nat → Option Addr} {c : Nat → Nat} {R C : Nat} {f : Int → Int → Int} {rest : List Value} {Z : Option Addr} {G' : GH} {Z' : Option Addr} (h : Rw H G b A c R C f rest Z) (hbz : ∀ a, Z = some a → a.block ≠ b) (oH : Off H Z) (s : Sub (wo G Z) G') (o : Off (wo G Z) Z') : Rw H G' b A c R C f rest Z' ∧ Off H Z' ∧ ∀ a, Z' = some a → a.block ≠ b := by
  have hwb : wo G Z b = some ⟨rowsC A c R C ++ rest, true⟩ := by rw [wo_ne hbz]; exact h.blk
  have s0 : Sub H (wo G Z) := fun x e hx => by
    rw [wo_ne fun a ha e' => by have := oH a ha; rw [e', hx] at this; cases this]
    exact h.sub _ _ hx
  have s1 : Sub (wo G Z) (wo G' Z') := fun x e hx => by
    rw [wo_ne fun a ha e' => by have := o a ha; rw [e', hx] at this; cases this]
    exact s _ _ hx
  exact ⟨⟨s0.trans s, h.nb, s _ _ hwb, fun i hi => (h.row i hi).sub (s1.del2 b)⟩, o.mono s0, fun a ha e => by have := o a ha; rw [e, hwb] at this; cases this⟩
theorem red_eq {a p : Int} (hp : 0 < p) : (a.tmod p + p).tmod p = a % p := by
  have h1 := Int.mul_tdiv_add_tmod a p
  have h2 : -p < a.tmod p := by
    have := Int.lt_tmod_of_pos a hp; omega
  rw [Int.tmod_eq_emod_of_nonneg (by omega)]
  have e : a.tmod p + p = a + p * (1 - a.tdiv p) := by rw [Int.mul_sub, Int.mul_one]; omega
  rw [e, Int.add_mul_emod_self_left]
theorem red_bd {a p : Int} (hp : 0 < p) : -p < a.tmod p ∧ a.tmod p < p := ⟨Int.lt_tmod_of_pos a hp, Int.tmod_lt_of_pos a hp⟩
theorem impl_reduce_ok {a p : Int} (hp : 0 < p ∧ p ≤ 2 ^ 31) {G : GH} {K : Value → GH → Prop} (hk : K (.int .i64 (a % p)) G) : GC Try.prog 165 [.int .i64 a, .int .i64 p] G K := by
  refine c_impl_reduce_i (by simp) ?_
  have hb := red_bd (a := a) hp.1
  simp (maxSteps := 300000) (disch := omega) only [gs, gs2, gs3, gs4, ↓reduceIte, Nat.reduceEqDiff, Int.reduceToNat, Nat.reduceMul, Nat.reduceAdd, Nat.reduceBEq, isLd, bin_rem .i64 a p (by omega), fun x : Int => bin_rem .i64 x p (by omega)]
  rw [red_eq hp.1]; exact hk
theorem impl_powerOf_ok {a p : Int} {n : Nat} (ha : 0 ≤ a ∧ a ≤ 2 ^ 31) (hp : 1 < p ∧ p ≤ 2 ^ 31) (hn : n < 2 ^ 40) {G : GH} {K : Value → GH → Prop} (hk : K (.int .i64 (pw a p n)) G) : GC Try.prog 256 [.int .i64 a, .int .i64 n, .int .i64 p] G K := by
  refine c_impl_powerOf_i (by simp) ?_
  simp (maxSteps := 300000) (disch := omega) only [gs, gs2, gs3, gs4, ↓reduceIte, Nat.reduceEqDiff, Int.reduceToNat, Nat.reduceMul, Nat.reduceAdd, Nat.reduceBEq, isLd]
  refine gLoop_intro (fun m T G' => ∃ (k : Nat) (b acc : Int), T 0 = .int .i64 b ∧ T 1 = .int .i64 k ∧ T 2 = .int .i64 p ∧ T 7 = .int .i64 acc ∧ m = k ∧ k < 2 ^ 40 ∧ G = G' ∧ (0 ≤ b ∧ b ≤ 2 ^ 31) ∧ (0 ≤ acc ∧ acc < p) ∧ acc * pw b p k % p = pw a p n % p)
    n ⟨n, a, 1, by simp (maxSteps := 300000) (disch := omega) only [gs, gs2, gs3, gs4, ↓reduceIte, Nat.reduceEqDiff, Int.reduceToNat, Nat.reduceMul, Nat.reduceAdd, Nat.reduceBEq, isLd], by simp (maxSteps := 300000) (disch := omega) only [gs, gs2, gs3, gs4, ↓reduceIte, Nat.reduceEqDiff, Int.reduceToNat, Nat.reduceMul, Nat.reduceAdd, Nat.reduceBEq, isLd], by simp (maxSteps := 300000) (disch := omega) only [gs, gs2, gs3, gs4, ↓reduceIte, Nat.reduceEqDiff, Int.reduceToNat, Nat.reduceMul, Nat.reduceAdd, Nat.reduceBEq, isLd], by simp (maxSteps := 300000) (disch := omega) only [gs, gs2, gs3, gs4, ↓reduceIte, Nat.reduceEqDiff, Int.reduceToNat, Nat.reduceMul, Nat.reduceAdd, Nat.reduceBEq, isLd], rfl, hn, rfl, ha, by omega, by rw [Int.one_mul]⟩ ?_
  rintro k T G' ⟨_, b, acc, e0, e1, e2, e7, rfl, hk2, rfl, hb, hacc, he⟩
  simp (maxSteps := 300000) (disch := omega) only [gs, gs2, gs3, gs4, ↓reduceIte, Nat.reduceEqDiff, Int.reduceToNat, Nat.reduceMul, Nat.reduceAdd, Nat.reduceBEq, isLd, e0, e1, e2, e7]
  have hrem := fun x : Int => bin_rem .i64 x p (by omega)
  have hm1 := mulB (a := acc) (b := b) (A := 2 ^ 31) (B := 2 ^ 31) (by omega) (by omega)
  have hm2 := mulB (a := b) (b := b) (A := 2 ^ 31) (B := 2 ^ 31) (by omega) (by omega)
  have hn1 : 0 ≤ acc * b := Int.mul_nonneg hacc.1 hb.1
  have hn2 : 0 ≤ b * b := Int.mul_nonneg hb.1 hb.1
  have w1 := w64 (acc * b) (by omega) (by omega)
  have w2 := w64 (b * b) (by omega) (by omega)
  have r1 : (acc * b).tmod p = acc * b % p := Int.tmod_eq_emod_of_nonneg hn1
  have r2 : (b * b).tmod p = b * b % p := Int.tmod_eq_emod_of_nonneg hn2
  have q1 := Int.emod_nonneg (acc * b) (show p ≠ 0 by omega)
  have q2 := Int.emod_lt_of_pos (acc * b) (show 0 < p by omega)
  have q3 := Int.emod_nonneg (b * b) (show p ≠ 0 by omega)
  have q4 := Int.emod_lt_of_pos (b * b) (show 0 < p by omega)
  by_cases hk0 : (0 : Int) < k
  · have hh := pw_half acc b p k
    have d2 : ((k : Int)).tdiv 2 = ((k / 2 : Nat) : Int) := by rw [Int.tdiv_eq_ediv_of_nonneg (by omega)]; rfl
    have hq := w64 ((k / 2 : Nat) : Int) (by omega) (by omega)
    have hquo : binV .quo (.int .i64 (k : Int)) (.int .i64 2) = some (.int .i64 ((k / 2 : Nat) : Int)) := by
      rw [bin_quo _ _ _ (by omega), d2, hq]
    have hrem2 : binV .rem (.int .i64 (k : Int)) (.int .i64 2) = some (.int .i64 ((k % 2 : Nat) : Int)) := by
      rw [bin_rem _ _ _ (by omega), Int.tmod_eq_emod_of_nonneg (by omega)]; rfl
    simp (maxSteps := 300000) (disch := omega) only [gs, gs2, gs3, gs4, ↓reduceIte, Nat.reduceEqDiff, Int.reduceToNat, Nat.reduceMul, Nat.reduceAdd, Nat.reduceBEq, isLd, e0, e1, e2, e7, hk0, hrem2]
    by_cases ho : k % 2 = 1
    · rw [if_pos ho] at hh
      simp (maxSteps := 300000) (disch := omega) only [gs, gs2, gs3, gs4, ↓reduceIte, Nat.reduceEqDiff, Int.reduceToNat, Nat.reduceMul, Nat.reduceAdd, Nat.reduceBEq, isLd, e0, e1, e2, e7, show (((k % 2 : Nat) : Int) = 1) = True from eq_true (by omega), w1, w2, hrem, r1, r2, hquo]
      exact ⟨k / 2, by omega, G, Sub.refl _, k / 2, b * b % p, acc * b % p, rfl, rfl, rfl, rfl, by omega, rfl, ⟨by omega, by omega⟩, ⟨by omega, by omega⟩, hh.trans he⟩
    · rw [if_neg ho] at hh
      simp (maxSteps := 300000) (disch := omega) only [gs, gs2, gs3, gs4, ↓reduceIte, Nat.reduceEqDiff, Int.reduceToNat, Nat.reduceMul, Nat.reduceAdd, Nat.reduceBEq, isLd, e0, e1, e2, e7, show (((k % 2 : Nat) : Int) = 1) = False from eq_false (by omega), w1, w2, hrem, r1, r2, hquo]
      exact ⟨k / 2, by omega, G, Sub.refl _, k / 2, b * b % p, acc, rfl, rfl, rfl, rfl, by omega, rfl, ⟨by omega, by omega⟩, ⟨by omega, by omega⟩, hh.trans he⟩
  · simp (maxSteps := 300000) (disch := omega) only [gs, gs2, gs3, gs4, ↓reduceIte, Nat.reduceEqDiff, Int.reduceToNat, Nat.reduceMul, Nat.reduceAdd, Nat.reduceBEq, isLd, e0, e1, e2, e7, hk0]
    obtain rfl : k = 0 := by omega
    have hr := pw_rng (a := a) (p := p) hp.1 n
    have e : acc = pw a p n := by
      rw [show pw b p 0 = 1 from rfl, Int.mul_one, Int.emod_eq_of_lt hacc.1 hacc.2, Int.emod_eq_of_lt hr.1 hr.2] at he
      exact he
    rw [e]; exact hk
theorem impl_inverseOf_ok {a p : Int} (ha : 0 ≤ a ∧ a ≤ 2 ^ 31) (hp : 1 < p ∧ p ≤ 2 ^ 31) {G : GH} {K : Value → GH → Prop} (hk : K (.int .i64 (invF a p)) G) : GC Try.prog 236 [.int .i64 a, .int .i64 p] G K := by
  refine c_impl_inverseOf_i (by simp) ?_
  simp (maxSteps := 300000) (disch := omega) only [gs, gs2, gs3, gs4, ↓reduceIte, Nat.reduceEqDiff, Int.reduceToNat, Nat.reduceMul, Nat.reduceAdd, Nat.reduceBEq, isLd]
  have e : p - 2 = ((p - 2).toNat : Int) := by omega
  rw [e]
  refine impl_powerOf_ok ha hp (by omega) ?_
  simp (maxSteps := 300000) (disch := omega) only [gs, gs2, gs3, gs4, ↓reduceIte, Nat.reduceEqDiff, Int.reduceToNat, Nat.reduceMul, Nat.reduceAdd, Nat.reduceBEq, isLd]
  exact hk
theorem impl_addTimes_ok {G : GH} {A B : Option Addr} {ca cb C : Nat} {f g : Int → Int} {k p : Int} (h : IntS G A ca (rowL C f)) (h' : IntS G B cb (rowL C g)) (hp : 1 < p ∧ p ≤ 2 ^ 30) (hk0 : 0 ≤ k ∧ k ≤ p) (hf : ∀ j : Nat, j < C → 0 ≤ f j ∧ f j < p) (hg : ∀ j : Nat, j < C → 0 ≤ g j ∧ g j < p) (hC : C < 2 ^ 20) {K : Value → GH → Prop}
    (hk : ∀ G' A' c', New G G' A' c' ((rowL C fun j => (f j + k * g j) % p).map I64) 1 C → K (.slice A' C c') G') : GC Try.prog 255 [.slice A C ca, .slice B C cb, .int .i64 k, .int .i64 p] G K := by
  refine c_impl_addTimes_i (by simp) ?_
  simp (maxSteps := 300000) (disch := omega) only [gs, gs2, gs3, gs4, ↓reduceIte, Nat.reduceEqDiff, Int.reduceToNat, Nat.reduceMul, Nat.reduceAdd, Nat.reduceBEq, isLd]
  refine gLoop_intro (fun m T G' => ∃ (j : Nat) (As : Option Addr) (cs : Nat), T 0 = .slice A C ca ∧ T 1 = .slice B C cb ∧ T 2 = .int .i64 k ∧ T 3 = .int .i64 p ∧ T 9 = .slice As j cs ∧ T 12 = .int .i64 C ∧ T 13 = .int .i64 j ∧ m + j = C ∧ j ≤ C ∧ New G G' As cs ((rowL j fun j => (f j + k * g j) % p).map I64) 1 j)
    C ⟨0, none, 0, by simp (maxSteps := 300000) (disch := omega) only [gs, gs2, gs3, gs4, ↓reduceIte, Nat.reduceEqDiff, Int.reduceToNat, Nat.reduceMul, Nat.reduceAdd, Nat.reduceBEq, isLd], by simp (maxSteps := 300000) (disch := omega) only [gs, gs2, gs3, gs4, ↓reduceIte, Nat.reduceEqDiff, Int.reduceToNat, Nat.reduceMul, Nat.reduceAdd, Nat.reduceBEq, isLd], by simp (maxSteps := 300000) (disch := omega) only [gs, gs2, gs3, gs4, ↓reduceIte, Nat.reduceEqDiff, Int.reduceToNat, Nat.reduceMul, Nat.reduceAdd, Nat.reduceBEq, isLd], by simp (maxSteps := 300000) (disch := omega) only [gs, gs2, gs3, gs4, ↓reduceIte, Nat.reduceEqDiff, Int.reduceToNat, Nat.reduceMul, Nat.reduceAdd, Nat.reduceBEq, isLd], by simp (maxSteps := 300000) (disch := omega) only [gs, gs2, gs3, gs4, ↓reduceIte, Nat.reduceEqDiff, Int.reduceToNat, Nat.reduceMul, Nat.reduceAdd, Nat.reduceBEq, isLd], by simp (maxSteps := 300000) (disch := omega) only [gs, gs2, gs3, gs4, ↓reduceIte, Nat.reduceEqDiff, Int.reduceToNat, Nat.reduceMul, Nat.reduceAdd, Nat.reduceBEq, isLd], by simp (maxSteps := 300000) (disch := omega) only [gs, gs2, gs3, gs4, ↓reduceIte, Nat.reduceEqDiff, Int.reduceToNat, Nat.reduceMul, Nat.reduceAdd, Nat.reduceBEq, isLd] <;> rfl, by omega, by omega, New.nil _ _⟩ ?_
  rintro m T G' ⟨j, As, cs, e0, e1, e2, e3, e9, e12, e13, hm, hj, hN⟩
  simp (maxSteps := 300000) (disch := omega) only [gs, gs2, gs3, gs4, ↓reduceIte, Nat.reduceEqDiff, Int.reduceToNat, Nat.reduceMul, Nat.reduceAdd, Nat.reduceBEq, isLd, e0, e1, e2, e3, e9, e12, e13]
  by_cases hjj : (j : Int) < C
  · have r1 := (h.sub hN.sub).rd j (by rw [rowL_len]; omega)
    have r2 := (h'.sub hN.sub).rd j (by rw [rowL_len]; omega)
    have sA := h.sn (by rw [rowL_len]; omega)
    have sB := h'.sn (by rw [rowL_len]; omega)
    rw [rowL_get _ (by omega)] at r1 r2
    have b1 := hf j (by omega)
    have b2 := hg j (by omega)
    have hmm := mulB (a := k) (b := g j) (A := 2 ^ 30) (B := 2 ^ 30) (by omega) (by omega)
    have hnn : 0 ≤ k * g j := Int.mul_nonneg hk0.1 b2.1
    have w1 := w64 (k * g j) (by omega) (by omega)
    have w2 := w64 (f j + k * g j) (by omega) (by omega)
    have hr : (f j + k * g j).tmod p = (f j + k * g j) % p := Int.tmod_eq_emod_of_nonneg (by omega)
    have q1 := Int.emod_nonneg (f j + k * g j) (show p ≠ 0 by omega)
    have hrem := fun x : Int => bin_rem .i64 x p (by omega)
    simp (maxSteps := 300000) (disch := omega) only [gs, gs2, gs3, gs4, ↓reduceIte, Nat.reduceEqDiff, Int.reduceToNat, Nat.reduceMul, Nat.reduceAdd, Nat.reduceBEq, isLd, e0, e1, e2, e3, e9, e12, e13, hjj, r1, r2, w1, w2, hrem, hr, gBs]
    refine ⟨by intro v hv; simp at hv; subst hv; rfl, fun b hb => ?_⟩
    refine ⟨⟨rd_sub (Sub.put hb _) r2, rd_sub (Sub.put hb _) r1⟩, ?_⟩
    refine ap_new hN (Sub.put hb _) (cells_one [.int .i64 ((f j + k * g j) % p)] true) (by rfl) (by intro v hv; simp at hv; subst hv; rfl) rfl (by omega) (by omega) (by omega) fun G'' A' c' hN' => ?_
    simp (maxSteps := 300000) (disch := omega) only [gs, gs2, gs3, gs4, ↓reduceIte, Nat.reduceEqDiff, Int.reduceToNat, Nat.reduceMul, Nat.reduceAdd, Nat.reduceBEq, isLd, e0, e1, e2, e3, e9, e12, e13]
    have r1' := (h.sub hN'.sub).rd j (by rw [rowL_len]; omega)
    have r2' := (h'.sub hN'.sub).rd j (by rw [rowL_len]; omega)
    rw [rowL_get _ (by omega)] at r1' r2'
    exact ⟨⟨r2', r1'⟩, m - 1, by omega, _, Sub.refl _, j + 1, A', c', rfl, rfl, by omega, by omega, hN'.cast (by rw [rowL_succ]; simp [I64]) rfl⟩
  · simp (maxSteps := 300000) (disch := omega) only [gs, gs2, gs3, gs4, ↓reduceIte, Nat.reduceEqDiff, Int.reduceToNat, Nat.reduceMul, Nat.reduceAdd, Nat.reduceBEq, isLd, e0, e1, e2, e3, e9, e12, e13, hjj]
    obtain rfl : j = C := by omega
    exact hk _ _ _ hN
theorem slices_IndexFuncS_ok {H G : GH} {b : Nat} {A : Nat → Option Addr} {c : Nat → Nat} {R C : Nat} {f : Int → Int → Int} {rest : List Value} {Z : Option Addr} {F : Value} {Y : Option Addr} {t d : Nat} {col : Int} (h : Rw H G b A c R C f rest Z) (hY : t < R → Y = some ⟨b, t, none⟩) (ht : t ≤ R) (hR : R < 2 ^ 20)
    (hF : ∀ i, i < R → ∀ K : Value → GH → Prop, K (.bool (decide (f i col ≠ 0))) G → gCl Try.prog F [.slice (A i) C (c i)] G K) {K : Value → GH → Prop}
    (h0 : (∀ j : Nat, t ≤ j → j < R → f j col = 0) → K (.int .i64 (-1)) G) (h1 : ∀ i : Nat, t ≤ i → i < R → f i col ≠ 0 → (∀ j : Nat, t ≤ j → j < i → f j col = 0) → K (.int .i64 ((i - t : Nat) : Int)) G) :
    GC Try.prog 253 [.slice Y (R - t) d, F] G K := by
  refine c_slices_IndexFunc_SS_int64_int64_i (by simp) ?_
  simp (maxSteps := 300000) (disch := omega) only [gs, gs2, gs3, gs4, ↓reduceIte, Nat.reduceEqDiff, Int.reduceToNat, Nat.reduceMul, Nat.reduceAdd, Nat.reduceBEq, isLd]
  refine gLoop_intro (fun m T G' => ∃ k : Nat, T 0 = .slice Y (R - t) d ∧ T 1 = F ∧ T 7 = .int .i64 ((R - t : Nat) : Int) ∧ T 8 = .int .i64 k ∧ m + k = R - t ∧ k ≤ R - t ∧ G = G' ∧ ∀ j : Nat, t ≤ j → j < t + k → f j col = 0)
    (R - t) ⟨0, by simp (maxSteps := 300000) (disch := omega) only [gs, gs2, gs3, gs4, ↓reduceIte, Nat.reduceEqDiff, Int.reduceToNat, Nat.reduceMul, Nat.reduceAdd, Nat.reduceBEq, isLd], by simp (maxSteps := 300000) (disch := omega) only [gs, gs2, gs3, gs4, ↓reduceIte, Nat.reduceEqDiff, Int.reduceToNat, Nat.reduceMul, Nat.reduceAdd, Nat.reduceBEq, isLd], by simp (maxSteps := 300000) (disch := omega) only [gs, gs2, gs3, gs4, ↓reduceIte, Nat.reduceEqDiff, Int.reduceToNat, Nat.reduceMul, Nat.reduceAdd, Nat.reduceBEq, isLd], by simp (maxSteps := 300000) (disch := omega) only [gs, gs2, gs3, gs4, ↓reduceIte, Nat.reduceEqDiff, Int.reduceToNat, Nat.reduceMul, Nat.reduceAdd, Nat.reduceBEq, isLd] <;> rfl, by omega, by omega, rfl, fun j h1 h2 => by omega⟩ ?_
  rintro m T G' ⟨k, e0, e1, e7, e8, hm, hk, rfl, hz⟩
  simp (maxSteps := 300000) (disch := omega) only [gs, gs2, gs3, gs4, ↓reduceIte, Nat.reduceEqDiff, Int.reduceToNat, Nat.reduceMul, Nat.reduceAdd, Nat.reduceBEq, isLd, e0, e1, e7, e8]
  by_cases hkk : (k : Int) < ((R - t : Nat) : Int)
  · have hr := h.get (i := t + k) (by omega)
    rw [hY (by omega)] at e0
    simp (maxSteps := 300000) (disch := omega) only [gs, gs2, gs3, gs4, ↓reduceIte, Nat.reduceEqDiff, Int.reduceToNat, Nat.reduceMul, Nat.reduceAdd, Nat.reduceBEq, isLd, e0, e1, e7, e8, hkk, hr]
    refine hF (t + k) (by omega) _ ?_
    by_cases g : f ((t + k : Nat) : Int) col = 0
    · rw [decide_eq_false (fun x => x g)]
      simp (maxSteps := 300000) (disch := omega) only [gs, gs2, gs3, gs4, ↓reduceIte, Nat.reduceEqDiff, Int.reduceToNat, Nat.reduceMul, Nat.reduceAdd, Nat.reduceBEq, isLd, e0, e1, e7, e8]
      exact ⟨m - 1, by omega, G, Sub.refl _, k + 1, by rw [hY (by omega)], rfl, by omega, by omega, rfl, fun j a1 a2 => by
        by_cases e : j = t + k
        · rw [e]; exact g
        · exact hz j a1 (by omega)⟩
    · rw [decide_eq_true g]
      simp (maxSteps := 300000) (disch := omega) only [gs, gs2, gs3, gs4, ↓reduceIte, Nat.reduceEqDiff, Int.reduceToNat, Nat.reduceMul, Nat.reduceAdd, Nat.reduceBEq, isLd, e0, e1, e7, e8]
      have := h1 (t + k) (by omega) (by omega) g (fun j a1 a2 => hz j a1 a2)
      rwa [show t + k - t = k by omega] at this
  · simp (maxSteps := 300000) (disch := omega) only [gs, gs2, gs3, gs4, ↓reduceIte, Nat.reduceEqDiff, Int.reduceToNat, Nat.reduceMul, Nat.reduceAdd, Nat.reduceBEq, isLd, e0, e1, e7, e8, hkk]
    exact h0 fun j a1 a2 => hz j a1 (by omega)
theorem setr_scl (f : Int → Int → Int) (t k p : Int) : scl f t k p = setr f t (fun j => (f t j * k) % p) := by
  funext i j; unfold scl setr; by_cases h : i = t
  · rw [if_pos h, if_pos h]
  · rw [if_neg h, if_neg h]
theorem sl_top {b R t cp : Nat} (ht : t ≤ R) (hR : R ≤ cp) : slV 1 (.slice (some ⟨b, 0, none⟩) R cp) (some (.int .i64 (t : Int))) none = some (if cp = t then .slice (some ⟨b, 0, none⟩) (R - t) (cp - t) else .slice (some ⟨b, t, none⟩) (R - t) (cp - t)) := by
  simp only [slV, onSl, bndV, onInt, Option.bind_some]
  rw [if_pos ⟨by omega, by omega⟩]
  simp only [Option.bind_some, Int.toNat_natCast]
  rw [if_pos ht]
  split <;> simp [pa_mk]
/-- some temporaries are as they were. -/
def SameE (T' T : Nat → Value) : Prop := ∀ t, t = 0 ∨ t = 1 ∨ t = 2 ∨ t = 8 ∨ t = 9 ∨ t = 10 ∨ t = 11 ∨ t = 16 ∨ t = 17 → T' t = T t
theorem SameE.upd {T' T : Nat → Value} (h : SameE T' T) {n : Nat} (v : Value) (hn : 17 < n ∨ n = 12 ∨ n = 13 ∨ n = 14 ∨ n = 15) : SameE (Gh.upd T' n v) T := fun t ht => by
  rw [upd_app, if_neg (by omega)]; exact h t ht
/-- the first rows are cleared. -/
def clrN (f : Int → Int → Int) (t k p : Int) (i : Nat) : Int → Int → Int := fun a => if a < i then clr f t k p a else f a
theorem clrN_t (f : Int → Int → Int) (t k p : Int) (i : Nat) : clrN f t k p i t = f t := by
  unfold clrN; split
  · funext j; unfold clr; rw [if_pos rfl]
  · rfl
theorem el_l0 {D G : GH} {b b10 cp t k : Nat} {A : Nat → Option Addr} {c : Nat → Nat} {R C : Nat} {h : Int → Int → Int} {rest : List Value} {Z : Option Addr} {p : Int} {T : Nat → Value} {Q : Cont} (hw : Rw D G b A c R C h rest Z) (hbz : ∀ a, Z = some a → a.block ≠ b) (hZ : ∀ a, Z = some a → ∃ e, D a.block = some e) (hR : R < 2 ^ 10) (hC : C < 2 ^ 10) (hr : Rng h p) (hp : 1 < p ∧ p ≤ 2 ^ 30)
    (ht : t < R) (hk : k < C) (k10 : rd D (some ⟨b10, 0, none⟩) = some (.int .i64 (k : Int)))
    (e0 : T 0 = .slice (some ⟨b, 0, none⟩) R cp) (e2 : T 2 = .int .i64 p) (e10 : T 10 = .pointer (some ⟨b10, 0, none⟩)) (e11 : T 11 = .int .i64 t) (e79 : T 79 = .slice (some ⟨b, 0, none⟩) R cp) (e80 : T 80 = .int .i64 R) (e81 : T 81 = .int .i64 0)
    (hQ : ∀ T' G' A' c', SameE T' T → Rw D G' b A' c' R C (clr h t k p) rest Z → Q (.ex 2) T' G') : gLoop (gW Try.prog c_impl_eliminate_l0) Q T G := by
  refine gLoop_intro (fun m T' G' => ∃ (i : Nat) (A' : Nat → Option Addr) (c' : Nat → Nat), T' 79 = .slice (some ⟨b, 0, none⟩) R cp ∧ T' 80 = .int .i64 R ∧ T' 81 = .int .i64 i ∧ m + i = R ∧ i ≤ R ∧ Rw D G' b A' c' R C (clrN h t k p i) rest Z ∧ SameE T' T)
    R ⟨0, A, c, e79, e80, e81, by omega, by omega, hw.cong fun i j hi hj => by unfold clrN; rw [if_neg (by omega)], fun _ _ => rfl⟩ ?_
  clear e79 e80 e81 hw
  rintro m T' G' ⟨i, A', c', e79, e80, e81, hm, hi, hw, hT⟩
  have e0 : T' 0 = .slice (some ⟨b, 0, none⟩) R cp := (hT 0 (by omega)).trans e0
  have e2 : T' 2 = .int .i64 p := (hT 2 (by omega)).trans e2
  have e10 : T' 10 = .pointer (some ⟨b10, 0, none⟩) := (hT 10 (by omega)).trans e10
  have e11 : T' 11 = .int .i64 t := (hT 11 (by omega)).trans e11
  have q10 := rd_sub hw.sub k10
  simp (maxSteps := 300000) (disch := omega) only [gs, gs2, gs3, gs4, ↓reduceIte, Nat.reduceEqDiff, Int.reduceToNat, Nat.reduceMul, Nat.reduceAdd, Nat.reduceBEq, isLd, e0, e2, e10, e11, e79, e80, e81]
  by_cases hii : (i : Int) < R
  rotate_left
  · simp (maxSteps := 300000) (disch := omega) only [gs, gs2, gs3, gs4, ↓reduceIte, Nat.reduceEqDiff, Int.reduceToNat, Nat.reduceMul, Nat.reduceAdd, Nat.reduceBEq, isLd, e0, e2, e10, e11, e79, e80, e81, hii]
    refine hQ _ _ A' c' ?_ (hw.cong fun a j ha hj => by unfold clrN; rw [if_pos (by omega)])
    repeat (first | exact hT | refine SameE.upd ?_ _ (by omega))
  have hgi := hw.get (i := i) (by omega)
  have hgt := hw.get ht
  have hci := hw.cell (i := i) (by omega) hk
  have hri : clrN h t k p i i = h i := by unfold clrN; rw [if_neg (by omega)]
  rw [hri] at hci
  have hsi := hw.sn (i := i) (by omega) (by omega)
  have hst := hw.sn ht (by omega)
  have hbi := hr i k
  simp (maxSteps := 300000) (disch := omega) only [gs, gs2, gs3, gs4, ↓reduceIte, Nat.reduceEqDiff, Int.reduceToNat, Nat.reduceMul, Nat.reduceAdd, Nat.reduceBEq, isLd, e0, e2, e10, e11, e79, e80, e81, hii, hgi]
  by_cases hit : i = t
  · subst hit
    simp (maxSteps := 300000) (disch := omega) only [gs, gs2, gs3, gs4, ↓reduceIte, Nat.reduceEqDiff, Int.reduceToNat, Nat.reduceMul, Nat.reduceAdd, Nat.reduceBEq, isLd, e0, e2, e10, e11, e79, e80, e81, hgi]
    refine ⟨m - 1, by omega, G', Sub.refl _, i + 1, A', c', rfl, by omega, by omega, hw.cong fun a j ha hj => ?_, ?_⟩
    · unfold clrN
      by_cases e : a = i
      · subst e
        rw [if_neg (by omega), if_pos (by omega)]; unfold clr; rw [if_pos rfl]
      · by_cases e2 : a < i
        · rw [if_pos (by omega), if_pos (by omega)]
        · rw [if_neg (by omega), if_neg (by omega)]
    · repeat (first | exact hT | refine SameE.upd ?_ _ (by omega))
  simp (maxSteps := 300000) (disch := omega) only [gs, gs2, gs3, gs4, ↓reduceIte, Nat.reduceEqDiff, Int.reduceToNat, Nat.reduceMul, Nat.reduceAdd, Nat.reduceBEq, isLd, e0, e2, e10, e11, e79, e80, e81, hgi, show ((i : Int) = t) = False from eq_false (by omega), q10, hci]
  by_cases hz : h i k = 0
  · simp (maxSteps := 300000) (disch := omega) only [gs, gs2, gs3, gs4, ↓reduceIte, Nat.reduceEqDiff, Int.reduceToNat, Nat.reduceMul, Nat.reduceAdd, Nat.reduceBEq, isLd, e0, e2, e10, e11, e79, e80, e81, eq_true hz]
    refine ⟨m - 1, by omega, G', Sub.refl _, i + 1, A', c', rfl, by omega, by omega, hw.cong fun a j ha hj => ?_, ?_⟩
    · unfold clrN
      by_cases e : a = i
      · subst e
        rw [if_neg (by omega), if_pos (by omega)]; unfold clr
        rw [if_neg (by omega), hz, Int.sub_zero, Int.add_mul_emod_self_left, Int.emod_eq_of_lt (hr a j).1 (hr a j).2]
      · by_cases e2 : a < i
        · rw [if_pos (by omega), if_pos (by omega)]
        · rw [if_neg (by omega), if_neg (by omega)]
    · repeat (first | exact hT | refine SameE.upd ?_ _ (by omega))
  simp (maxSteps := 300000) (disch := omega) only [gs, gs2, gs3, gs4, ↓reduceIte, Nat.reduceEqDiff, Int.reduceToNat, Nat.reduceMul, Nat.reduceAdd, Nat.reduceBEq, isLd, e0, e2, e10, e11, e79, e80, e81, eq_false hz, q10, hci, hgi, hgt]
  have hIi := hw.ints (i := i) (by omega)
  have hIt := hw.ints ht
  rw [hri] at hIi
  rw [clrN_t] at hIt
  refine impl_addTimes_ok (f := h i) (g := h t) hIi hIt hp ⟨by omega, by omega⟩ (fun j _ => hr i j) (fun j _ => hr t j) (by omega) fun G3 A3 c3 hN => ?_
  have hw3 := hw.up hN.sub
  have hrow := New.del (xs := rowL C fun j => (h i j + (p - h i k) * h t j) % p) (hN.cast rfl (rowL_len _ _).symm) hw.blk (Z := Z) (fun a ha => by obtain ⟨e, he⟩ := hZ a ha; exact ⟨e, hw.sub _ _ he⟩)
  simp (maxSteps := 300000) (disch := omega) only [gs, gs2, gs3, gs4, ↓reduceIte, Nat.reduceEqDiff, Int.reduceToNat, Nat.reduceMul, Nat.reduceAdd, Nat.reduceBEq, isLd, e0, e2, e10, e11, e79, e80, e81]
  refine ⟨⟨rd_sub hN.sub hci, rd_sub hN.sub q10⟩, ?_⟩
  refine hw3.st (by omega) hbz hrow fun G4 hw4 _ _ => ?_
  simp (maxSteps := 300000) (disch := omega) only [gs, gs2, gs3, gs4, ↓reduceIte, Nat.reduceEqDiff, Int.reduceToNat, Nat.reduceMul, Nat.reduceAdd, Nat.reduceBEq, isLd, e0, e2, e10, e11, e79, e80, e81]
  refine ⟨m - 1, by omega, G4, Sub.refl _, i + 1, _, _, rfl, by omega, by omega, hw4.cong fun a j ha hj => ?_, ?_⟩
  · unfold setr clrN
    by_cases e : a = i
    · subst e
      rw [if_pos rfl, if_pos (by omega)]; unfold clr
      rw [if_neg (by omega)]
    · rw [if_neg (by omega)]
      by_cases e2 : a < i
      · rw [if_pos (by omega), if_pos (by omega)]
      · rw [if_neg (by omega), if_neg (by omega)]
  · repeat (first | exact hT | refine SameE.upd ?_ _ (by omega))
abbrev elTail : GCode := .seq (.dreg c_impl_eliminate_13) (.seq (.reg c_impl_eliminate_14) (.seq (.dtree c_impl_eliminate_15) (.seq (.seq (.reg c_impl_eliminate_16) (.blk 2 (.loop c_impl_eliminate_l0))) (.reg c_impl_eliminate_23))))
theorem el_tail {H G : GH} {b b10 cp cq t k : Nat} {A : Nat → Option Addr} {c : Nat → Nat} {Ap : Option Addr} {R C : Nat} {g : Int → Int → Int} {rest : List Value} {p det : Int} {piv : List Int} {T : Nat → Value} {Q : Cont} (h : Rw H G b A c R C g rest Ap) (hR : R < 2 ^ 10) (hC : C < 2 ^ 10) (hr : Rng g p) (hp : 1 < p ∧ p ≤ 2 ^ 30)
    (ht : t < R) (hk : k < C) (hd : 0 ≤ det ∧ det < p) (hl : g t k ≠ 0) (k10 : rd (del G b) (some ⟨b10, 0, none⟩) = some (.int .i64 (k : Int))) (hO : Own G Ap cq (piv.map I64) 1 piv.length) (hOf : Off H Ap) (hda : ∀ a, Ap = some a → a.block ≠ b) (hpl : piv.length < 2 ^ 10)
    (e0 : T 0 = .slice (some ⟨b, 0, none⟩) R cp) (e1 : T 1 = .int .i64 C) (e2 : T 2 = .int .i64 p) (e8 : T 8 = .slice Ap piv.length cq) (e9 : T 9 = .int .i64 det) (e10 : T 10 = .pointer (some ⟨b10, 0, none⟩)) (e11 : T 11 = .int .i64 t) (e16 : T 16 = .int .i64 C) (e17 : T 17 = .int .i64 k)
    (hQ : ∀ T' G' A' c' Ap' cq', T' 0 = .slice (some ⟨b, 0, none⟩) R cp → T' 1 = .int .i64 C → T' 2 = .int .i64 p → T' 8 = .slice Ap' (piv.length + 1) cq' → T' 9 = .int .i64 (det * g t k % p) → T' 16 = .int .i64 C → T' 17 = .int .i64 k →
      Rw H G' b A' c' R C (clr (scl g t (invF (g t k) p) p) t k p) rest Ap' → Own G' Ap' cq' ((piv ++ [(k : Int)]).map I64) 1 (piv.length + 1) → Off H Ap' → (∀ a, Ap' = some a → a.block ≠ b) → Q .nrm T' G') : gW Try.prog elTail Q T G := by
  have q10 := rd_sub (Sub.del _ _) k10
  have hgt := h.get ht
  have hcl := h.cell ht hk
  have hsn := h.sn ht (by omega)
  have hb := hr t k
  have hmm := mulB (a := det) (b := g t k) (A := 2 ^ 30) (B := 2 ^ 30) (by omega) (by omega)
  have hnn : 0 ≤ det * g t k := Int.mul_nonneg hd.1 hb.1
  have w1 := w64 (det * g t k) (by omega) (by omega)
  have hrm : (det * g t k).tmod p = det * g t k % p := Int.tmod_eq_emod_of_nonneg hnn
  have hrem := fun x : Int => bin_rem .i64 x p (by omega)
  simp (maxSteps := 300000) (disch := omega) only [gs, gs2, gs3, gs4, ↓reduceIte, Nat.reduceEqDiff, Int.reduceToNat, Nat.reduceMul, Nat.reduceAdd, Nat.reduceBEq, isLd, e0, e1, e2, e8, e9, e10, e11, e16, e17, hgt, hcl, q10, w1, hrem, hrm]
  have hz : zc [.int .i64 0] C = (rowL C fun _ => 0).map I64 := by rw [zc_one, rep_range]; unfold rowL; rw [List.map_map]; rfl
  have hgr := h.ints ht
  have hinvb := pw_rng (a := g t k) (p := p) hp.1 (p - 2).toNat
  have key : ∀ (G1 : GH) (bz : Nat), Sub G G1 → IntS G1 (some ⟨bz, 0, none⟩) C (rowL C fun _ => 0) → ∀ {K : Value → GH → Prop}, (∀ G' A' c', New G1 G' A' c' ((rowL C fun j => (g t j * invF (g t k) p) % p).map I64) 1 C → K (.slice A' C c') G') → GC Try.prog 255 [.slice (some ⟨bz, 0, none⟩) C C, .slice (A t) C (c t), .int .i64 (invF (g t k) p), .int .i64 p] G1 K := by
    intro G1 bz s1 hz1 K hK
    refine impl_addTimes_ok (f := fun _ => 0) (g := g t) hz1 (hgr.sub s1) hp ⟨by unfold invF; omega, by unfold invF; omega⟩ (fun j _ => by omega) (fun j _ => hr t j) (by omega) fun G' A' c' hN => hK G' A' c' (hN.cast ?_ rfl)
    congr 1
    exact rowL_congr fun j _ => by rw [Int.zero_add, Int.mul_comm]
  have fin : ∀ (G1 G2 : GH) (A3 : Option Addr) (c3 : Nat) (T' : Nat → Value) (Q' : Cont), Sub G G1 → New G1 G2 A3 c3 ((rowL C fun j => (g t j * invF (g t k) p) % p).map I64) 1 C → SameE T' T → True := fun _ _ _ _ _ _ _ _ _ => trivial
  clear fin
  refine ⟨?_, ?_⟩
  · refine ⟨C, C, rfl, rfl, Nat.le_refl _, by omega, by omega, fun bz hbz => ?_⟩
    rw [hz]
    have sz := Sub.put hbz ⟨(rowL C fun _ => 0).map I64, true⟩
    have hI0 : IntS (put G bz ⟨(rowL C fun _ => 0).map I64, true⟩) (some ⟨bz, 0, none⟩) C (rowL C fun _ => 0) := by
      have := blk_ints (xs := rowL C fun _ => 0) (put_same G bz ⟨(rowL C fun _ => 0).map I64, true⟩)
      rwa [rowL_len] at this
    have hw1 := h.up sz
    have hO1 := hO.sub sz
    have kd1 := rd_sub (sz.del2 b) k10
    have hgt1 := hw1.get ht
    revert sz hI0 hw1 hO1 kd1 hgt1
    generalize put G bz ⟨(rowL C fun _ => 0).map I64, true⟩ = G1
    intro sz hI0 hw1 hO1 kd1 hgt1
    simp (maxSteps := 300000) (disch := omega) only [gs, gs2, gs3, gs4, ↓reduceIte, Nat.reduceEqDiff, Int.reduceToNat, Nat.reduceMul, Nat.reduceAdd, Nat.reduceBEq, isLd, hgt1]
    refine impl_inverseOf_ok ⟨by omega, by omega⟩ ⟨by omega, by omega⟩ ?_
    simp (maxSteps := 300000) (disch := omega) only [gs, gs2, gs3, gs4, ↓reduceIte, Nat.reduceEqDiff, Int.reduceToNat, Nat.reduceMul, Nat.reduceAdd, Nat.reduceBEq, isLd, hgt1]
    refine key G1 bz sz hI0 fun G2 A3 c3 hN => ?_
    simp (maxSteps := 300000) (disch := omega) only [gs, gs2, gs3, gs4, ↓reduceIte, Nat.reduceEqDiff, Int.reduceToNat, Nat.reduceMul, Nat.reduceAdd, Nat.reduceBEq, isLd, e0]
    have hO2 := hO1.sub hN.sub
    have hZ1 : ∀ a, Ap = some a → ∃ e, G1 a.block = some e := fun a ha => by
      rcases hO1 with ⟨h0, _⟩ | ⟨x, r, h0, h1, _⟩
      · rw [h0] at ha; cases ha
      · rw [h0] at ha; cases ha; exact ⟨_, h1⟩
    refine (hw1.up hN.sub).st ht hda (New.del (xs := rowL C fun j => (g t j * invF (g t k) p) % p) (hN.cast rfl (rowL_len _ _).symm) hw1.blk hZ1) fun G3 hw3 hdel _ => ?_
    rw [← setr_scl] at hw3
    have kd3 : rd (del G3 b) (some ⟨b10, 0, none⟩) = some (.int .i64 (k : Int)) := by rw [hdel]; exact rd_sub (hN.sub.del2 b) kd1
    have hO3 : Own G3 Ap cq (piv.map I64) 1 piv.length := (hO2.del hda).sub (by rw [← hdel]; exact Gh.Sub.del _ _)
    have hZ3 : ∀ a, Ap = some a → ∃ e, (del G3 b) a.block = some e := fun a ha => by
      rcases hO3 with ⟨h0, _⟩ | ⟨x, r, h0, h1, _⟩
      · rw [h0] at ha; cases ha
      · have := hda a ha
        rw [h0] at ha; cases ha; exact ⟨_, by rw [del_ne _ this]; exact h1⟩
    simp (maxSteps := 300000) (disch := omega) only [gs, gs2, gs3, gs4, ↓reduceIte, Nat.reduceEqDiff, Int.reduceToNat, Nat.reduceMul, Nat.reduceAdd, Nat.reduceBEq, isLd, e0]
    refine el_l0 (D := del G3 b) (cp := cp) (h := scl g t (invF (g t k) p) p) (t := t) (k := k) hw3.all hda hZ3 hR hC (hr.scl (by omega) _ _) hp ht hk kd3 (by simp (maxSteps := 300000) (disch := omega) only [gs, gs2, gs3, gs4, ↓reduceIte, Nat.reduceEqDiff, Int.reduceToNat, Nat.reduceMul, Nat.reduceAdd, Nat.reduceBEq, isLd, e0]) (by simp (maxSteps := 300000) (disch := omega) only [gs, gs2, gs3, gs4, ↓reduceIte, Nat.reduceEqDiff, Int.reduceToNat, Nat.reduceMul, Nat.reduceAdd, Nat.reduceBEq, isLd, e2]) (by simp (maxSteps := 300000) (disch := omega) only [gs, gs2, gs3, gs4, ↓reduceIte, Nat.reduceEqDiff, Int.reduceToNat, Nat.reduceMul, Nat.reduceAdd, Nat.reduceBEq, isLd, e10]) (by simp (maxSteps := 300000) (disch := omega) only [gs, gs2, gs3, gs4, ↓reduceIte, Nat.reduceEqDiff, Int.reduceToNat, Nat.reduceMul, Nat.reduceAdd, Nat.reduceBEq, isLd, e11]) (by simp (maxSteps := 300000) (disch := omega) only [gs, gs2, gs3, gs4, ↓reduceIte, Nat.reduceEqDiff, Int.reduceToNat, Nat.reduceMul, Nat.reduceAdd, Nat.reduceBEq, isLd, e0]) (by simp (maxSteps := 300000) (disch := omega) only [gs, gs2, gs3, gs4, ↓reduceIte, Nat.reduceEqDiff, Int.reduceToNat, Nat.reduceMul, Nat.reduceAdd, Nat.reduceBEq, isLd]) (by simp (maxSteps := 300000) (disch := omega) only [gs, gs2, gs3, gs4, ↓reduceIte, Nat.reduceEqDiff, Int.reduceToNat, Nat.reduceMul, Nat.reduceAdd, Nat.reduceBEq, isLd] <;> rfl) fun T' G4 A' c' hT hw4 => ?_
    have hO4 : Own G4 Ap cq (piv.map I64) 1 piv.length := (hO3.del hda).sub hw4.sub
    have q4 := rd_sub hw4.sub kd3
    have f0 : T' 0 = .slice (some ⟨b, 0, none⟩) R cp := (hT 0 (by omega)).trans (by simp (maxSteps := 300000) (disch := omega) only [gs, gs2, gs3, gs4, ↓reduceIte, Nat.reduceEqDiff, Int.reduceToNat, Nat.reduceMul, Nat.reduceAdd, Nat.reduceBEq, isLd, e0])
    have f1 : T' 1 = .int .i64 C := (hT 1 (by omega)).trans (by simp (maxSteps := 300000) (disch := omega) only [gs, gs2, gs3, gs4, ↓reduceIte, Nat.reduceEqDiff, Int.reduceToNat, Nat.reduceMul, Nat.reduceAdd, Nat.reduceBEq, isLd, e1])
    have f2 : T' 2 = .int .i64 p := (hT 2 (by omega)).trans (by simp (maxSteps := 300000) (disch := omega) only [gs, gs2, gs3, gs4, ↓reduceIte, Nat.reduceEqDiff, Int.reduceToNat, Nat.reduceMul, Nat.reduceAdd, Nat.reduceBEq, isLd, e2])
    have f8 : T' 8 = .slice Ap piv.length cq := (hT 8 (by omega)).trans (by simp (maxSteps := 300000) (disch := omega) only [gs, gs2, gs3, gs4, ↓reduceIte, Nat.reduceEqDiff, Int.reduceToNat, Nat.reduceMul, Nat.reduceAdd, Nat.reduceBEq, isLd, e8])
    have f9 : T' 9 = .int .i64 (det * g t k % p) := (hT 9 (by omega)).trans (by simp (maxSteps := 300000) (disch := omega) only [gs, gs2, gs3, gs4, ↓reduceIte, Nat.reduceEqDiff, Int.reduceToNat, Nat.reduceMul, Nat.reduceAdd, Nat.reduceBEq, isLd])
    have f10 : T' 10 = .pointer (some ⟨b10, 0, none⟩) := (hT 10 (by omega)).trans (by simp (maxSteps := 300000) (disch := omega) only [gs, gs2, gs3, gs4, ↓reduceIte, Nat.reduceEqDiff, Int.reduceToNat, Nat.reduceMul, Nat.reduceAdd, Nat.reduceBEq, isLd, e10])
    have f16 : T' 16 = .int .i64 C := (hT 16 (by omega)).trans (by simp (maxSteps := 300000) (disch := omega) only [gs, gs2, gs3, gs4, ↓reduceIte, Nat.reduceEqDiff, Int.reduceToNat, Nat.reduceMul, Nat.reduceAdd, Nat.reduceBEq, isLd, e16])
    have f17 : T' 17 = .int .i64 k := (hT 17 (by omega)).trans (by simp (maxSteps := 300000) (disch := omega) only [gs, gs2, gs3, gs4, ↓reduceIte, Nat.reduceEqDiff, Int.reduceToNat, Nat.reduceMul, Nat.reduceAdd, Nat.reduceBEq, isLd, e17])
    clear hT
    have hwH : Rw H G4 b A' c' R C (clr (scl g t (invF (g t k) p) p) t k p) rest Ap := ⟨(hw3.sub.in_del hw3.nb).trans hw4.sub, hw3.nb, hw4.blk, hw4.row⟩
    simp (maxSteps := 300000) (disch := omega) only [gs, gs2, gs3, gs4, ↓reduceIte, Nat.reduceEqDiff, Int.reduceToNat, Nat.reduceMul, Nat.reduceAdd, Nat.reduceBEq, isLd, f0, f1, f2, f8, f9, f10, f16, f17, q4, gBs]
    refine ⟨by intro v hv; simp at hv; subst hv; rfl, fun b15 hb15 => ?_⟩
    refine ap_own (hO4.sub (Sub.put hb15 _)) (cells_one [.int .i64 (k : Int)] true) rfl (by intro v hv; simp at hv; subst hv; rfl) rfl (by omega) (by omega) (by omega) fun G5 A5 c5 hO5 keep => ?_
    obtain ⟨s5, o5⟩ := keep _ (Sub.wo _ _) (Off.wo _ _)
    obtain ⟨hw5, oH5, d5⟩ := (hwH.up (Sub.put hb15 _)).rez hda hOf s5 o5
    simp (maxSteps := 300000) (disch := omega) only [gs, gs2, gs3, gs4, ↓reduceIte, Nat.reduceEqDiff, Int.reduceToNat, Nat.reduceMul, Nat.reduceAdd, Nat.reduceBEq, isLd, f0, f1, f2, f8, f9, f10, f16, f17]
    exact hQ _ _ A' c' A5 c5 (by simp (maxSteps := 300000) (disch := omega) only [gs, gs2, gs3, gs4, ↓reduceIte, Nat.reduceEqDiff, Int.reduceToNat, Nat.reduceMul, Nat.reduceAdd, Nat.reduceBEq, isLd, f0]) (by simp (maxSteps := 300000) (disch := omega) only [gs, gs2, gs3, gs4, ↓reduceIte, Nat.reduceEqDiff, Int.reduceToNat, Nat.reduceMul, Nat.reduceAdd, Nat.reduceBEq, isLd, f1]) (by simp (maxSteps := 300000) (disch := omega) only [gs, gs2, gs3, gs4, ↓reduceIte, Nat.reduceEqDiff, Int.reduceToNat, Nat.reduceMul, Nat.reduceAdd, Nat.reduceBEq, isLd, f2]) (by simp (maxSteps := 300000) (disch := omega) only [gs, gs2, gs3, gs4, ↓reduceIte, Nat.reduceEqDiff, Int.reduceToNat, Nat.reduceMul, Nat.reduceAdd, Nat.reduceBEq, isLd]) (by simp (maxSteps := 300000) (disch := omega) only [gs, gs2, gs3, gs4, ↓reduceIte, Nat.reduceEqDiff, Int.reduceToNat, Nat.reduceMul, Nat.reduceAdd, Nat.reduceBEq, isLd, f9]) (by simp (maxSteps := 300000) (disch := omega) only [gs, gs2, gs3, gs4, ↓reduceIte, Nat.reduceEqDiff, Int.reduceToNat, Nat.reduceMul, Nat.reduceAdd, Nat.reduceBEq, isLd, f16]) (by simp (maxSteps := 300000) (disch := omega) only [gs, gs2, gs3, gs4, ↓reduceIte, Nat.reduceEqDiff, Int.reduceToNat, Nat.reduceMul, Nat.reduceAdd, Nat.reduceBEq, isLd, f17]) hw5 (hO5.cast (by simp [I64]) rfl) oH5 d5
  · refine impl_inverseOf_ok ⟨by omega, by omega⟩ ⟨by omega, by omega⟩ ?_
    simp (maxSteps := 300000) (disch := omega) only [gs, gs2, gs3, gs4, ↓reduceIte, Nat.reduceEqDiff, Int.reduceToNat, Nat.reduceMul, Nat.reduceAdd, Nat.reduceBEq, isLd, hgt]
    refine ⟨C, C, rfl, rfl, Nat.le_refl _, by omega, by omega, fun bz hbz => ?_⟩
    rw [hz]
    have sz := Sub.put hbz ⟨(rowL C fun _ => 0).map I64, true⟩
    have hI0 : IntS (put G bz ⟨(rowL C fun _ => 0).map I64, true⟩) (some ⟨bz, 0, none⟩) C (rowL C fun _ => 0) := by
      have := blk_ints (xs := rowL C fun _ => 0) (put_same G bz ⟨(rowL C fun _ => 0).map I64, true⟩)
      rwa [rowL_len] at this
    have hw1 := h.up sz
    have hO1 := hO.sub sz
    have kd1 := rd_sub (sz.del2 b) k10
    have hgt1 := hw1.get ht
    revert sz hI0 hw1 hO1 kd1 hgt1
    generalize put G bz ⟨(rowL C fun _ => 0).map I64, true⟩ = G1
    intro sz hI0 hw1 hO1 kd1 hgt1
    simp (maxSteps := 300000) (disch := omega) only [gs, gs2, gs3, gs4, ↓reduceIte, Nat.reduceEqDiff, Int.reduceToNat, Nat.reduceMul, Nat.reduceAdd, Nat.reduceBEq, isLd, hgt1]
    refine key G1 bz sz hI0 fun G2 A3 c3 hN => ?_
    simp (maxSteps := 300000) (disch := omega) only [gs, gs2, gs3, gs4, ↓reduceIte, Nat.reduceEqDiff, Int.reduceToNat, Nat.reduceMul, Nat.reduceAdd, Nat.reduceBEq, isLd, e0]
    have hO2 := hO1.sub hN.sub
    have hZ1 : ∀ a, Ap = some a → ∃ e, G1 a.block = some e := fun a ha => by
      rcases hO1 with ⟨h0, _⟩ | ⟨x, r, h0, h1, _⟩
      · rw [h0] at ha; cases ha
      · rw [h0] at ha; cases ha; exact ⟨_, h1⟩
    refine (hw1.up hN.sub).st ht hda (New.del (xs := rowL C fun j => (g t j * invF (g t k) p) % p) (hN.cast rfl (rowL_len _ _).symm) hw1.blk hZ1) fun G3 hw3 hdel _ => ?_
    rw [← setr_scl] at hw3
    have kd3 : rd (del G3 b) (some ⟨b10, 0, none⟩) = some (.int .i64 (k : Int)) := by rw [hdel]; exact rd_sub (hN.sub.del2 b) kd1
    have hO3 : Own G3 Ap cq (piv.map I64) 1 piv.length := (hO2.del hda).sub (by rw [← hdel]; exact Gh.Sub.del _ _)
    have hZ3 : ∀ a, Ap = some a → ∃ e, (del G3 b) a.block = some e := fun a ha => by
      rcases hO3 with ⟨h0, _⟩ | ⟨x, r, h0, h1, _⟩
      · rw [h0] at ha; cases ha
      · have := hda a ha
        rw [h0] at ha; cases ha; exact ⟨_, by rw [del_ne _ this]; exact h1⟩
    simp (maxSteps := 300000) (disch := omega) only [gs, gs2, gs3, gs4, ↓reduceIte, Nat.reduceEqDiff, Int.reduceToNat, Nat.reduceMul, Nat.reduceAdd, Nat.reduceBEq, isLd, e0]
    refine el_l0 (D := del G3 b) (cp := cp) (h := scl g t (invF (g t k) p) p) (t := t) (k := k) hw3.all hda hZ3 hR hC (hr.scl (by omega) _ _) hp ht hk kd3 (by simp (maxSteps := 300000) (disch := omega) only [gs, gs2, gs3, gs4, ↓reduceIte, Nat.reduceEqDiff, Int.reduceToNat, Nat.reduceMul, Nat.reduceAdd, Nat.reduceBEq, isLd, e0]) (by simp (maxSteps := 300000) (disch := omega) only [gs, gs2, gs3, gs4, ↓reduceIte, Nat.reduceEqDiff, Int.reduceToNat, Nat.reduceMul, Nat.reduceAdd, Nat.reduceBEq, isLd, e2]) (by simp (maxSteps := 300000) (disch := omega) only [gs, gs2, gs3, gs4, ↓reduceIte, Nat.reduceEqDiff, Int.reduceToNat, Nat.reduceMul, Nat.reduceAdd, Nat.reduceBEq, isLd, e10]) (by simp (maxSteps := 300000) (disch := omega) only [gs, gs2, gs3, gs4, ↓reduceIte, Nat.reduceEqDiff, Int.reduceToNat, Nat.reduceMul, Nat.reduceAdd, Nat.reduceBEq, isLd, e11]) (by simp (maxSteps := 300000) (disch := omega) only [gs, gs2, gs3, gs4, ↓reduceIte, Nat.reduceEqDiff, Int.reduceToNat, Nat.reduceMul, Nat.reduceAdd, Nat.reduceBEq, isLd, e0]) (by simp (maxSteps := 300000) (disch := omega) only [gs, gs2, gs3, gs4, ↓reduceIte, Nat.reduceEqDiff, Int.reduceToNat, Nat.reduceMul, Nat.reduceAdd, Nat.reduceBEq, isLd]) (by simp (maxSteps := 300000) (disch := omega) only [gs, gs2, gs3, gs4, ↓reduceIte, Nat.reduceEqDiff, Int.reduceToNat, Nat.reduceMul, Nat.reduceAdd, Nat.reduceBEq, isLd] <;> rfl) fun T' G4 A' c' hT hw4 => ?_
    have hO4 : Own G4 Ap cq (piv.map I64) 1 piv.length := (hO3.del hda).sub hw4.sub
    have q4 := rd_sub hw4.sub kd3
    have f0 : T' 0 = .slice (some ⟨b, 0, none⟩) R cp := (hT 0 (by omega)).trans (by simp (maxSteps := 300000) (disch := omega) only [gs, gs2, gs3, gs4, ↓reduceIte, Nat.reduceEqDiff, Int.reduceToNat, Nat.reduceMul, Nat.reduceAdd, Nat.reduceBEq, isLd, e0])
    have f1 : T' 1 = .int .i64 C := (hT 1 (by omega)).trans (by simp (maxSteps := 300000) (disch := omega) only [gs, gs2, gs3, gs4, ↓reduceIte, Nat.reduceEqDiff, Int.reduceToNat, Nat.reduceMul, Nat.reduceAdd, Nat.reduceBEq, isLd, e1])
    have f2 : T' 2 = .int .i64 p := (hT 2 (by omega)).trans (by simp (maxSteps := 300000) (disch := omega) only [gs, gs2, gs3, gs4, ↓reduceIte, Nat.reduceEqDiff, Int.reduceToNat, Nat.reduceMul, Nat.reduceAdd, Nat.reduceBEq, isLd, e2])
    have f8 : T' 8 = .slice Ap piv.length cq := (hT 8 (by omega)).trans (by simp (maxSteps := 300000) (disch := omega) only [gs, gs2, gs3, gs4, ↓reduceIte, Nat.reduceEqDiff, Int.reduceToNat, Nat.reduceMul, Nat.reduceAdd, Nat.reduceBEq, isLd, e8])
    have f9 : T' 9 = .int .i64 (det * g t k % p) := (hT 9 (by omega)).trans (by simp (maxSteps := 300000) (disch := omega) only [gs, gs2, gs3, gs4, ↓reduceIte, Nat.reduceEqDiff, Int.reduceToNat, Nat.reduceMul, Nat.reduceAdd, Nat.reduceBEq, isLd])
    have f10 : T' 10 = .pointer (some ⟨b10, 0, none⟩) := (hT 10 (by omega)).trans (by simp (maxSteps := 300000) (disch := omega) only [gs, gs2, gs3, gs4, ↓reduceIte, Nat.reduceEqDiff, Int.reduceToNat, Nat.reduceMul, Nat.reduceAdd, Nat.reduceBEq, isLd, e10])
    have f16 : T' 16 = .int .i64 C := (hT 16 (by omega)).trans (by simp (maxSteps := 300000) (disch := omega) only [gs, gs2, gs3, gs4, ↓reduceIte, Nat.reduceEqDiff, Int.reduceToNat, Nat.reduceMul, Nat.reduceAdd, Nat.reduceBEq, isLd, e16])
    have f17 : T' 17 = .int .i64 k := (hT 17 (by omega)).trans (by simp (maxSteps := 300000) (disch := omega) only [gs, gs2, gs3, gs4, ↓reduceIte, Nat.reduceEqDiff, Int.reduceToNat, Nat.reduceMul, Nat.reduceAdd, Nat.reduceBEq, isLd, e17])
    clear hT
    have hwH : Rw H G4 b A' c' R C (clr (scl g t (invF (g t k) p) p) t k p) rest Ap := ⟨(hw3.sub.in_del hw3.nb).trans hw4.sub, hw3.nb, hw4.blk, hw4.row⟩
    simp (maxSteps := 300000) (disch := omega) only [gs, gs2, gs3, gs4, ↓reduceIte, Nat.reduceEqDiff, Int.reduceToNat, Nat.reduceMul, Nat.reduceAdd, Nat.reduceBEq, isLd, f0, f1, f2, f8, f9, f10, f16, f17, q4, gBs]
    refine ⟨by intro v hv; simp at hv; subst hv; rfl, fun b15 hb15 => ?_⟩
    refine ap_own (hO4.sub (Sub.put hb15 _)) (cells_one [.int .i64 (k : Int)] true) rfl (by intro v hv; simp at hv; subst hv; rfl) rfl (by omega) (by omega) (by omega) fun G5 A5 c5 hO5 keep => ?_
    obtain ⟨s5, o5⟩ := keep _ (Sub.wo _ _) (Off.wo _ _)
    obtain ⟨hw5, oH5, d5⟩ := (hwH.up (Sub.put hb15 _)).rez hda hOf s5 o5
    simp (maxSteps := 300000) (disch := omega) only [gs, gs2, gs3, gs4, ↓reduceIte, Nat.reduceEqDiff, Int.reduceToNat, Nat.reduceMul, Nat.reduceAdd, Nat.reduceBEq, isLd, f0, f1, f2, f8, f9, f10, f16, f17]
    exact hQ _ _ A' c' A5 c5 (by simp (maxSteps := 300000) (disch := omega) only [gs, gs2, gs3, gs4, ↓reduceIte, Nat.reduceEqDiff, Int.reduceToNat, Nat.reduceMul, Nat.reduceAdd, Nat.reduceBEq, isLd, f0]) (by simp (maxSteps := 300000) (disch := omega) only [gs, gs2, gs3, gs4, ↓reduceIte, Nat.reduceEqDiff, Int.reduceToNat, Nat.reduceMul, Nat.reduceAdd, Nat.reduceBEq, isLd, f1]) (by simp (maxSteps := 300000) (disch := omega) only [gs, gs2, gs3, gs4, ↓reduceIte, Nat.reduceEqDiff, Int.reduceToNat, Nat.reduceMul, Nat.reduceAdd, Nat.reduceBEq, isLd, f2]) (by simp (maxSteps := 300000) (disch := omega) only [gs, gs2, gs3, gs4, ↓reduceIte, Nat.reduceEqDiff, Int.reduceToNat, Nat.reduceMul, Nat.reduceAdd, Nat.reduceBEq, isLd]) (by simp (maxSteps := 300000) (disch := omega) only [gs, gs2, gs3, gs4, ↓reduceIte, Nat.reduceEqDiff, Int.reduceToNat, Nat.reduceMul, Nat.reduceAdd, Nat.reduceBEq, isLd, f9]) (by simp (maxSteps := 300000) (disch := omega) only [gs, gs2, gs3, gs4, ↓reduceIte, Nat.reduceEqDiff, Int.reduceToNat, Nat.reduceMul, Nat.reduceAdd, Nat.reduceBEq, isLd, f16]) (by simp (maxSteps := 300000) (disch := omega) only [gs, gs2, gs3, gs4, ↓reduceIte, Nat.reduceEqDiff, Int.reduceToNat, Nat.reduceMul, Nat.reduceAdd, Nat.reduceBEq, isLd, f17]) hw5 (hO5.cast (by simp [I64]) rfl) oH5 d5
abbrev elSwap : GCode := .seq (.reg c_impl_eliminate_10) (.cond (tt 30) (.seq (.dreg c_impl_eliminate_11) (.reg c_impl_eliminate_12)) .skip)
theorem el_swap {H G : GH} {b b10 cp cq t i k : Nat} {A : Nat → Option Addr} {c : Nat → Nat} {Ap : Option Addr} {R C n : Nat} {f : Int → Int → Int} {rest : List Value} {p det : Int} {cs : List Value} {T : Nat → Value} {Q : Cont} {X : GCode} (h : Rw H G b A c R C f rest Ap) (hR : R < 2 ^ 10) (hp : 1 < p ∧ p ≤ 2 ^ 30)
    (ht : t ≤ i) (hi : i < R) (hd : 0 ≤ det ∧ det < p) (k10 : rd (del G b) (some ⟨b10, 0, none⟩) = some (.int .i64 (k : Int))) (hO : Own G Ap cq cs 1 n) (hda : ∀ a, Ap = some a → a.block ≠ b)
    (e0 : T 0 = .slice (some ⟨b, 0, none⟩) R cp) (e1 : T 1 = .int .i64 C) (e2 : T 2 = .int .i64 p) (e8 : T 8 = .slice Ap n cq) (e9 : T 9 = .int .i64 det) (e10 : T 10 = .pointer (some ⟨b10, 0, none⟩)) (e11 : T 11 = .int .i64 t) (e12 : T 12 = .int .i64 ((i - t : Nat) : Int)) (e16 : T 16 = .int .i64 C) (e17 : T 17 = .int .i64 k)
    (hX : ∀ T' G' A' c', T' 0 = .slice (some ⟨b, 0, none⟩) R cp → T' 1 = .int .i64 C → T' 2 = .int .i64 p → T' 8 = .slice Ap n cq → T' 9 = .int .i64 (if i = t then det else (-det) % p) → T' 10 = .pointer (some ⟨b10, 0, none⟩) → T' 11 = .int .i64 t → T' 16 = .int .i64 C → T' 17 = .int .i64 k →
      Rw H G' b A' c' R C (swp f t i) rest Ap → Own G' Ap cq cs 1 n → rd (del G' b) (some ⟨b10, 0, none⟩) = some (.int .i64 (k : Int)) → gW Try.prog X Q T' G') : gW Try.prog (.seq elSwap X) Q T G := by
  simp (maxSteps := 300000) (disch := omega) only [gs, gs2, gs3, gs4, ↓reduceIte, Nat.reduceEqDiff, Int.reduceToNat, Nat.reduceMul, Nat.reduceAdd, Nat.reduceBEq, isLd, e12]
  by_cases hit : i = t
  · subst hit
    simp (maxSteps := 300000) (disch := omega) only [gs, gs2, gs3, gs4, ↓reduceIte, Nat.reduceEqDiff, Int.reduceToNat, Nat.reduceMul, Nat.reduceAdd, Nat.reduceBEq, isLd, show ((0 : Int) < ((i - i : Nat) : Int)) = False from eq_false (by omega)]
    exact hX _ G A c (by simp (maxSteps := 300000) (disch := omega) only [gs, gs2, gs3, gs4, ↓reduceIte, Nat.reduceEqDiff, Int.reduceToNat, Nat.reduceMul, Nat.reduceAdd, Nat.reduceBEq, isLd, e0]) (by simp (maxSteps := 300000) (disch := omega) only [gs, gs2, gs3, gs4, ↓reduceIte, Nat.reduceEqDiff, Int.reduceToNat, Nat.reduceMul, Nat.reduceAdd, Nat.reduceBEq, isLd, e1]) (by simp (maxSteps := 300000) (disch := omega) only [gs, gs2, gs3, gs4, ↓reduceIte, Nat.reduceEqDiff, Int.reduceToNat, Nat.reduceMul, Nat.reduceAdd, Nat.reduceBEq, isLd, e2]) (by simp (maxSteps := 300000) (disch := omega) only [gs, gs2, gs3, gs4, ↓reduceIte, Nat.reduceEqDiff, Int.reduceToNat, Nat.reduceMul, Nat.reduceAdd, Nat.reduceBEq, isLd, e8]) (by simp (maxSteps := 300000) (disch := omega) only [gs, gs2, gs3, gs4, ↓reduceIte, Nat.reduceEqDiff, Int.reduceToNat, Nat.reduceMul, Nat.reduceAdd, Nat.reduceBEq, isLd, e9]) (by simp (maxSteps := 300000) (disch := omega) only [gs, gs2, gs3, gs4, ↓reduceIte, Nat.reduceEqDiff, Int.reduceToNat, Nat.reduceMul, Nat.reduceAdd, Nat.reduceBEq, isLd, e10]) (by simp (maxSteps := 300000) (disch := omega) only [gs, gs2, gs3, gs4, ↓reduceIte, Nat.reduceEqDiff, Int.reduceToNat, Nat.reduceMul, Nat.reduceAdd, Nat.reduceBEq, isLd, e11]) (by simp (maxSteps := 300000) (disch := omega) only [gs, gs2, gs3, gs4, ↓reduceIte, Nat.reduceEqDiff, Int.reduceToNat, Nat.reduceMul, Nat.reduceAdd, Nat.reduceBEq, isLd, e16]) (by simp (maxSteps := 300000) (disch := omega) only [gs, gs2, gs3, gs4, ↓reduceIte, Nat.reduceEqDiff, Int.reduceToNat, Nat.reduceMul, Nat.reduceAdd, Nat.reduceBEq, isLd, e17]) (h.cong fun a j _ _ => by unfold swp; by_cases e : (a : Int) = i <;> simp [e]) hO k10
  have hgt := h.get (show t < R by omega)
  have hgi := h.get hi
  have hti : (t : Int) + ((i - t : Nat) : Int) = i := by omega
  simp (maxSteps := 300000) (disch := omega) only [gs, gs2, gs3, gs4, ↓reduceIte, Nat.reduceEqDiff, Int.reduceToNat, Nat.reduceMul, Nat.reduceAdd, Nat.reduceBEq, isLd, show ((0 : Int) < ((i - t : Nat) : Int)) = True from eq_true (by omega), e0, e11, e12, hgt, hgi, hti]
  refine h.st (i := t) (by omega) hda (h.row i hi) fun G1 h1 hd1 hd2 => ?_
  simp (maxSteps := 300000) (disch := omega) only [gs, gs2, gs3, gs4, ↓reduceIte, Nat.reduceEqDiff, Int.reduceToNat, Nat.reduceMul, Nat.reduceAdd, Nat.reduceBEq, isLd, e0, e11, e12, hti]
  refine h1.st hi hda (by rw [hd2]; exact h.row t (by omega)) fun G2 h2 hd3 _ => ?_
  have hO2 : Own G2 Ap cq cs 1 n := (hO.del hda).sub (by rw [← hd1, ← hd3]; exact Gh.Sub.del _ _)
  have k2 : rd (del G2 b) (some ⟨b10, 0, none⟩) = some (.int .i64 (k : Int)) := by rw [hd3, hd1]; exact k10
  simp (maxSteps := 300000) (disch := omega) only [gs, gs2, gs3, gs4, ↓reduceIte, Nat.reduceEqDiff, Int.reduceToNat, Nat.reduceMul, Nat.reduceAdd, Nat.reduceBEq, isLd, e0, e1, e2, e8, e9, e10, e11, e16, e17]
  refine impl_reduce_ok ⟨by omega, by omega⟩ ?_
  simp (maxSteps := 300000) (disch := omega) only [gs, gs2, gs3, gs4, ↓reduceIte, Nat.reduceEqDiff, Int.reduceToNat, Nat.reduceMul, Nat.reduceAdd, Nat.reduceBEq, isLd, e0, e1, e2, e8, e9, e10, e11, e16, e17]
  refine hX _ G2 _ _ (by simp (maxSteps := 300000) (disch := omega) only [gs, gs2, gs3, gs4, ↓reduceIte, Nat.reduceEqDiff, Int.reduceToNat, Nat.reduceMul, Nat.reduceAdd, Nat.reduceBEq, isLd, e0]) (by simp (maxSteps := 300000) (disch := omega) only [gs, gs2, gs3, gs4, ↓reduceIte, Nat.reduceEqDiff, Int.reduceToNat, Nat.reduceMul, Nat.reduceAdd, Nat.reduceBEq, isLd, e1]) (by simp (maxSteps := 300000) (disch := omega) only [gs, gs2, gs3, gs4, ↓reduceIte, Nat.reduceEqDiff, Int.reduceToNat, Nat.reduceMul, Nat.reduceAdd, Nat.reduceBEq, isLd, e2]) (by simp (maxSteps := 300000) (disch := omega) only [gs, gs2, gs3, gs4, ↓reduceIte, Nat.reduceEqDiff, Int.reduceToNat, Nat.reduceMul, Nat.reduceAdd, Nat.reduceBEq, isLd, e8]) (by simp (maxSteps := 300000) (disch := omega) only [gs, gs2, gs3, gs4, ↓reduceIte, Nat.reduceEqDiff, Int.reduceToNat, Nat.reduceMul, Nat.reduceAdd, Nat.reduceBEq, isLd, if_neg hit]; rw [Int.zero_sub]) (by simp (maxSteps := 300000) (disch := omega) only [gs, gs2, gs3, gs4, ↓reduceIte, Nat.reduceEqDiff, Int.reduceToNat, Nat.reduceMul, Nat.reduceAdd, Nat.reduceBEq, isLd, e10]) (by simp (maxSteps := 300000) (disch := omega) only [gs, gs2, gs3, gs4, ↓reduceIte, Nat.reduceEqDiff, Int.reduceToNat, Nat.reduceMul, Nat.reduceAdd, Nat.reduceBEq, isLd, e11]) (by simp (maxSteps := 300000) (disch := omega) only [gs, gs2, gs3, gs4, ↓reduceIte, Nat.reduceEqDiff, Int.reduceToNat, Nat.reduceMul, Nat.reduceAdd, Nat.reduceBEq, isLd, e16]) (by simp (maxSteps := 300000) (disch := omega) only [gs, gs2, gs3, gs4, ↓reduceIte, Nat.reduceEqDiff, Int.reduceToNat, Nat.reduceMul, Nat.reduceAdd, Nat.reduceBEq, isLd, e17]) (h2.cong fun a j _ _ => ?_) hO2 k2
  unfold setr swp
  by_cases e1 : (a : Int) = i
  · rw [if_pos e1, if_neg (by omega), if_pos e1]
  · by_cases e2 : (a : Int) = t
    · rw [if_neg e1, if_pos e2, if_pos e2]
    · rw [if_neg e1, if_neg e2, if_neg e2, if_neg e1]
theorem impl_eliminate_ok {H G : GH} {b cp : Nat} {A : Nat → Option Addr} {c : Nat → Nat} {R C : Nat} {f : Int → Int → Int} {rest : List Value} {p : Int} (h : Rw H G b A c R C f rest none) (hcp : R ≤ cp) (hR : R < 2 ^ 10) (hC : C < 2 ^ 10) (hr : Rng f p) (hp : 1 < p ∧ p ≤ 2 ^ 30) {K : Value → GH → Prop}
    (hk : ∀ G' A' c' Ap cq, Rw H G' b A' c' R C (elF p R f C).f rest Ap → IntS G' Ap cq (elF p R f C).piv → K (.tuple [.slice Ap (elF p R f C).piv.length cq, .int .i64 (elF p R f C).det].toArray) G') :
    GC Try.prog 231 [.slice (some ⟨b, 0, none⟩) R cp, .int .i64 C, .int .i64 p] G K := by
  refine c_impl_eliminate_i (by simp) ?_
  simp (maxSteps := 300000) (disch := omega) only [gs, gs2, gs3, gs4, ↓reduceIte, Nat.reduceEqDiff, Int.reduceToNat, Nat.reduceMul, Nat.reduceAdd, Nat.reduceBEq, isLd]
  refine gLoop_intro (fun m T G' => ∃ (k : Nat) (A' : Nat → Option Addr) (c' : Nat → Nat) (Ap : Option Addr) (cq : Nat), T 0 = .slice (some ⟨b, 0, none⟩) R cp ∧ T 1 = .int .i64 C ∧ T 2 = .int .i64 p ∧ T 8 = .slice Ap (elF p R f k).piv.length cq ∧ T 9 = .int .i64 (elF p R f k).det ∧ T 16 = .int .i64 C ∧ T 17 = .int .i64 k ∧ m + k = C ∧ k ≤ C ∧
      Rw H G' b A' c' R C (elF p R f k).f rest Ap ∧ Own G' Ap cq ((elF p R f k).piv.map I64) 1 (elF p R f k).piv.length ∧ Off H Ap ∧ ∀ a, Ap = some a → a.block ≠ b)
    C ⟨0, A, c, none, 0, by simp (maxSteps := 300000) (disch := omega) only [gs, gs2, gs3, gs4, ↓reduceIte, Nat.reduceEqDiff, Int.reduceToNat, Nat.reduceMul, Nat.reduceAdd, Nat.reduceBEq, isLd], by simp (maxSteps := 300000) (disch := omega) only [gs, gs2, gs3, gs4, ↓reduceIte, Nat.reduceEqDiff, Int.reduceToNat, Nat.reduceMul, Nat.reduceAdd, Nat.reduceBEq, isLd], by simp (maxSteps := 300000) (disch := omega) only [gs, gs2, gs3, gs4, ↓reduceIte, Nat.reduceEqDiff, Int.reduceToNat, Nat.reduceMul, Nat.reduceAdd, Nat.reduceBEq, isLd], by simp (maxSteps := 300000) (disch := omega) only [gs, gs2, gs3, gs4, ↓reduceIte, Nat.reduceEqDiff, Int.reduceToNat, Nat.reduceMul, Nat.reduceAdd, Nat.reduceBEq, isLd] <;> rfl, by simp (maxSteps := 300000) (disch := omega) only [gs, gs2, gs3, gs4, ↓reduceIte, Nat.reduceEqDiff, Int.reduceToNat, Nat.reduceMul, Nat.reduceAdd, Nat.reduceBEq, isLd] <;> rfl, by simp (maxSteps := 300000) (disch := omega) only [gs, gs2, gs3, gs4, ↓reduceIte, Nat.reduceEqDiff, Int.reduceToNat, Nat.reduceMul, Nat.reduceAdd, Nat.reduceBEq, isLd], by simp (maxSteps := 300000) (disch := omega) only [gs, gs2, gs3, gs4, ↓reduceIte, Nat.reduceEqDiff, Int.reduceToNat, Nat.reduceMul, Nat.reduceAdd, Nat.reduceBEq, isLd] <;> rfl, by omega, by omega, h, Own.nil _ _, Off.nil _, fun a ha => by cases ha⟩ ?_
  rintro m T G' ⟨k, A', c', Ap, cq, e0, e1, e2, e8, e9, e16, e17, hm, hkm, hw, hO, hOf, hda⟩
  have hrg := elF_rng (R := R) (by omega : 0 < p) hr k
  have hln := elF_len p R f k
  have hdt := elF_det hp.1 R f k
  have hstep : elF p R f (k + 1) = elS p R (elF p R f k) k := rfl
  simp (maxSteps := 300000) (disch := omega) only [gs, gs2, gs3, gs4, ↓reduceIte, Nat.reduceEqDiff, Int.reduceToNat, Nat.reduceMul, Nat.reduceAdd, Nat.reduceBEq, isLd, e0, e1, e2, e8, e9, e16, e17]
  by_cases hkk : (k : Int) < C
  rotate_left
  · simp (maxSteps := 300000) (disch := omega) only [gs, gs2, gs3, gs4, ↓reduceIte, Nat.reduceEqDiff, Int.reduceToNat, Nat.reduceMul, Nat.reduceAdd, Nat.reduceBEq, isLd, e0, e1, e2, e8, e9, e16, e17, hkk]
    obtain rfl : k = C := by omega
    exact hk _ _ _ _ _ hw hO.ints
  generalize elF p R f k = S at *
  simp (maxSteps := 300000) (disch := omega) only [gs, gs2, gs3, gs4, ↓reduceIte, Nat.reduceEqDiff, Int.reduceToNat, Nat.reduceMul, Nat.reduceAdd, Nat.reduceBEq, isLd, e0, e1, e2, e8, e9, e16, e17, hkk]
  intro b10 hb10
  simp (maxSteps := 300000) (disch := omega) only [gs, gs2, gs3, gs4, ↓reduceIte, Nat.reduceEqDiff, Int.reduceToNat, Nat.reduceMul, Nat.reduceAdd, Nat.reduceBEq, isLd, e0, e1, e2, e8, e9, e16, e17]
  refine st_one (put_same _ _ _) (by simp) rfl ?_
  rw [put_put', show List.set [Value.int .i64 0] 0 (.int .i64 (k : Int)) = [.int .i64 (k : Int)] from rfl]
  have s10 := Sub.put hb10 ⟨[.int .i64 (k : Int)], true⟩
  have k10 : rd (put G' b10 ⟨[.int .i64 (k : Int)], true⟩) (some ⟨b10, 0, none⟩) = some (.int .i64 (k : Int)) := rd_box _ _ _ 0 _ rfl
  have n10 : b10 ≠ b := (blk_ne hw.blk hb10).symm
  have hw := hw.up s10
  have hO := hO.sub s10
  have kd : rd (del (put G' b10 ⟨[.int .i64 (k : Int)], true⟩) b) (some ⟨b10, 0, none⟩) = some (.int .i64 (k : Int)) := by
    simp only [rd]; rw [del_ne _ n10, put_same]; rfl
  revert k10 hw hO kd
  generalize put G' b10 ⟨[.int .i64 (k : Int)], true⟩ = G2
  intro k10 hw hO kd
  simp (maxSteps := 300000) (disch := omega) only [gs, gs2, gs3, gs4, ↓reduceIte, Nat.reduceEqDiff, Int.reduceToNat, Nat.reduceMul, Nat.reduceAdd, Nat.reduceBEq, isLd, e0, e1, e2, e8, e9, e16, e17, k10, Option.map_none, sl_top hln.1 hcp]
  obtain ⟨Y, d', hY, hYe⟩ : ∃ Y d', (if cp = S.piv.length then Value.slice (some ⟨b, 0, none⟩) (R - S.piv.length) (cp - S.piv.length) else Value.slice (some ⟨b, S.piv.length, none⟩) (R - S.piv.length) (cp - S.piv.length)) = .slice Y (R - S.piv.length) d' ∧ (S.piv.length < R → Y = some ⟨b, S.piv.length, none⟩) := by
    by_cases e : cp = S.piv.length
    · exact ⟨_, _, if_pos e, fun x => by omega⟩
    · exact ⟨_, _, if_neg e, fun _ => rfl⟩
  rw [hY]
  refine slices_IndexFuncS_ok (col := (k : Int)) hw hYe hln.1 (by omega) (fun i hi K' hK' => ?_) (fun hno => ?_) fun i hi1 hi2 hi3 hi4 => ?_
  · simp (maxSteps := 300000) (disch := omega) only [gs, gs2, gs3, gs4, ↓reduceIte, Nat.reduceEqDiff, Int.reduceToNat, Nat.reduceMul, Nat.reduceAdd, Nat.reduceBEq, isLd]
    refine c_impl_eliminate_fn1_i (by simp) ?_
    have hc := hw.cell hi (j := k) (by omega)
    have hs := hw.sn hi (by omega)
    simp (maxSteps := 300000) (disch := omega) only [gs, gs2, gs3, gs4, ↓reduceIte, Nat.reduceEqDiff, Int.reduceToNat, Nat.reduceMul, Nat.reduceAdd, Nat.reduceBEq, isLd, k10, hc]
    exact hK'
  · simp (maxSteps := 300000) (disch := omega) only [gs, gs2, gs3, gs4, ↓reduceIte, Nat.reduceEqDiff, Int.reduceToNat, Nat.reduceMul, Nat.reduceAdd, Nat.reduceBEq, isLd, e0, e1, e2, e8, e9, e16, e17, show ((-1 : Int) < 0) = True from eq_true (by omega)]
    have hS : elS p R S k = ⟨S.f, S.piv, 0⟩ := by unfold elS; rw [fstRow_none hno]
    rw [hS] at hstep
    refine ⟨m - 1, by omega, G2, Sub.refl _, k + 1, A', c', Ap, cq, by rw [hstep], by rw [hstep], rfl, by omega, by omega, by rw [hstep]; exact hw, by rw [hstep]; exact hO, hOf, hda⟩
  · have hS : elS p R S k = ⟨clr (scl (swp S.f S.piv.length i) S.piv.length (invF (swp S.f S.piv.length i S.piv.length k) p) p) S.piv.length k p, S.piv ++ [(k : Int)], (if i = S.piv.length then S.det else (-S.det) % p) * swp S.f S.piv.length i S.piv.length k % p⟩ := by unfold elS; rw [fstRow_some hi1 hi2 hi3 hi4]
    rw [hS] at hstep
    have hsw : swp S.f S.piv.length i S.piv.length = S.f i := by unfold swp; rw [if_pos rfl]
    simp (maxSteps := 300000) (disch := omega) only [gs, gs2, gs3, gs4, ↓reduceIte, Nat.reduceEqDiff, Int.reduceToNat, Nat.reduceMul, Nat.reduceAdd, Nat.reduceBEq, isLd, e0, e1, e2, e8, e9, e16, e17]
    rw [decide_eq_false (show ¬ ((i - S.piv.length : Nat) : Int) < 0 by omega)]
    refine el_swap (X := elTail) (cp := cp) (k := k) (t := S.piv.length) (i := i) hw hR hp hi1 hi2 hdt kd hO hda (by simp (maxSteps := 300000) (disch := omega) only [gs, gs2, gs3, gs4, ↓reduceIte, Nat.reduceEqDiff, Int.reduceToNat, Nat.reduceMul, Nat.reduceAdd, Nat.reduceBEq, isLd, e0]) (by simp (maxSteps := 300000) (disch := omega) only [gs, gs2, gs3, gs4, ↓reduceIte, Nat.reduceEqDiff, Int.reduceToNat, Nat.reduceMul, Nat.reduceAdd, Nat.reduceBEq, isLd, e1]) (by simp (maxSteps := 300000) (disch := omega) only [gs, gs2, gs3, gs4, ↓reduceIte, Nat.reduceEqDiff, Int.reduceToNat, Nat.reduceMul, Nat.reduceAdd, Nat.reduceBEq, isLd, e2]) (by simp (maxSteps := 300000) (disch := omega) only [gs, gs2, gs3, gs4, ↓reduceIte, Nat.reduceEqDiff, Int.reduceToNat, Nat.reduceMul, Nat.reduceAdd, Nat.reduceBEq, isLd, e8]) (by simp (maxSteps := 300000) (disch := omega) only [gs, gs2, gs3, gs4, ↓reduceIte, Nat.reduceEqDiff, Int.reduceToNat, Nat.reduceMul, Nat.reduceAdd, Nat.reduceBEq, isLd, e9]) (by simp (maxSteps := 300000) (disch := omega) only [gs, gs2, gs3, gs4, ↓reduceIte, Nat.reduceEqDiff, Int.reduceToNat, Nat.reduceMul, Nat.reduceAdd, Nat.reduceBEq, isLd]) (by simp (maxSteps := 300000) (disch := omega) only [gs, gs2, gs3, gs4, ↓reduceIte, Nat.reduceEqDiff, Int.reduceToNat, Nat.reduceMul, Nat.reduceAdd, Nat.reduceBEq, isLd]) (by simp (maxSteps := 300000) (disch := omega) only [gs, gs2, gs3, gs4, ↓reduceIte, Nat.reduceEqDiff, Int.reduceToNat, Nat.reduceMul, Nat.reduceAdd, Nat.reduceBEq, isLd]) (by simp (maxSteps := 300000) (disch := omega) only [gs, gs2, gs3, gs4, ↓reduceIte, Nat.reduceEqDiff, Int.reduceToNat, Nat.reduceMul, Nat.reduceAdd, Nat.reduceBEq, isLd, e16]) (by simp (maxSteps := 300000) (disch := omega) only [gs, gs2, gs3, gs4, ↓reduceIte, Nat.reduceEqDiff, Int.reduceToNat, Nat.reduceMul, Nat.reduceAdd, Nat.reduceBEq, isLd, e17]) fun T2 G3 A3 c3 f0 f1 f2 f8 f9 f10 f11 f16 f17 hw3 hO3 kd3 => ?_
    have hd3 : 0 ≤ (if i = S.piv.length then S.det else (-S.det) % p) ∧ (if i = S.piv.length then S.det else (-S.det) % p) < p := by
      split
      · exact hdt
      · exact ⟨Int.emod_nonneg _ (by omega), Int.emod_lt_of_pos _ (by omega)⟩
    refine el_tail (cp := cp) (k := k) (t := S.piv.length) (g := swp S.f S.piv.length i) hw3 hR hC (hrg.swp _ _) hp (by omega) (by omega) hd3 (by rw [hsw]; exact hi3) kd3 hO3 hOf hda (by omega) f0 f1 f2 f8 f9 f10 f11 f16 f17 fun T4 G4 A4 c4 Ap4 cq4 g0 g1 g2 g8 g9 g16 g17 hw4 hO4 oH4 d4 => ?_
    simp (maxSteps := 300000) (disch := omega) only [gs, gs2, gs3, gs4, ↓reduceIte, Nat.reduceEqDiff, Int.reduceToNat, Nat.reduceMul, Nat.reduceAdd, Nat.reduceBEq, isLd, g0, g1, g2, g8, g9, g16, g17]
    refine ⟨m - 1, by omega, G4, Sub.refl _, k + 1, A4, c4, Ap4, cq4, ?_, ?_, rfl, by omega, by omega, by rw [hstep]; exact hw4, ?_, oH4, d4⟩
    · rw [hstep]; simp
    · rw [hstep]
    · rw [hstep]; exact hO4.cast rfl (by simp)
/-- rows to be read. -/
def RowsS (G : GH) (B : Option Addr) (R C : Nat) (f : Int → Int → Int) : Prop := ∃ (A : Nat → Option Addr) (c : Nat → Nat), (∀ i, i < R → rd G (pa B i) = some (.slice (A i) C (c i))) ∧ ∀ i : Nat, i < R → IntS G (A i) (c i) (rowL C (f i))
theorem RowsS.sub {G G' : GH} {B : Option Addr} {R C : Nat} {f : Int → Int → Int} (h : RowsS G B R C f) (s : Sub G G') : RowsS G' B R C f := by
  obtain ⟨A, c, h1, h2⟩ := h
  exact ⟨A, c, fun i hi => rd_sub s (h1 i hi), fun i hi => (h2 i hi).sub s⟩
theorem New.wo {G G' : GH} {A Z : Option Addr} {c : Nat} {xs : List Int} (h : New G G' A c (xs.map I64) 1 xs.length) (hZ : ∀ a, Z = some a → ∃ e, G a.block = some e) : IntS (Gh.wo G' Z) A c xs := by
  have hi := h.ints
  rcases h with ⟨_, _, h0, _, _⟩ | ⟨x, r, rfl, hx, rfl, _⟩
  · exact ⟨hi.cap, fun i hlt => by omega⟩
  · have hnz : ∀ a, Z = some a → a.block ≠ x := fun a ha e' => by
      obtain ⟨e2, h2⟩ := hZ a ha
      rw [e', hx] at h2; cases h2
    refine ⟨hi.cap, fun i hlt => ?_⟩
    have := hi.rd i hlt
    simp only [pa_mk, rd] at this ⊢
    rw [wo_ne hnz]; exact this
theorem rowsC_push (A : Nat → Option Addr) (c : Nat → Nat) (k C : Nat) (A' : Option Addr) (c' : Nat) : rowsC A c k C ++ [.slice A' C c'] = rowsC (fun i => if i = k then A' else A i) (fun i => if i = k then c' else c i) (k + 1) C := by
  unfold rowsC
  rw [List.range_succ, List.map_append, List.map_singleton]
  simp only [if_true]
  congr 1
  refine List.map_congr_left fun i hi => ?_
  have := List.mem_range.1 hi
  rw [if_neg (by omega), if_neg (by omega)]
theorem fcells_rowL (C : Nat) (g : Int → Int) : fcells C g = (rowL C g).map I64 := by
  unfold fcells rowL; rw [List.map_map]; rfl
/-- rows that are being built, all in blocks of their own. -/
def Bl2 (H G : GH) (Bo : Option Addr) (cb k C : Nat) (f : Int → Int → Int) : Prop := Sub H G ∧ Off H Bo ∧ ∃ (B cp : Nat → Nat) (rs : Nat → List Value), Own G Bo cb (rowsC (fun i => some ⟨B i, 0, none⟩) cp k C) 1 k ∧
  (∀ i : Nat, i < k → H (B i) = none ∧ wo G Bo (B i) = some ⟨fcells C (f i) ++ rs i, true⟩ ∧ C + (rs i).length = cp i) ∧ ∀ i j, i < k → j < k → B i = B j → i = j
theorem Bl2.up {H G G' : GH} {Bo : Option Addr} {cb k C : Nat} {f : Int → Int → Int} (h : Bl2 H G Bo cb k C f) (s : Sub G G') : Bl2 H G' Bo cb k C f := by
  obtain ⟨h1, h2, B, cp, rs, h3, h4, h5⟩ := h
  exact ⟨h1.trans s, h2, B, cp, rs, h3.sub s, fun i hi => ⟨(h4 i hi).1, wo_mono s Bo _ _ (h4 i hi).2.1, (h4 i hi).2.2⟩, h5⟩
theorem Bl2.start {H G : GH} {Bo : Option Addr} {cb C : Nat} {f : Int → Int → Int} (h : Own G Bo cb [] 1 0) (s : Sub H G) (o : Off H Bo) : Bl2 H G Bo cb 0 C f := ⟨s, o, fun _ => 0, fun _ => 0, fun _ => [], h, fun i hi => by omega, fun i j hi => by omega⟩
theorem Own.isSome {G : GH} {A : Option Addr} {c sz n : Nat} {cs : List Value} (h : Own G A c cs sz n) : ∀ a, A = some a → ∃ e, G a.block = some e := fun a ha => by
  rcases h with ⟨h0, _⟩ | ⟨x, r, h0, h1, _⟩
  · rw [h0] at ha; cases ha
  · rw [h0] at ha; cases ha; exact ⟨_, h1⟩
theorem Bl2.push {H G0 G1 G : GH} {Bo Bn A' : Option Addr} {cb k C c' dn : Nat} {f : Int → Int → Int} (h : Bl2 H G0 Bo cb k C f) (hN : New G0 G1 A' c' ((rowL C (f k)).map I64) 1 C) (hC : 0 < C) (s : Sub G1 G) (hn : Cells G Bn [.slice A' C c']) (hk : k < 2 ^ 20) {K : Value → GH → Prop}
    (hK : ∀ G' B' cb', Bl2 H G' B' cb' (k + 1) C f → K (.slice B' (k + 1) cb') G') : gAp 1 24 [.slice none 0 0] (.slice Bo k cb) (.slice Bn 1 dn) G K := by
  obtain ⟨g1, g2, B, cp, rs, h3, h4, h5⟩ := h
  have st := hN.sub.trans s
  have hZ := h3.isSome
  rcases hN with ⟨_, _, h0, _, _⟩ | ⟨bn, r, rfl, hbn, rfl, hl1, hl2, _⟩
  · omega
  rw [List.length_append, hl1] at hl2
  have hnz : ∀ a, Bo = some a → a.block ≠ bn := fun a ha e => by
    obtain ⟨e2, he2⟩ := hZ a ha
    rw [e, hbn] at he2; cases he2
  have hGn : wo G Bo bn = some ⟨fcells C (f k) ++ r, true⟩ := by
    rw [wo_ne hnz, fcells_rowL]; exact s _ _ (put_same _ _ _)
  refine ap_own (h3.sub st) hn rfl (by intro v hv; simp at hv; subst hv; rfl) rfl (by omega) (by omega) (by omega) fun G' B' cb' hO keep => hK G' B' cb' ?_
  obtain ⟨sk, ok⟩ := keep _ (Sub.wo _ _) (Off.wo _ _)
  have s0' : Sub H (wo G Bo) := fun x e hx => by
    rw [wo_ne fun a ha e' => by have := g2 a ha; rw [e', hx] at this; cases this]
    exact (g1.trans st) _ _ hx
  have s1 : Sub (wo G Bo) (wo G' B') := fun x e hx => by
    rw [wo_ne fun a ha e' => by have := ok a ha; rw [e', hx] at this; cases this]
    exact sk _ _ hx
  have hne : ∀ i, i < k → B i ≠ bn := fun i hi e => by
    have := Sub.wo _ _ _ _ (h4 i hi).2.1
    rw [e, hbn] at this; cases this
  refine ⟨s0'.trans sk, ok.mono s0', fun i => if i = k then bn else B i, fun i => if i = k then c' else cp i, fun i => if i = k then r else rs i, hO.cast ?_ rfl, fun i hi => ?_, fun i j hi hj e => ?_⟩
  · rw [rowsC_push]
    unfold rowsC
    refine List.map_congr_left fun i _ => ?_
    by_cases e : i = k
    · simp only [if_pos e]
    · simp only [if_neg e]
  · by_cases e : i = k
    · subst e; simp only [if_true]; exact ⟨g1.none hbn, s1 _ _ hGn, by omega⟩
    · simp only [if_neg e]; exact ⟨(h4 i (by omega)).1, s1 _ _ (wo_mono st Bo _ _ (h4 i (by omega)).2.1), (h4 i (by omega)).2.2⟩
  · by_cases e1 : i = k
    · by_cases e2 : j = k
      · omega
      · simp only [if_pos e1, if_neg e2] at e; exact absurd e.symm (hne j (by omega))
    · by_cases e2 : j = k
      · simp only [if_neg e1, if_pos e2] at e; exact absurd e (hne i (by omega))
      · simp only [if_neg e1, if_neg e2] at e; exact h5 i j (by omega) (by omega) e
/-- a place goes to the front. -/
def cy (r : Nat) (i : Int) : Int := if i = 0 then r else if i ≤ r then i - 1 else i
def sk (r i : Int) : Int := if i < r then i else i + 1
/-- the minor without a row and its column. -/
def mi (n : Nat) (f : Int → Int → Int) (r : Int) : Int := dt n fun i j => f (sk r i) (sk r j)
def lo (a b n : Nat) : Nat := if n ≤ a then n else if n ≤ b then n - 1 else n - 2
theorem sq_small {d p : Int} (h0 : 0 ≤ d) (h : d * d ≤ p) (hp : p ≤ 251) : d ≤ 15 := by
  apply Classical.byContradiction
  intro hc
  have : 16 * 16 ≤ d * d := Int.mul_le_mul (by omega) (by omega) (by omega) (by omega)
  omega
theorem sq_big {k d p : Int} (h0 : 0 ≤ d) (hd : d ≤ k) (h : ¬ d * d ≤ p) : ¬ k * k ≤ p := by
  have : d * d ≤ k * k := Int.mul_le_mul hd hd h0 (by omega)
  omega
theorem impl_ValidPrime_ok {p : Int} {G : GH} {K : Value → GH → Prop} (hk : ∀ b : Bool, (b = true ↔ PrimeP p) → K (.bool b) G) : GC Try.prog 225 [.int .i64 p] G K := by
  refine c_impl_ValidPrime_i (by simp) ?_
  simp (maxSteps := 300000) (disch := omega) only [gs, gs2, gs3, gs4, ↓reduceIte, Nat.reduceEqDiff, Int.reduceToNat, Nat.reduceMul, Nat.reduceAdd, Nat.reduceBEq, isLd]
  refine impl_within_ok _ _ _ ?_
  simp (maxSteps := 300000) (disch := omega) only [gs, gs2, gs3, gs4, ↓reduceIte, Nat.reduceEqDiff, Int.reduceToNat, Nat.reduceMul, Nat.reduceAdd, Nat.reduceBEq, isLd]
  by_cases h1 : 2 ≤ p ∧ p ≤ 251
  rotate_left
  · rw [decide_eq_false h1]
    simp (maxSteps := 300000) (disch := omega) only [gs, gs2, gs3, gs4, ↓reduceIte, Nat.reduceEqDiff, Int.reduceToNat, Nat.reduceMul, Nat.reduceAdd, Nat.reduceBEq, isLd]
    exact hk false ⟨fun x => (by cases x), fun x => absurd x.1 h1⟩
  rw [decide_eq_true h1]
  simp (maxSteps := 300000) (disch := omega) only [gs, gs2, gs3, gs4, ↓reduceIte, Nat.reduceEqDiff, Int.reduceToNat, Nat.reduceMul, Nat.reduceAdd, Nat.reduceBEq, isLd]
  refine gLoop_intro (fun m T G' => ∃ d : Int, T 0 = .int .i64 p ∧ T 3 = .int .i64 d ∧ m = (20 - d).toNat ∧ 2 ≤ d ∧ d ≤ 16 ∧ G = G' ∧ ∀ k : Int, 2 ≤ k → k < d → p % k ≠ 0)
    18 ⟨2, by simp (maxSteps := 300000) (disch := omega) only [gs, gs2, gs3, gs4, ↓reduceIte, Nat.reduceEqDiff, Int.reduceToNat, Nat.reduceMul, Nat.reduceAdd, Nat.reduceBEq, isLd], by simp (maxSteps := 300000) (disch := omega) only [gs, gs2, gs3, gs4, ↓reduceIte, Nat.reduceEqDiff, Int.reduceToNat, Nat.reduceMul, Nat.reduceAdd, Nat.reduceBEq, isLd], rfl, by omega, by omega, rfl, fun k h1 h2 => by omega⟩ ?_
  rintro m T G' ⟨d, e0, e3, rfl, hd, hd2, rfl, hno⟩
  have hmm := mulB (a := d) (b := d) (A := 16) (B := 16) (by omega) (by omega)
  have w1 := w64 (d * d) (by omega) (by omega)
  have hrm : p.tmod d = p % d := Int.tmod_eq_emod_of_nonneg (by omega)
  simp (maxSteps := 300000) (disch := omega) only [gs, gs2, gs3, gs4, ↓reduceIte, Nat.reduceEqDiff, Int.reduceToNat, Nat.reduceMul, Nat.reduceAdd, Nat.reduceBEq, isLd, e0, e3, w1]
  by_cases hdp : d * d ≤ p
  · have hd15 := sq_small (by omega) hdp h1.2
    simp (maxSteps := 300000) (disch := omega) only [gs, gs2, gs3, gs4, ↓reduceIte, Nat.reduceEqDiff, Int.reduceToNat, Nat.reduceMul, Nat.reduceAdd, Nat.reduceBEq, isLd, e0, e3, w1, hdp, bin_rem .i64 p d (by omega), hrm]
    by_cases hz : p % d = 0
    · simp (maxSteps := 300000) (disch := omega) only [gs, gs2, gs3, gs4, ↓reduceIte, Nat.reduceEqDiff, Int.reduceToNat, Nat.reduceMul, Nat.reduceAdd, Nat.reduceBEq, isLd, e0, e3, eq_true hz]
      exact hk false ⟨fun x => (by cases x), fun x => absurd hz (x.2 d hd hdp)⟩
    · simp (maxSteps := 300000) (disch := omega) only [gs, gs2, gs3, gs4, ↓reduceIte, Nat.reduceEqDiff, Int.reduceToNat, Nat.reduceMul, Nat.reduceAdd, Nat.reduceBEq, isLd, e0, e3, eq_false hz]
      exact ⟨(20 - (d + 1)).toNat, by omega, G, Sub.refl _, d + 1, rfl, rfl, by omega, by omega, rfl, fun k k1 k2 => by
        by_cases e : k = d
        · rw [e]; exact hz
        · exact hno k k1 (by omega)⟩
  · simp (maxSteps := 300000) (disch := omega) only [gs, gs2, gs3, gs4, ↓reduceIte, Nat.reduceEqDiff, Int.reduceToNat, Nat.reduceMul, Nat.reduceAdd, Nat.reduceBEq, isLd, e0, e3, w1, hdp]
    exact hk true ⟨fun _ => ⟨h1, fun k k1 k2 => by
      by_cases e : k < d
      · exact hno k k1 e
      · exact absurd k2 (sq_big (by omega) (by omega) hdp)⟩, fun _ => rfl⟩
theorem spec_l02Prime_ok {p : Int} {G : GH} {K : Value → GH → Prop} (hk : ∀ b : Bool, (b = true ↔ PrimeP p) → K (.bool b) G) : GC Try.prog 158 [.int .i64 p] G K := by
  refine c_spec_l02Prime_i (by simp) ?_
  simp (maxSteps := 300000) (disch := omega) only [gs, gs2, gs3, gs4, ↓reduceIte, Nat.reduceEqDiff, Int.reduceToNat, Nat.reduceMul, Nat.reduceAdd, Nat.reduceBEq, isLd]
  refine spec_l00In_ok _ _ _ ?_
  simp (maxSteps := 300000) (disch := omega) only [gs, gs2, gs3, gs4, ↓reduceIte, Nat.reduceEqDiff, Int.reduceToNat, Nat.reduceMul, Nat.reduceAdd, Nat.reduceBEq, isLd]
  by_cases h1 : 2 ≤ p ∧ p ≤ 251
  rotate_left
  · rw [decide_eq_false h1]
    simp (maxSteps := 300000) (disch := omega) only [gs, gs2, gs3, gs4, ↓reduceIte, Nat.reduceEqDiff, Int.reduceToNat, Nat.reduceMul, Nat.reduceAdd, Nat.reduceBEq, isLd]
    exact hk false ⟨fun x => (by cases x), fun x => absurd x.1 h1⟩
  rw [decide_eq_true h1]
  simp (maxSteps := 300000) (disch := omega) only [gs, gs2, gs3, gs4, ↓reduceIte, Nat.reduceEqDiff, Int.reduceToNat, Nat.reduceMul, Nat.reduceAdd, Nat.reduceBEq, isLd]
  refine gLoop_intro (fun m T G' => ∃ d : Int, T 0 = .int .i64 p ∧ T 3 = .int .i64 d ∧ m = (20 - d).toNat ∧ 2 ≤ d ∧ d ≤ 16 ∧ G = G' ∧ ∀ k : Int, 2 ≤ k → k < d → p % k ≠ 0)
    18 ⟨2, by simp (maxSteps := 300000) (disch := omega) only [gs, gs2, gs3, gs4, ↓reduceIte, Nat.reduceEqDiff, Int.reduceToNat, Nat.reduceMul, Nat.reduceAdd, Nat.reduceBEq, isLd], by simp (maxSteps := 300000) (disch := omega) only [gs, gs2, gs3, gs4, ↓reduceIte, Nat.reduceEqDiff, Int.reduceToNat, Nat.reduceMul, Nat.reduceAdd, Nat.reduceBEq, isLd], rfl, by omega, by omega, rfl, fun k h1 h2 => by omega⟩ ?_
  rintro m T G' ⟨d, e0, e3, rfl, hd, hd2, rfl, hno⟩
  have hmm := mulB (a := d) (b := d) (A := 16) (B := 16) (by omega) (by omega)
  have w1 := w64 (d * d) (by omega) (by omega)
  have hrm : p.tmod d = p % d := Int.tmod_eq_emod_of_nonneg (by omega)
  simp (maxSteps := 300000) (disch := omega) only [gs, gs2, gs3, gs4, ↓reduceIte, Nat.reduceEqDiff, Int.reduceToNat, Nat.reduceMul, Nat.reduceAdd, Nat.reduceBEq, isLd, e0, e3, w1]
  by_cases hdp : d * d ≤ p
  · have hd15 := sq_small (by omega) hdp h1.2
    simp (maxSteps := 300000) (disch := omega) only [gs, gs2, gs3, gs4, ↓reduceIte, Nat.reduceEqDiff, Int.reduceToNat, Nat.reduceMul, Nat.reduceAdd, Nat.reduceBEq, isLd, e0, e3, w1, hdp, bin_rem .i64 p d (by omega), hrm]
    by_cases hz : p % d = 0
    · simp (maxSteps := 300000) (disch := omega) only [gs, gs2, gs3, gs4, ↓reduceIte, Nat.reduceEqDiff, Int.reduceToNat, Nat.reduceMul, Nat.reduceAdd, Nat.reduceBEq, isLd, e0, e3, eq_true hz]
      exact hk false ⟨fun x => (by cases x), fun x => absurd hz (x.2 d hd hdp)⟩
    · simp (maxSteps := 300000) (disch := omega) only [gs, gs2, gs3, gs4, ↓reduceIte, Nat.reduceEqDiff, Int.reduceToNat, Nat.reduceMul, Nat.reduceAdd, Nat.reduceBEq, isLd, e0, e3, eq_false hz]
      exact ⟨(20 - (d + 1)).toNat, by omega, G, Sub.refl _, d + 1, rfl, rfl, by omega, by omega, rfl, fun k k1 k2 => by
        by_cases e : k = d
        · rw [e]; exact hz
        · exact hno k k1 (by omega)⟩
  · simp (maxSteps := 300000) (disch := omega) only [gs, gs2, gs3, gs4, ↓reduceIte, Nat.reduceEqDiff, Int.reduceToNat, Nat.reduceMul, Nat.reduceAdd, Nat.reduceBEq, isLd, e0, e3, w1, hdp]
    exact hk true ⟨fun _ => ⟨h1, fun k k1 k2 => by
      by_cases e : k < d
      · exact hno k k1 e
      · exact absurd k2 (sq_big (by omega) (by omega) hdp)⟩, fun _ => rfl⟩
theorem spec_l02Numbers_ok {G : GH} {A : Option Addr} {c : Nat} {xs : List Int} {p : Int} (h : IntS G A c xs) (hl : xs.length < 2 ^ 40) (hp : 1 ≤ p ∧ p ≤ 251) {K : Value → GH → Prop} (hk : ∀ b : Bool, (b = true ↔ InB xs 0 (p - 1) ∧ xs.length ≤ 64) → K (.bool b) G) : GC Try.prog 159 [.slice A xs.length c, .int .i64 p] G K := by
  refine c_spec_l02Numbers_i (by simp) ?_
  simp (maxSteps := 300000) (disch := omega) only [gs, gs2, gs3, gs4, ↓reduceIte, Nat.reduceEqDiff, Int.reduceToNat, Nat.reduceMul, Nat.reduceAdd, Nat.reduceBEq, isLd]
  refine gLoop_intro (fun m T G' => ∃ k : Nat, T 0 = .slice A xs.length c ∧ T 1 = .int .i64 p ∧ T 5 = .int .i64 k ∧ m + k = xs.length ∧ k ≤ xs.length ∧ G = G' ∧ ∀ i, i < k → 0 ≤ xs.getD i 0 ∧ xs.getD i 0 ≤ p - 1)
    xs.length ⟨0, by simp (maxSteps := 300000) (disch := omega) only [gs, gs2, gs3, gs4, ↓reduceIte, Nat.reduceEqDiff, Int.reduceToNat, Nat.reduceMul, Nat.reduceAdd, Nat.reduceBEq, isLd], by simp (maxSteps := 300000) (disch := omega) only [gs, gs2, gs3, gs4, ↓reduceIte, Nat.reduceEqDiff, Int.reduceToNat, Nat.reduceMul, Nat.reduceAdd, Nat.reduceBEq, isLd], by simp (maxSteps := 300000) (disch := omega) only [gs, gs2, gs3, gs4, ↓reduceIte, Nat.reduceEqDiff, Int.reduceToNat, Nat.reduceMul, Nat.reduceAdd, Nat.reduceBEq, isLd] <;> rfl, by omega, by omega, rfl, fun i hi => by omega⟩ ?_
  rintro m T G' ⟨k, e0, e1, e5, hm, hkm, rfl, hall⟩
  simp (maxSteps := 300000) (disch := omega) only [gs, gs2, gs3, gs4, ↓reduceIte, Nat.reduceEqDiff, Int.reduceToNat, Nat.reduceMul, Nat.reduceAdd, Nat.reduceBEq, isLd, e0, e1, e5]
  by_cases hkk : (k : Int) < xs.length
  · have r := h.rd k (by omega)
    have hsn := h.sn (by omega)
    simp (maxSteps := 300000) (disch := omega) only [gs, gs2, gs3, gs4, ↓reduceIte, Nat.reduceEqDiff, Int.reduceToNat, Nat.reduceMul, Nat.reduceAdd, Nat.reduceBEq, isLd, e0, e1, e5, hkk, r]
    refine spec_l00In_ok _ _ _ ?_
    simp (maxSteps := 300000) (disch := omega) only [gs, gs2, gs3, gs4, ↓reduceIte, Nat.reduceEqDiff, Int.reduceToNat, Nat.reduceMul, Nat.reduceAdd, Nat.reduceBEq, isLd, e0, e1, e5]
    by_cases hb : 0 ≤ xs.getD k 0 ∧ xs.getD k 0 ≤ p - 1
    · rw [decide_eq_true hb]
      simp (maxSteps := 300000) (disch := omega) only [gs, gs2, gs3, gs4, ↓reduceIte, Nat.reduceEqDiff, Int.reduceToNat, Nat.reduceMul, Nat.reduceAdd, Nat.reduceBEq, isLd, e0, e1, e5]
      exact ⟨m - 1, by omega, G, Sub.refl _, k + 1, rfl, by omega, by omega, rfl, fun i hi => by
        by_cases e : i = k
        · rw [e]; exact hb
        · exact hall i (by omega)⟩
    · rw [decide_eq_false hb]
      simp (maxSteps := 300000) (disch := omega) only [gs, gs2, gs3, gs4, ↓reduceIte, Nat.reduceEqDiff, Int.reduceToNat, Nat.reduceMul, Nat.reduceAdd, Nat.reduceBEq, isLd, e0, e1, e5]
      exact hk false ⟨fun x => (by cases x), fun x => absurd (x.1 k (by omega)) hb⟩
  · simp (maxSteps := 300000) (disch := omega) only [gs, gs2, gs3, gs4, ↓reduceIte, Nat.reduceEqDiff, Int.reduceToNat, Nat.reduceMul, Nat.reduceAdd, Nat.reduceBEq, isLd, e0, e1, e5, hkk]
    by_cases h64 : (xs.length : Int) ≤ 64
    · rw [decide_eq_true h64]
      exact hk true ⟨fun _ => ⟨fun i hi => hall i (by omega), by omega⟩, fun _ => rfl⟩
    · rw [decide_eq_false h64]
      exact hk false ⟨fun x => (by cases x), fun x => by omega⟩
theorem impl_ValidVector_ok {G : GH} {A : Option Addr} {c : Nat} {xs : List Int} {p : Int} (h : IntS G A c xs) (hl : xs.length < 2 ^ 40) {K : Value → GH → Prop} (hk : ∀ b : Bool, (b = true ↔ PrimeP p ∧ InB xs 0 (p - 1) ∧ xs.length ≤ 64) → K (.bool b) G) : GC Try.prog 164 [.slice A xs.length c, .int .i64 p] G K := by
  refine c_impl_ValidVector_i (by simp) ?_
  simp (maxSteps := 300000) (disch := omega) only [gs, gs2, gs3, gs4, ↓reduceIte, Nat.reduceEqDiff, Int.reduceToNat, Nat.reduceMul, Nat.reduceAdd, Nat.reduceBEq, isLd]
  refine impl_ValidPrime_ok fun b hb => ?_
  cases b
  · simp (maxSteps := 300000) (disch := omega) only [gs, gs2, gs3, gs4, ↓reduceIte, Nat.reduceEqDiff, Int.reduceToNat, Nat.reduceMul, Nat.reduceAdd, Nat.reduceBEq, isLd]
    exact hk false ⟨fun x => (by cases x), fun x => by have := hb.2 x.1; cases this⟩
  have hp := hb.1 rfl
  have hp1 := hp.1
  simp (maxSteps := 300000) (disch := omega) only [gs, gs2, gs3, gs4, ↓reduceIte, Nat.reduceEqDiff, Int.reduceToNat, Nat.reduceMul, Nat.reduceAdd, Nat.reduceBEq, isLd]
  by_cases h64 : (xs.length : Int) ≤ 64
  · rw [decide_eq_true h64]
    simp (maxSteps := 300000) (disch := omega) only [gs, gs2, gs3, gs4, ↓reduceIte, Nat.reduceEqDiff, Int.reduceToNat, Nat.reduceMul, Nat.reduceAdd, Nat.reduceBEq, isLd]
    refine impl_areElements_ok h hl fun b hb => ?_
    rw [w64 (p - 1) (by omega) (by omega)] at hb
    simp (maxSteps := 300000) (disch := omega) only [gs, gs2, gs3, gs4, ↓reduceIte, Nat.reduceEqDiff, Int.reduceToNat, Nat.reduceMul, Nat.reduceAdd, Nat.reduceBEq, isLd]
    exact hk b ⟨fun x => ⟨hp, hb.1 x, by omega⟩, fun x => hb.2 x.2.1⟩
  · rw [decide_eq_false h64]
    simp (maxSteps := 300000) (disch := omega) only [gs, gs2, gs3, gs4, ↓reduceIte, Nat.reduceEqDiff, Int.reduceToNat, Nat.reduceMul, Nat.reduceAdd, Nat.reduceBEq, isLd]
    exact hk false ⟨fun x => (by cases x), fun x => by omega⟩
/-- the cells of a matrix, row after row. -/
def flatL (R C : Nat) (f : Int → Int → Int) : List Int := (List.range (R * C)).map fun v : Nat => f ((v / C : Nat) : Int) ((v % C : Nat) : Int)
theorem flatL_len (R C : Nat) (f : Int → Int → Int) : (flatL R C f).length = R * C := by simp [flatL]
theorem flat_nat {i j R C : Nat} (hi : i < R) (hj : j < C) : i * C + j < R * C := by
  have : (i + 1) * C ≤ R * C := Nat.mul_le_mul_right C hi
  rw [Nat.add_mul, Nat.one_mul] at this
  omega
theorem flatL_get {R C : Nat} (f : Int → Int → Int) {i j : Nat} (hi : i < R) (hj : j < C) : (flatL R C f).getD (i * C + j) 0 = f i j := by
  have h := flat_nat hi hj
  have h1 : (i * C + j) / C = i := by rw [Nat.mul_comm, Nat.mul_add_div (by omega), Nat.div_eq_of_lt hj, Nat.add_zero]
  have h2 : (i * C + j) % C = j := by rw [Nat.mul_comm, Nat.mul_add_mod, Nat.mod_eq_of_lt hj]
  simp only [flatL, List.getD, List.getElem?_map]
  rw [List.getElem?_range h]
  show f (((i * C + j) / C : Nat) : Int) (((i * C + j) % C : Nat) : Int) = _
  rw [h1, h2]
def matC (p : Int) (R C : Nat) (A : Option Addr) (L c : Nat) : List Value := [.int .i64 p, .int .i64 R, .int .i64 C, .slice A L c]
abbrev matV (p : Int) (R C : Nat) (A : Option Addr) (L c : Nat) : Value := .agg (matC p R C A L c).toArray
/-- a row of a matrix, as a part of the cells. -/
theorem row_ints {G : GH} {A : Option Addr} {c R C : Nat} {f : Int → Int → Int} (h : IntS G A c (flatL R C f)) {i : Nat} (hi : i < R) : IntS G (pa A (i * C)) (c - i * C) (rowL C (f i)) := by
  have hc := h.cap
  rw [flatL_len] at hc
  refine ⟨?_, fun j hj => ?_⟩
  · rw [rowL_len]
    have : (i + 1) * C ≤ R * C := Nat.mul_le_mul_right C hi
    rw [Nat.add_mul, Nat.one_mul] at this
    omega
  · rw [rowL_len] at hj
    rw [pa_pa, rowL_get _ hj, ← flatL_get f hi hj]
    exact h.rd _ (by rw [flatL_len]; exact flat_nat hi hj)
theorem sl_row {A : Option Addr} {R C c i : Nat} (hi : i < R) (hC : 0 < C) (hc : R * C ≤ c) : slV 1 (.slice A (R * C) c) (some (.int .i64 ((i : Int) * C))) (some (.int .i64 (((i : Int) + 1) * C))) = some (.slice (pa A (i * C)) C (c - i * C)) := by
  have h1 : (i + 1) * C ≤ R * C := Nat.mul_le_mul_right C hi
  have h2 : (i + 1) * C = i * C + C := by rw [Nat.add_mul, Nat.one_mul]
  have e1 : ((i : Int) * C) = ((i * C : Nat) : Int) := by push_cast; rfl
  have e2 : (((i : Int) + 1) * C) = ((i * C + C : Nat) : Int) := by rw [← h2]; push_cast; rfl
  rw [e1, e2]
  simp only [slV, onSl, bndV, onInt]
  rw [if_pos ⟨by omega, by omega⟩]
  simp only [Option.bind_some, Int.toNat_natCast]
  rw [if_pos ⟨by omega, by omega⟩]
  simp only [Option.bind_some, Int.toNat_natCast]
  rw [if_pos (by omega), if_neg (by omega), Nat.mul_one, show i * C + C - i * C = C by omega]
theorem impl_row_ok {G : GH} {p : Int} {A : Option Addr} {R C c i : Nat} (hi : i < R) (hC : 0 < C ∧ C ≤ 2 ^ 20) (hR : R ≤ 2 ^ 20) (hc : R * C ≤ c) {K : Value → GH → Prop} (hk : K (.slice (pa A (i * C)) C (c - i * C)) G) : GC Try.prog 168 [matV p R C A (R * C) c, .int .i64 i] G K := by
  refine GC_drop (c_impl_Matrix_row_i (by simp) ?_)
  unfold matV matC
  simp (maxSteps := 300000) (disch := omega) only [gs, gs2, gs3, gs4, ↓reduceIte, Nat.reduceEqDiff, Int.reduceToNat, Nat.reduceMul, Nat.reduceAdd, Nat.reduceBEq, isLd]
  intro b2 hb2
  have s2 := Sub.put hb2 ⟨[.int .i64 p, .int .i64 R, .int .i64 C, .slice A (R * C) c], true⟩
  have r2 : rd (put G b2 ⟨[.int .i64 p, .int .i64 R, .int .i64 C, .slice A (R * C) c], true⟩) (some ⟨b2, 2, none⟩) = some (.int .i64 C) := rd_box _ _ _ 2 _ rfl
  have r3 : rd (put G b2 ⟨[.int .i64 p, .int .i64 R, .int .i64 C, .slice A (R * C) c], true⟩) (some ⟨b2, 3, none⟩) = some (.slice A (R * C) c) := rd_box _ _ _ 3 _ rfl
  revert s2 r2 r3
  generalize put G b2 ⟨[.int .i64 p, .int .i64 R, .int .i64 C, .slice A (R * C) c], true⟩ = G1
  intro s2 r2 r3
  have m1 := mulB (a := (i : Int)) (b := (C : Int)) (A := 2 ^ 21) (B := 2 ^ 21) (by omega) (by omega)
  have m2 := mulB (a := (i : Int) + 1) (b := (C : Int)) (A := 2 ^ 21) (B := 2 ^ 21) (by omega) (by omega)
  have w1 := w64 ((i : Int) * C) (by omega) (by omega)
  have w2 := w64 (((i : Int) + 1) * C) (by omega) (by omega)
  simp (maxSteps := 300000) (disch := omega) only [gs, gs2, gs3, gs4, ↓reduceIte, Nat.reduceEqDiff, Int.reduceToNat, Nat.reduceMul, Nat.reduceAdd, Nat.reduceBEq, isLd, r2, r3, w1, w2, sl_row hi hC.1 hc]
  exact ⟨G, s2, hk⟩
theorem impl_rowsOf_ok {G : GH} {p : Int} {A : Option Addr} {R C c : Nat} {f : Int → Int → Int} (h : IntS G A c (flatL R C f)) (hC : 0 < C ∧ C ≤ 2 ^ 10) (hR : R ≤ 2 ^ 10) {K : Value → GH → Prop}
    (hk : ∀ G' Bo cb, Bl2 G G' Bo cb R C f → K (.slice Bo R cb) G') : GC Try.prog 230 [matV p R C A (R * C) c] G K := by
  refine GC_drop (c_impl_rowsOf_i (by simp) ?_)
  have hc := h.cap
  rw [flatL_len] at hc
  unfold matV matC
  simp (maxSteps := 300000) (disch := omega) only [gs, gs2, gs3, gs4, ↓reduceIte, Nat.reduceEqDiff, Int.reduceToNat, Nat.reduceMul, Nat.reduceAdd, Nat.reduceBEq, isLd]
  intro b1 hb1
  have s1 := Sub.put hb1 ⟨[.int .i64 p, .int .i64 R, .int .i64 C, .slice A (R * C) c], true⟩
  have r0 : rd (put G b1 ⟨[.int .i64 p, .int .i64 R, .int .i64 C, .slice A (R * C) c], true⟩) (some ⟨b1, 0, none⟩) = some (.int .i64 p) := rd_box _ _ _ 0 _ rfl
  have r1 : rd (put G b1 ⟨[.int .i64 p, .int .i64 R, .int .i64 C, .slice A (R * C) c], true⟩) (some ⟨b1, 1, none⟩) = some (.int .i64 R) := rd_box _ _ _ 1 _ rfl
  have r2 : rd (put G b1 ⟨[.int .i64 p, .int .i64 R, .int .i64 C, .slice A (R * C) c], true⟩) (some ⟨b1, 2, none⟩) = some (.int .i64 C) := rd_box _ _ _ 2 _ rfl
  have r3 : rd (put G b1 ⟨[.int .i64 p, .int .i64 R, .int .i64 C, .slice A (R * C) c], true⟩) (some ⟨b1, 3, none⟩) = some (.slice A (R * C) c) := rd_box _ _ _ 3 _ rfl
  revert s1 r0 r1 r2 r3
  generalize put G b1 ⟨[.int .i64 p, .int .i64 R, .int .i64 C, .slice A (R * C) c], true⟩ = G1
  intro s1 r0 r1 r2 r3
  simp (maxSteps := 300000) (disch := omega) only [gs, gs2, gs3, gs4, ↓reduceIte, Nat.reduceEqDiff, Int.reduceToNat, Nat.reduceMul, Nat.reduceAdd, Nat.reduceBEq, isLd, r1]
  refine gLoop_intro (fun m T G' => ∃ (i : Nat) (Bo : Option Addr) (cb : Nat), T 1 = .pointer (some ⟨b1, 0, none⟩) ∧ T 3 = .slice Bo i cb ∧ T 6 = .int .i64 R ∧ T 7 = .int .i64 i ∧ m + i = R ∧ i ≤ R ∧ Bl2 G1 G' Bo cb i C f)
    R ⟨0, none, 0, by simp (maxSteps := 300000) (disch := omega) only [gs, gs2, gs3, gs4, ↓reduceIte, Nat.reduceEqDiff, Int.reduceToNat, Nat.reduceMul, Nat.reduceAdd, Nat.reduceBEq, isLd], by simp (maxSteps := 300000) (disch := omega) only [gs, gs2, gs3, gs4, ↓reduceIte, Nat.reduceEqDiff, Int.reduceToNat, Nat.reduceMul, Nat.reduceAdd, Nat.reduceBEq, isLd], by simp (maxSteps := 300000) (disch := omega) only [gs, gs2, gs3, gs4, ↓reduceIte, Nat.reduceEqDiff, Int.reduceToNat, Nat.reduceMul, Nat.reduceAdd, Nat.reduceBEq, isLd], by simp (maxSteps := 300000) (disch := omega) only [gs, gs2, gs3, gs4, ↓reduceIte, Nat.reduceEqDiff, Int.reduceToNat, Nat.reduceMul, Nat.reduceAdd, Nat.reduceBEq, isLd] <;> rfl, by omega, by omega, Bl2.start (Own.nil _ _) (Sub.refl _) (Off.nil _)⟩ ?_
  rintro m T G' ⟨i, Bo, cb, e1, e3, e6, e7, hm, hi, hB⟩
  simp (maxSteps := 300000) (disch := omega) only [gs, gs2, gs3, gs4, ↓reduceIte, Nat.reduceEqDiff, Int.reduceToNat, Nat.reduceMul, Nat.reduceAdd, Nat.reduceBEq, isLd, e1, e3, e6, e7]
  by_cases hii : (i : Int) < R
  · have q0 := rd_sub hB.1 r0
    have q1 := rd_sub hB.1 r1
    have q2 := rd_sub hB.1 r2
    have q3 := rd_sub hB.1 r3
    simp (maxSteps := 300000) (disch := omega) only [gs, gs2, gs3, gs4, ↓reduceIte, Nat.reduceEqDiff, Int.reduceToNat, Nat.reduceMul, Nat.reduceAdd, Nat.reduceBEq, isLd, e1, e3, e6, e7, hii, q0, q1, q2, q3]
    refine impl_row_ok (p := p) (R := R) (C := C) (A := A) (c := c) (i := i) (by omega) ⟨hC.1, by omega⟩ (by omega) hc ?_
    simp (maxSteps := 300000) (disch := omega) only [gs, gs2, gs3, gs4, ↓reduceIte, Nat.reduceEqDiff, Int.reduceToNat, Nat.reduceMul, Nat.reduceAdd, Nat.reduceBEq, isLd, e1, e3, e6, e7]
    have hrow := row_ints ((h.sub s1).sub hB.1) (show i < R by omega)
    rw [show Value.slice (pa A (i * C)) C (c - i * C) = .slice (pa A (i * C)) (rowL C (f i)).length (c - i * C) by rw [rowL_len]]
    refine slices_Clone_ok hrow (by rw [rowL_len]; omega) fun G2 A2 c2 hN => ?_
    rw [rowL_len] at hN ⊢
    simp (maxSteps := 300000) (disch := omega) only [gs, gs2, gs3, gs4, ↓reduceIte, Nat.reduceEqDiff, Int.reduceToNat, Nat.reduceMul, Nat.reduceAdd, Nat.reduceBEq, isLd, e1, e3, e6, e7, gBs]
    refine ⟨by intro v hv; simp at hv; subst hv; rfl, fun b15 hb15 => ?_⟩
    refine hB.push hN hC.1 (Sub.put hb15 _) (cells_one [.slice A2 C c2] true) (by omega) fun G4 B4 c4 hB4 => ?_
    simp (maxSteps := 300000) (disch := omega) only [gs, gs2, gs3, gs4, ↓reduceIte, Nat.reduceEqDiff, Int.reduceToNat, Nat.reduceMul, Nat.reduceAdd, Nat.reduceBEq, isLd, e1, e3, e6, e7]
    exact ⟨m - 1, by omega, G4, Sub.refl _, i + 1, B4, c4, rfl, rfl, by omega, by omega, hB4⟩
  · simp (maxSteps := 300000) (disch := omega) only [gs, gs2, gs3, gs4, ↓reduceIte, Nat.reduceEqDiff, Int.reduceToNat, Nat.reduceMul, Nat.reduceAdd, Nat.reduceBEq, isLd, e1, e3, e6, e7, hii]
    obtain rfl : i = R := by omega
    exact ⟨G', Sub.refl _, hk _ _ _ ⟨s1.trans hB.1, hB.2.1.mono s1, by
      obtain ⟨_, _, B, cp, rs, h3, h4, h5⟩ := hB
      exact ⟨B, cp, rs, h3, fun j hj => ⟨s1.none (h4 j hj).1, (h4 j hj).2⟩, h5⟩⟩⟩
def rowsA (A : Nat → Option Addr) (ln c : Nat → Nat) (R : Nat) : List Value := (List.range R).map fun i => .slice (A i) (ln i) (c i)
theorem rowsA_len (A : Nat → Option Addr) (ln c : Nat → Nat) (R : Nat) : (rowsA A ln c R).length = R := by simp [rowsA]
theorem rowsA_get {A : Nat → Option Addr} {ln c : Nat → Nat} {R i : Nat} (h : i < R) : (rowsA A ln c R)[i]? = some (.slice (A i) (ln i) (c i)) := by simp [rowsA, h]
theorem rowsA_set {A : Nat → Option Addr} {ln c : Nat → Nat} {R i : Nat} (A' : Option Addr) (l' c' : Nat) : (rowsA A ln c R).set i (.slice A' l' c') = rowsA (fun k => if k = i then A' else A k) (fun k => if k = i then l' else ln k) (fun k => if k = i then c' else c k) R := by
  unfold rowsA
  apply List.ext_getElem
  · simp
  · intro k h1 h2
    simp only [List.length_set, List.length_map, List.length_range] at h1
    by_cases e : i = k
    · subst e; simp
    · have e' : k ≠ i := fun x => e x.symm
      simp [List.getElem_set, e, e']
/-- rows of one's own, each of its own length. -/
structure Ao (H G : GH) (bO : Nat) (A : Nat → Option Addr) (ln c : Nat → Nat) (R : Nat) (F : Int → Int → Int) (ro : List Value) : Prop where
  sub : Sub H G
  nO : H bO = none
  o : G bO = some ⟨rowsA A ln c R ++ ro, true⟩
  row : ∀ i : Nat, i < R → Own (del G bO) (A i) (c i) ((rowL (ln i) (F i)).map I64) 1 (ln i)
  off : ∀ i, i < R → Off H (A i)
  apart : ∀ i j, i < R → j < R → i ≠ j → ∀ a b, A i = some a → A j = some b → a.block ≠ b.block
theorem Ao.get {H G : GH} {bO : Nat} {A : Nat → Option Addr} {ln c : Nat → Nat} {R : Nat} {F : Int → Int → Int} {ro : List Value} (h : Ao H G bO A ln c R F ro) {i : Nat} (hi : i < R) : rd G (some ⟨bO, i, none⟩) = some (.slice (A i) (ln i) (c i)) := by
  simp only [rd, h.o, Option.bind_some]
  rw [List.getElem?_append_left (by rw [rowsA_len]; exact hi), rowsA_get hi]
theorem Ao.up {H G G' : GH} {bO : Nat} {A : Nat → Option Addr} {ln c : Nat → Nat} {R : Nat} {F : Int → Int → Int} {ro : List Value} (h : Ao H G bO A ln c R F ro) (s : Sub G G') : Ao H G' bO A ln c R F ro := ⟨h.sub.trans s, h.nO, s _ _ h.o, fun i hi => (h.row i hi).sub (s.del2 bO), h.off, h.apart⟩
theorem Bl2.ao {H G : GH} {Bo : Option Addr} {cb k C : Nat} {f : Int → Int → Int} (h : Bl2 H G Bo cb k C f) (hk : 0 < k) : ∃ bO A c ro, Bo = some ⟨bO, 0, none⟩ ∧ k ≤ cb ∧ Ao H G bO A (fun _ => C) c k f ro := by
  obtain ⟨g1, g2, B, cp, rs, h3, h4, h5⟩ := h
  rcases h3 with ⟨_, _, h0, _⟩ | ⟨b, r, rfl, h6, _, _, h7⟩
  · omega
  · have hne : ∀ i, i < k → B i ≠ b := fun i hi e => by
      have := (h4 i hi).2.1
      rw [e, Off.wo G (some ⟨b, 0, none⟩) _ rfl] at this
      cases this
    refine ⟨b, fun i => some ⟨B i, 0, none⟩, cp, r, rfl, h7, g1, g2 _ rfl, h6, fun i hi => .inr ⟨B i, rs i, rfl, ?_, by rw [List.length_map, rowL_len]; omega, ?_, by have := (h4 i hi).2.2; omega⟩, fun i hi a ha => ?_, fun i j hi hj hij a b' ha hb e => ?_⟩
    · rw [del_ne _ (hne i hi), Sub.wo _ _ _ _ (h4 i hi).2.1, fcells_rowL]
    · rw [List.length_append, List.length_map, rowL_len, (h4 i hi).2.2]; omega
    · cases ha; exact (h4 i hi).1
    · cases ha; cases hb; exact hij (h5 i j hi hj e)
theorem wo_nil (G : GH) : wo G none = G := by funext x; unfold wo; rw [if_neg (by simp)]
/-- all rows as long: they can be eliminated. -/
theorem Ao.rw' {H G : GH} {bO : Nat} {A : Nat → Option Addr} {ln c : Nat → Nat} {R C : Nat} {F : Int → Int → Int} {ro : List Value} (h : Ao H G bO A ln c R F ro) (hl : ∀ i, i < R → ln i = C) : Rw H G bO A c R C F ro none := by
  refine ⟨h.sub, h.nO, ?_, fun i hi => ?_⟩
  · rw [h.o]
    refine congrArg (fun l => some (⟨l ++ ro, true⟩ : Ent)) ?_
    unfold rowsA rowsC
    exact List.map_congr_left fun i hi => by rw [hl i (List.mem_range.1 hi)]
  · rw [wo_nil]
    have := h.row i hi
    rw [hl i hi] at this
    exact this.ints' (rowL_len _ _).symm
theorem Own.wo {G : GH} {A Z : Option Addr} {c sz n : Nat} {cs : List Value} (h : Own G A c cs sz n) (hz : ∀ a, A = some a → ∀ z, Z = some z → z.block ≠ a.block) : Own (Gh.wo G Z) A c cs sz n := by
  rcases h with h | ⟨x, r, rfl, h2, h3⟩
  · exact .inl h
  · exact .inr ⟨x, r, rfl, by rw [wo_ne fun a ha => hz _ rfl a ha]; exact h2, h3⟩
/-- a number is appended to a row, and the row is laid again. -/
theorem Ao.push {H G : GH} {bO : Nat} {A : Nat → Option Addr} {ln c : Nat → Nat} {R : Nat} {F : Int → Int → Int} {ro : List Value} (h : Ao H G bO A ln c R F ro) {k : Nat} (hk : k < R) (hl : ln k < 2 ^ 20) {Bn : Option Addr} {dn : Nat} (hn : Cells G Bn [.int .i64 (F k (ln k))]) {K : Value → GH → Prop}
    (hK : ∀ G' A' c', Sub H G' → (∀ K' : Value → GH → Prop, (∀ G'', Ao H G'' bO (fun i => if i = k then A' else A i) (fun i => if i = k then ln k + 1 else ln i) (fun i => if i = k then c' else c i) R F ro → K' undef G'') → gSt 1 (.pointer (some ⟨bO, k, none⟩)) (.slice A' (ln k + 1) c') G' K') → K (.slice A' (ln k + 1) c') G') :
    gAp 1 8 [.int .i64 0] (.slice (A k) (ln k) (c k)) (.slice Bn 1 dn) G K := by
  have hOk := (h.row k hk).sub (Sub.del G bO)
  have hkb : ∀ a, A k = some a → a.block ≠ bO := fun a ha e => by
    obtain ⟨e2, h2⟩ := (h.row k hk).isSome a ha
    rw [e, del_none] at h2; cases h2
  refine ap_own hOk hn rfl (by intro v hv; simp at hv; subst hv; rfl) rfl (by omega) (by omega) (by omega) fun G' A' c' hO keep => ?_
  obtain ⟨sk, ok⟩ := keep _ (Sub.wo _ _) (Off.wo _ _)
  have hwb : wo G (A k) bO = some ⟨rowsA A ln c R ++ ro, true⟩ := by rw [wo_ne hkb]; exact h.o
  have hb' := sk _ _ hwb
  have s0 : Sub H (wo G (A k)) := fun x e hx => by
    rw [wo_ne fun a ha e' => by have := h.off k hk a ha; rw [e', hx] at this; cases this]
    exact h.sub _ _ hx
  have da' : ∀ a, A' = some a → a.block ≠ bO := fun a ha e => by have := ok a ha; rw [e, hwb] at this; cases this
  refine hK G' A' c' (s0.trans sk) fun K' hK' => ?_
  refine st_src hb' rfl (by rw [List.length_append, rowsA_len]; omega) fun G'' hKp hb2 => hK' G'' ?_
  have hd : del G'' bO = del G' bO := by
    funext x; unfold del
    by_cases e : x = bO
    · rw [if_pos e, if_pos e]
    · rw [if_neg e, if_neg e, hKp x e]
  have hother : ∀ i, i < R → i ≠ k → Own (wo (del G bO) (A k)) (A i) (c i) ((rowL (ln i) (F i)).map I64) 1 (ln i) := fun i hi hik => (h.row i hi).wo fun a ha z hz => fun e => h.apart k i hk hi (fun x => hik x.symm) z a hz ha e
  have hsub : Sub (wo (del G bO) (A k)) (del G' bO) := fun x e hx => by
    unfold wo at hx
    split at hx
    · cases hx
    · rename_i hne
      have hxb : x ≠ bO := fun e' => by rw [e', del_none] at hx; cases hx
      rw [del_ne _ hxb] at hx ⊢
      exact sk _ _ (by unfold wo; rw [if_neg hne]; exact hx)
  refine ⟨sub_keep hKp h.nO (s0.trans sk), h.nO, ?_, fun i hi => ?_, fun i hi => ?_, fun i j hi hj hij a b ha hb => ?_⟩
  · rw [hb2, List.set_append_left _ _ (by rw [rowsA_len]; exact hk), rowsA_set]
  · rw [hd]
    by_cases e : i = k
    · subst e
      simp only [if_true]
      exact (hO.cast (by rw [rowL_succ]; simp [I64]) rfl).del da'
    · simp only [if_neg e]
      exact (hother i hi e).sub hsub
  · by_cases e : i = k
    · simp only [if_pos e]; exact ok.mono s0
    · simp only [if_neg e]; exact h.off i hi
  · have key : ∀ i, i < R → i ≠ k → ∀ a b, A' = some a → A i = some b → a.block ≠ b.block := fun i hi hik a b ha hb e => by
      obtain ⟨e2, h2⟩ := (hother i hi hik).isSome b hb
      have h3 : wo G (A k) b.block = some e2 := by
        unfold wo at h2 ⊢
        split at h2
        · cases h2
        · rename_i hne
          rw [if_neg hne]; exact Sub.del _ _ _ _ h2
      have := ok a ha
      rw [e, h3] at this; cases this
    by_cases e1 : i = k
    · by_cases e2 : j = k
      · omega
      · simp only [if_pos e1] at ha; simp only [if_neg e2] at hb; exact key j hj e2 a b ha hb
    · by_cases e2 : j = k
      · simp only [if_neg e1] at ha; simp only [if_pos e2] at hb; exact (key i hi e1 b a hb ha).symm
      · simp only [if_neg e1] at ha; simp only [if_neg e2] at hb; exact h.apart i j hi hj hij a b ha hb
theorem impl_rank_ok {G : GH} {p : Int} {A : Option Addr} {n c : Nat} {f : Int → Int → Int} (h : IntS G A c (flatL n n f)) (hn : 0 < n ∧ n < 2 ^ 10) (hr : Rng f p) (hp : 1 < p ∧ p ≤ 2 ^ 30) {K : Value → GH → Prop}
    (hk : K (.int .i64 (elF p n f n).piv.length) G) : GC Try.prog 171 [matV p n n A (n * n) c] G K := by
  refine GC_drop (c_impl_rank_i (by simp) ?_)
  unfold matV matC
  simp (maxSteps := 300000) (disch := omega) only [gs, gs2, gs3, gs4, ↓reduceIte, Nat.reduceEqDiff, Int.reduceToNat, Nat.reduceMul, Nat.reduceAdd, Nat.reduceBEq, isLd]
  intro b1 hb1
  have s1 := Sub.put hb1 ⟨[.int .i64 p, .int .i64 n, .int .i64 n, .slice A (n * n) c], true⟩
  have r0 : rd (put G b1 ⟨[.int .i64 p, .int .i64 n, .int .i64 n, .slice A (n * n) c], true⟩) (some ⟨b1, 0, none⟩) = some (.int .i64 p) := rd_box _ _ _ 0 _ rfl
  have r1 : rd (put G b1 ⟨[.int .i64 p, .int .i64 n, .int .i64 n, .slice A (n * n) c], true⟩) (some ⟨b1, 1, none⟩) = some (.int .i64 n) := rd_box _ _ _ 1 _ rfl
  have r2 : rd (put G b1 ⟨[.int .i64 p, .int .i64 n, .int .i64 n, .slice A (n * n) c], true⟩) (some ⟨b1, 2, none⟩) = some (.int .i64 n) := rd_box _ _ _ 2 _ rfl
  have r3 : rd (put G b1 ⟨[.int .i64 p, .int .i64 n, .int .i64 n, .slice A (n * n) c], true⟩) (some ⟨b1, 3, none⟩) = some (.slice A (n * n) c) := rd_box _ _ _ 3 _ rfl
  revert s1 r0 r1 r2 r3
  generalize put G b1 ⟨[.int .i64 p, .int .i64 n, .int .i64 n, .slice A (n * n) c], true⟩ = G1
  intro s1 r0 r1 r2 r3
  simp (maxSteps := 300000) (disch := omega) only [gs, gs2, gs3, gs4, ↓reduceIte, Nat.reduceEqDiff, Int.reduceToNat, Nat.reduceMul, Nat.reduceAdd, Nat.reduceBEq, isLd, r0, r1, r2, r3]
  refine impl_rowsOf_ok (p := p) (h.sub s1) ⟨hn.1, by omega⟩ (by omega) fun G2 Bo cb hB => ?_
  obtain ⟨bO, A2, c2, ro, rfl, hcap, hA⟩ := hB.ao hn.1
  have hw := hA.rw' (C := n) fun _ _ => rfl
  simp (maxSteps := 300000) (disch := omega) only [gs, gs2, gs3, gs4, ↓reduceIte, Nat.reduceEqDiff, Int.reduceToNat, Nat.reduceMul, Nat.reduceAdd, Nat.reduceBEq, isLd, rd_sub hB.1 r0, rd_sub hB.1 r1, rd_sub hB.1 r2, rd_sub hB.1 r3]
  refine impl_eliminate_ok hw hcap hn.2 hn.2 hr hp fun G6 A6 c6 Ap6 cq6 hw6 hP => ?_
  simp (maxSteps := 300000) (disch := omega) only [gs, gs2, gs3, gs4, ↓reduceIte, Nat.reduceEqDiff, Int.reduceToNat, Nat.reduceMul, Nat.reduceAdd, Nat.reduceBEq, isLd, rd_sub hw6.sub r0, rd_sub hw6.sub r1, rd_sub hw6.sub r2, rd_sub hw6.sub r3]
  refine c_impl_size_int64_i (by simp) ?_
  simp (maxSteps := 300000) (disch := omega) only [gs, gs2, gs3, gs4, ↓reduceIte, Nat.reduceEqDiff, Int.reduceToNat, Nat.reduceMul, Nat.reduceAdd, Nat.reduceBEq, isLd]
  exact ⟨G, s1.trans hw6.sub, hk⟩
/-- the solution, after some pivots. -/
noncomputable def solX (S : ElS) (C : Int) : Nat → Int → Int
  | 0 => fun _ => 0
  | k + 1 => updAt (solX S C k) (S.piv.getD k 0) (S.f k C)
theorem elF_piv (p : Int) (R : Nat) (f : Int → Int → Int) : ∀ c m, m < (elF p R f c).piv.length → 0 ≤ (elF p R f c).piv.getD m 0 ∧ (elF p R f c).piv.getD m 0 < c
  | 0, m, hm => by simp [elF] at hm
  | c + 1, m, hm => by
    have ih := elF_piv p R f c m
    show 0 ≤ (elS p R (elF p R f c) c).piv.getD m 0 ∧ (elS p R (elF p R f c) c).piv.getD m 0 < ((c + 1 : Nat) : Int)
    have hm : m < (elS p R (elF p R f c) c).piv.length := hm
    unfold elS at hm ⊢
    split at hm
    · have := ih hm
      exact ⟨this.1, show (elF p R f c).piv.getD m 0 < _ by omega⟩
    · rw [List.length_append, List.length_singleton] at hm
      by_cases e : m < (elF p R f c).piv.length
      · have := ih e
        have e2 : ((elF p R f c).piv ++ [(c : Int)]).getD m 0 = (elF p R f c).piv.getD m 0 := by simp only [List.getD]; rw [List.getElem?_append_left e]
        dsimp only
        rw [e2]; omega
      · obtain rfl : m = (elF p R f c).piv.length := by omega
        have e2 : ((elF p R f c).piv ++ [(c : Int)]).getD (elF p R f c).piv.length 0 = c := by simp [List.getD]
        dsimp only
        rw [e2]; omega
theorem impl_solve_ok {G : GH} {p : Int} {A Bb : Option Addr} {n c cb : Nat} {F : Int → Int → Int} {bs : List Int} (h : IntS G A c (flatL n n F)) (hb : IntS G Bb cb bs) (hbl : bs.length = n) (hbF : ∀ i : Nat, i < n → bs.getD i 0 = F i n) (hn : 0 < n ∧ n < 2 ^ 8) (hr : Rng F p) (hp : 1 < p ∧ p ≤ 2 ^ 30) {K : Value → GH → Prop}
    (h0 : (n : Int) ∈ (elF p n F (n + 1)).piv → K (.tuple [.slice none 0 0, .bool false].toArray) G)
    (h1 : ¬ (n : Int) ∈ (elF p n F (n + 1)).piv → ∀ G' b, Sub G G' → G b = none → G' b = some ⟨fcells n (solX (elF p n F (n + 1)) n (elF p n F (n + 1)).piv.length), true⟩ → K (.tuple [.slice (some ⟨b, 0, none⟩) n n, .bool true].toArray) G') :
    GC Try.prog 170 [matV p n n A (n * n) c, .slice Bb n cb] G K := by
  refine GC_drop (c_impl_solve_i (by simp) ?_)
  unfold matV matC
  simp (maxSteps := 300000) (disch := omega) only [gs, gs2, gs3, gs4, ↓reduceIte, Nat.reduceEqDiff, Int.reduceToNat, Nat.reduceMul, Nat.reduceAdd, Nat.reduceBEq, isLd]
  intro b2 hb2
  have s1 := Sub.put hb2 ⟨[.int .i64 p, .int .i64 n, .int .i64 n, .slice A (n * n) c], true⟩
  have r0 : rd (put G b2 ⟨[.int .i64 p, .int .i64 n, .int .i64 n, .slice A (n * n) c], true⟩) (some ⟨b2, 0, none⟩) = some (.int .i64 p) := rd_box _ _ _ 0 _ rfl
  have r1 : rd (put G b2 ⟨[.int .i64 p, .int .i64 n, .int .i64 n, .slice A (n * n) c], true⟩) (some ⟨b2, 1, none⟩) = some (.int .i64 n) := rd_box _ _ _ 1 _ rfl
  have r2 : rd (put G b2 ⟨[.int .i64 p, .int .i64 n, .int .i64 n, .slice A (n * n) c], true⟩) (some ⟨b2, 2, none⟩) = some (.int .i64 n) := rd_box _ _ _ 2 _ rfl
  have r3 : rd (put G b2 ⟨[.int .i64 p, .int .i64 n, .int .i64 n, .slice A (n * n) c], true⟩) (some ⟨b2, 3, none⟩) = some (.slice A (n * n) c) := rd_box _ _ _ 3 _ rfl
  revert s1 r0 r1 r2 r3
  generalize put G b2 ⟨[.int .i64 p, .int .i64 n, .int .i64 n, .slice A (n * n) c], true⟩ = G1
  intro s1 r0 r1 r2 r3
  simp (maxSteps := 300000) (disch := omega) only [gs, gs2, gs3, gs4, ↓reduceIte, Nat.reduceEqDiff, Int.reduceToNat, Nat.reduceMul, Nat.reduceAdd, Nat.reduceBEq, isLd, r0, r1, r2, r3]
  refine impl_rowsOf_ok (p := p) (h.sub s1) ⟨hn.1, by omega⟩ (by omega) fun G2 Bo cbo hB => ?_
  obtain ⟨bO, A2, c2, ro, rfl, hcap, hA⟩ := hB.ao hn.1
  simp (maxSteps := 300000) (disch := omega) only [gs, gs2, gs3, gs4, ↓reduceIte, Nat.reduceEqDiff, Int.reduceToNat, Nat.reduceMul, Nat.reduceAdd, Nat.reduceBEq, isLd]
  have hb1 := hb.sub s1
  refine gLoop_intro (fun m T G' => ∃ (k : Nat) (A' : Nat → Option Addr) (c' : Nat → Nat), T 1 = .slice Bb n cb ∧ T 2 = .pointer (some ⟨b2, 0, none⟩) ∧ T 6 = .slice (some ⟨bO, 0, none⟩) n cbo ∧ T 16 = .int .i64 n ∧ T 17 = .int .i64 k ∧ m + k = n ∧ k ≤ n ∧ Ao G1 G' bO A' (fun i => if i < k then n + 1 else n) c' n F ro)
    n ⟨0, A2, c2, by simp (maxSteps := 300000) (disch := omega) only [gs, gs2, gs3, gs4, ↓reduceIte, Nat.reduceEqDiff, Int.reduceToNat, Nat.reduceMul, Nat.reduceAdd, Nat.reduceBEq, isLd], by simp (maxSteps := 300000) (disch := omega) only [gs, gs2, gs3, gs4, ↓reduceIte, Nat.reduceEqDiff, Int.reduceToNat, Nat.reduceMul, Nat.reduceAdd, Nat.reduceBEq, isLd], by simp (maxSteps := 300000) (disch := omega) only [gs, gs2, gs3, gs4, ↓reduceIte, Nat.reduceEqDiff, Int.reduceToNat, Nat.reduceMul, Nat.reduceAdd, Nat.reduceBEq, isLd], by simp (maxSteps := 300000) (disch := omega) only [gs, gs2, gs3, gs4, ↓reduceIte, Nat.reduceEqDiff, Int.reduceToNat, Nat.reduceMul, Nat.reduceAdd, Nat.reduceBEq, isLd], by simp (maxSteps := 300000) (disch := omega) only [gs, gs2, gs3, gs4, ↓reduceIte, Nat.reduceEqDiff, Int.reduceToNat, Nat.reduceMul, Nat.reduceAdd, Nat.reduceBEq, isLd] <;> rfl, by omega, by omega, by
      have e : (fun i : Nat => if i < 0 then n + 1 else n) = fun _ => n := by funext i; rw [if_neg (by omega)]
      rw [e]; exact hA⟩ ?_
  clear hA hB
  rintro m T G' ⟨k, A', c', e1, e2, e6, e16, e17, hm, hkm, hA⟩
  simp (maxSteps := 300000) (disch := omega) only [gs, gs2, gs3, gs4, ↓reduceIte, Nat.reduceEqDiff, Int.reduceToNat, Nat.reduceMul, Nat.reduceAdd, Nat.reduceBEq, isLd, e1, e2, e6, e16, e17]
  by_cases hkk : (k : Int) < n
  · have hg := hA.get (show k < n by omega)
    rw [if_neg (Nat.lt_irrefl k)] at hg
    have hbk := (hb1.sub hA.sub).rd k (by omega)
    rw [hbF k (by omega)] at hbk
    have hsb := hb1.sn (by omega)
    simp (maxSteps := 300000) (disch := omega) only [gs, gs2, gs3, gs4, ↓reduceIte, Nat.reduceEqDiff, Int.reduceToNat, Nat.reduceMul, Nat.reduceAdd, Nat.reduceBEq, isLd, e1, e2, e6, e16, e17, hkk, hg, hbk, gBs]
    refine ⟨by intro v hv; simp at hv; subst hv; rfl, fun b30 hb30 => ?_⟩
    refine ⟨rd_sub (Sub.put hb30 _) hg, ?_⟩
    have hpush := (hA.up (Sub.put hb30 ⟨[Value.int .i64 (F k n)], true⟩)).push (k := k) (by omega) (by rw [if_neg (Nat.lt_irrefl k)]; omega) (Bn := some ⟨b30, 0, none⟩) (dn := 1)
    rw [if_neg (Nat.lt_irrefl k)] at hpush
    refine hpush (cells_one [.int .i64 (F k n)] true) fun G3 A3 c3 s3 hst => ?_
    have hbk3 := (hb1.sub s3).rd k (by omega)
    rw [hbF k (by omega)] at hbk3
    simp (maxSteps := 300000) (disch := omega) only [gs, gs2, gs3, gs4, ↓reduceIte, Nat.reduceEqDiff, Int.reduceToNat, Nat.reduceMul, Nat.reduceAdd, Nat.reduceBEq, isLd, e1, e2, e6, e16, e17]
    refine ⟨hbk3, hst _ fun G4 hA4 => ?_⟩
    simp (maxSteps := 300000) (disch := omega) only [gs, gs2, gs3, gs4, ↓reduceIte, Nat.reduceEqDiff, Int.reduceToNat, Nat.reduceMul, Nat.reduceAdd, Nat.reduceBEq, isLd, e1, e2, e6, e16, e17]
    have e : (fun i : Nat => if i < k + 1 then n + 1 else n) = fun i => if i = k then n + 1 else if i < k then n + 1 else n := by
      funext i
      by_cases h1 : i = k
      · rw [if_pos h1, if_pos (by omega)]
      · rw [if_neg h1]
        by_cases h2 : i < k
        · rw [if_pos h2, if_pos (by omega)]
        · rw [if_neg h2, if_neg (by omega)]
    rw [← e] at hA4
    exact ⟨m - 1, by omega, G4, Sub.refl _, k + 1, _, _, rfl, by omega, by omega, hA4⟩
  · obtain rfl : k = n := by omega
    have q0 := rd_sub hA.sub r0
    have q2 := rd_sub hA.sub r2
    simp (maxSteps := 300000) (disch := omega) only [gs, gs2, gs3, gs4, ↓reduceIte, Nat.reduceEqDiff, Int.reduceToNat, Nat.reduceMul, Nat.reduceAdd, Nat.reduceBEq, isLd, e1, e2, e6, e16, e17, hkk, q0, q2]
    have hw := hA.rw' (C := k + 1) fun i hi => if_pos hi
    rw [show ((k : Int) + 1) = ((k + 1 : Nat) : Int) from rfl]
    refine impl_eliminate_ok hw hcap (by omega) (by omega) hr hp fun G6 A6 c6 Ap6 cq6 hw6 hP => ?_
    have hpl := elF_len p k F (k + 1)
    have hpb := elF_piv p k F (k + 1)
    have q2 := rd_sub hw6.sub r2
    generalize elF p k F (k + 1) = E at *
    simp (maxSteps := 300000) (disch := omega) only [gs, gs2, gs3, gs4, ↓reduceIte, Nat.reduceEqDiff, Int.reduceToNat, Nat.reduceMul, Nat.reduceAdd, Nat.reduceBEq, isLd, e1, e2, e6, e16, e17, q2]
    refine ⟨k, k, rfl, rfl, Nat.le_refl _, by omega, by omega, fun bx hbx => ?_⟩
    have hz : zc [.int .i64 0] k = fcells k (solX E k 0) := by rw [zc_one, rep_range]; rfl
    rw [hz]
    simp (maxSteps := 300000) (disch := omega) only [gs, gs2, gs3, gs4, ↓reduceIte, Nat.reduceEqDiff, Int.reduceToNat, Nat.reduceMul, Nat.reduceAdd, Nat.reduceBEq, isLd]
    refine gLoop_intro (fun m T G' => ∃ j : Nat, T 2 = .pointer (some ⟨b2, 0, none⟩) ∧ T 6 = .slice (some ⟨bO, 0, none⟩) k cbo ∧ T 10 = .slice (some ⟨bx, 0, none⟩) k k ∧ T 47 = .slice Ap6 E.piv.length cq6 ∧ T 48 = .int .i64 E.piv.length ∧ T 49 = .int .i64 j ∧ m + j = E.piv.length ∧ j ≤ E.piv.length ∧ Sub G6 G' ∧ G' bx = some ⟨fcells k (solX E k j), true⟩ ∧ ∀ i, i < j → E.piv.getD i 0 ≠ k)
      E.piv.length ⟨0, by simp (maxSteps := 300000) (disch := omega) only [gs, gs2, gs3, gs4, ↓reduceIte, Nat.reduceEqDiff, Int.reduceToNat, Nat.reduceMul, Nat.reduceAdd, Nat.reduceBEq, isLd, e2], by simp (maxSteps := 300000) (disch := omega) only [gs, gs2, gs3, gs4, ↓reduceIte, Nat.reduceEqDiff, Int.reduceToNat, Nat.reduceMul, Nat.reduceAdd, Nat.reduceBEq, isLd, e6], by simp (maxSteps := 300000) (disch := omega) only [gs, gs2, gs3, gs4, ↓reduceIte, Nat.reduceEqDiff, Int.reduceToNat, Nat.reduceMul, Nat.reduceAdd, Nat.reduceBEq, isLd], by simp (maxSteps := 300000) (disch := omega) only [gs, gs2, gs3, gs4, ↓reduceIte, Nat.reduceEqDiff, Int.reduceToNat, Nat.reduceMul, Nat.reduceAdd, Nat.reduceBEq, isLd], by simp (maxSteps := 300000) (disch := omega) only [gs, gs2, gs3, gs4, ↓reduceIte, Nat.reduceEqDiff, Int.reduceToNat, Nat.reduceMul, Nat.reduceAdd, Nat.reduceBEq, isLd], by simp (maxSteps := 300000) (disch := omega) only [gs, gs2, gs3, gs4, ↓reduceIte, Nat.reduceEqDiff, Int.reduceToNat, Nat.reduceMul, Nat.reduceAdd, Nat.reduceBEq, isLd] <;> rfl, by omega, by omega, Sub.put hbx _, put_same _ _ _, fun i hi => by omega⟩ ?_
    clear e1 e2 e6 e16 e17 hm hkm hA hkk
    rintro m T G' ⟨j, e2, e6, e10, e47, e48, e49, hm, hjm, s6, hX, hne⟩
    have g2 := rd_sub s6 q2
    simp (maxSteps := 300000) (disch := omega) only [gs, gs2, gs3, gs4, ↓reduceIte, Nat.reduceEqDiff, Int.reduceToNat, Nat.reduceMul, Nat.reduceAdd, Nat.reduceBEq, isLd, e2, e6, e10, e47, e48, e49]
    by_cases hjj : (j : Int) < E.piv.length
    · have hpj := (hP.sub s6).rd j (by omega)
      have hsP := hP.sn (by omega)
      have hpbj := hpb j (by omega)
      simp (maxSteps := 300000) (disch := omega) only [gs, gs2, gs3, gs4, ↓reduceIte, Nat.reduceEqDiff, Int.reduceToNat, Nat.reduceMul, Nat.reduceAdd, Nat.reduceBEq, isLd, e2, e6, e10, e47, e48, e49, hjj, hpj, g2]
      by_cases hpn : E.piv.getD j 0 = k
      · simp (maxSteps := 300000) (disch := omega) only [gs, gs2, gs3, gs4, ↓reduceIte, Nat.reduceEqDiff, Int.reduceToNat, Nat.reduceMul, Nat.reduceAdd, Nat.reduceBEq, isLd, eq_true hpn, e2, e6, e10, e47, e48, e49, g2]
        exact ⟨G, s1.trans (hw6.sub.trans s6), h0 (by rw [← hpn]; simp [List.getD, show j < E.piv.length by omega])⟩
      · have gr := rd_sub s6 (hw6.get (show j < k by omega))
        have gc := rd_sub s6 (hw6.cell (show j < k by omega) (j := k) (by omega))
        have hsr := hw6.sn (show j < k by omega) (by omega)
        simp (maxSteps := 300000) (disch := omega) only [gs, gs2, gs3, gs4, ↓reduceIte, Nat.reduceEqDiff, Int.reduceToNat, Nat.reduceMul, Nat.reduceAdd, Nat.reduceBEq, isLd, eq_false hpn, e2, e6, e10, e47, e48, e49, g2, gr, gc]
        refine st_fcells hX (v := E.piv.getD j 0) (by omega) (by omega) fun G7 hX7 hK7 => ?_
        simp (maxSteps := 300000) (disch := omega) only [gs, gs2, gs3, gs4, ↓reduceIte, Nat.reduceEqDiff, Int.reduceToNat, Nat.reduceMul, Nat.reduceAdd, Nat.reduceBEq, isLd, e2, e6, e10, e47, e48, e49]
        exact ⟨m - 1, by omega, G7, Sub.refl _, j + 1, rfl, by omega, by omega, sub_keep hK7 hbx s6, hX7, fun i hi => by
          by_cases e : i = j
          · rw [e]; exact hpn
          · exact hne i (by omega)⟩
    · simp (maxSteps := 300000) (disch := omega) only [gs, gs2, gs3, gs4, ↓reduceIte, Nat.reduceEqDiff, Int.reduceToNat, Nat.reduceMul, Nat.reduceAdd, Nat.reduceBEq, isLd, e2, e6, e10, e47, e48, e49, hjj]
      obtain rfl : j = E.piv.length := by omega
      have sG := s1.trans (hw6.sub.trans s6)
      refine ⟨G', Sub.refl _, h1 (fun hmem => ?_) G' bx sG ((s1.trans hw6.sub).none hbx) hX⟩
      obtain ⟨i, hi, e⟩ := List.mem_iff_getElem.1 hmem
      exact hne i hi (by simp [List.getD, hi, e])
theorem spec_l16DrawSet_ok {H0 G : GH} {b : Nat} {A q : Option Addr} {L c p : Nat} {n : Int} (h : Src H0 G b A L c p) (hp : p ≤ 4000) (hg : rd H0 q = some (.int .i64 n)) (hn : 0 ≤ n ∧ n ≤ 20) {K : Value → GH → Prop}
    (hk : ∀ G' xs Ap cp, VSm xs → VD H0 G' b A L c (p + 100) xs Ap cp → K (.slice Ap xs.length cp) G') : GC Try.prog 173 [.pointer (some ⟨b, 0, none⟩), .pointer q] G K := by
  refine c_spec_l16DrawSet_i (by simp) ?_
  have hq := rd_some hg
  simp (maxSteps := 300000) (disch := omega) only [gs, gs2, gs3, gs4, ↓reduceIte, Nat.reduceEqDiff, Int.reduceToNat, Nat.reduceMul, Nat.reduceAdd, Nat.reduceBEq, isLd, gBs]
  refine ⟨by intro v hv; simp at hv, fun b7 hb7 => ?_⟩
  have hD : VD H0 (put G b7 ⟨[], true⟩) b A L c (p + 2 * 0) [] (some ⟨b7, 0, none⟩) 0 := by
    obtain ⟨q', st, h1, h2⟩ := h.ex
    have s := Sub.put hb7 ⟨[], true⟩
    exact ⟨⟨h.sub.trans s, h.nb, h.byt, q', st, h1, s _ _ h2⟩, .inr ⟨b7, [], rfl, put_same _ _ _, rfl, rfl, Nat.le_refl _⟩, fun a ha => by cases ha; exact h.sub.none hb7, fun a ha => by cases ha; exact h.ne hb7⟩
  refine gLoop_intro (fun m T G' => ∃ (k : Nat) (xs : List Int) (Ap : Option Addr) (cp : Nat), T 0 = .pointer (some ⟨b, 0, none⟩) ∧ T 1 = .pointer q ∧ T 5 = .slice Ap xs.length cp ∧ T 6 = .int .i64 k ∧ m + k = n.toNat ∧ k ≤ n.toNat ∧ xs.length ≤ k ∧ VSm xs ∧ VD H0 G' b A L c (p + 2 * k) xs Ap cp)
    n.toNat ⟨0, [], _, _, by simp (maxSteps := 300000) (disch := omega) only [gs, gs2, gs3, gs4, ↓reduceIte, Nat.reduceEqDiff, Int.reduceToNat, Nat.reduceMul, Nat.reduceAdd, Nat.reduceBEq, isLd], by simp (maxSteps := 300000) (disch := omega) only [gs, gs2, gs3, gs4, ↓reduceIte, Nat.reduceEqDiff, Int.reduceToNat, Nat.reduceMul, Nat.reduceAdd, Nat.reduceBEq, isLd], by simp (maxSteps := 300000) (disch := omega) only [gs, gs2, gs3, gs4, ↓reduceIte, Nat.reduceEqDiff, Int.reduceToNat, Nat.reduceMul, Nat.reduceAdd, Nat.reduceBEq, isLd] <;> rfl, by simp (maxSteps := 300000) (disch := omega) only [gs, gs2, gs3, gs4, ↓reduceIte, Nat.reduceEqDiff, Int.reduceToNat, Nat.reduceMul, Nat.reduceAdd, Nat.reduceBEq, isLd] <;> rfl, by omega, by omega, by simp, ⟨by simp, fun x hx => by simp at hx⟩, hD⟩ ?_
  clear hD
  rintro m T G' ⟨k, xs, Ap, cp, e0, e1, e5, e6, hm, hkm, hlk, hV, hD⟩
  have f0 := rd_sub hD.src.sub hg
  simp (maxSteps := 300000) (disch := omega) only [gs, gs2, gs3, gs4, ↓reduceIte, Nat.reduceEqDiff, Int.reduceToNat, Nat.reduceMul, Nat.reduceAdd, Nat.reduceBEq, isLd, e0, e1, e5, e6, f0]
  by_cases hk2 : (k : Int) < n
  · by_cases hk3 : (k : Int) < 20
    · simp (maxSteps := 300000) (disch := omega) only [gs, gs2, gs3, gs4, ↓reduceIte, Nat.reduceEqDiff, Int.reduceToNat, Nat.reduceMul, Nat.reduceAdd, Nat.reduceBEq, isLd, e0, e1, e5, e6, f0, hk2, hk3]
      refine spec_one_ok hD.src.all (by omega) (n := 2) (by omega) fun v G5 s5 => ?_
      have hD := hD.step s5
      cases v
      · simp (maxSteps := 300000) (disch := omega) only [gs, gs2, gs3, gs4, ↓reduceIte, Nat.reduceEqDiff, Int.reduceToNat, Nat.reduceMul, Nat.reduceAdd, Nat.reduceBEq, isLd, e0, e1, e5, e6]
        exact ⟨m - 1, by omega, _, Sub.refl _, k + 1, xs, Ap, cp, rfl, rfl, by omega, by omega, by omega, hV, hD.le (by omega)⟩
      · simp (maxSteps := 300000) (disch := omega) only [gs, gs2, gs3, gs4, ↓reduceIte, Nat.reduceEqDiff, Int.reduceToNat, Nat.reduceMul, Nat.reduceAdd, Nat.reduceBEq, isLd, e0, e1, e5, e6, gBs]
        refine ⟨by intro v hv; simp at hv; subst hv; rfl, fun by' hby => ?_⟩
        have hDy := hD.box hby ⟨[.int .i64 (k : Int)], true⟩
        have hsm := hV.1
        refine ap_own hDy.own (cells_one [.int .i64 (k : Int)] true) (by rfl) (by intro v hv; simp at hv; subst hv; rfl) rfl (by omega) (by omega) (by omega) fun G9 A9 c9 hO9 hG9 => ?_
        have hD := hDy.app (ys := xs ++ [(k : Int)]) (hO9.cast (by simp [I64]) (by simp)) hG9
        simp (maxSteps := 300000) (disch := omega) only [gs, gs2, gs3, gs4, ↓reduceIte, Nat.reduceEqDiff, Int.reduceToNat, Nat.reduceMul, Nat.reduceAdd, Nat.reduceBEq, isLd, e0, e1, e5, e6]
        exact ⟨m - 1, by omega, _, Sub.refl _, k + 1, xs ++ [(k : Int)], A9, c9, by simp, rfl, by omega, by omega, by simp; omega, hV.snoc (by omega) (by omega), hD.le (by omega)⟩
    · exact absurd hk2 (by omega)
  · simp (maxSteps := 300000) (disch := omega) only [gs, gs2, gs3, gs4, ↓reduceIte, Nat.reduceEqDiff, Int.reduceToNat, Nat.reduceMul, Nat.reduceAdd, Nat.reduceBEq, isLd, e0, e1, e5, e6, f0, hk2]
    have hV1 := hV.1
    refine spec_one_ok hD.src.all (by omega) (n := 12) (by omega) fun v G5 s5 => ?_
    have hD := hD.step s5
    have f0 := rd_sub hD.src.sub hg
    cases v
    · simp (maxSteps := 300000) (disch := omega) only [gs, gs2, gs3, gs4, ↓reduceIte, Nat.reduceEqDiff, Int.reduceToNat, Nat.reduceMul, Nat.reduceAdd, Nat.reduceBEq, isLd, e0, e1, e5, e6]
      exact hk _ _ _ _ hV (hD.le (by omega))
    · simp (maxSteps := 300000) (disch := omega) only [gs, gs2, gs3, gs4, ↓reduceIte, Nat.reduceEqDiff, Int.reduceToNat, Nat.reduceMul, Nat.reduceAdd, Nat.reduceBEq, isLd, e0, e1, e5, e6, f0, gBs]
      refine ⟨by intro v hv; simp at hv; rcases hv with rfl | rfl | rfl <;> rfl, fun bx hbx => ?_⟩
      have hDx := hD.box hbx ⟨([(-1), 0, n] : List Int).map I64, true⟩
      have hbb : bx ≠ b := hD.src.ne hbx
      have hxl : IntS (del (put G5 bx ⟨([(-1), 0, n] : List Int).map I64, true⟩) b) (some ⟨bx, 0, none⟩) 3 [(-1), 0, n] := blk_ints (xs := [(-1), 0, n]) (by rw [del_ne _ hbb]; exact put_same _ _ _)
      refine spec_among_ok (xs := [(-1), 0, n]) hDx.src.all (by omega) hxl (by simp) (by simp) fun w G6 hw sw => ?_
      have hw : -1000001 ≤ w ∧ w ≤ 1000001 := by simp at hw; omega
      have hD := hDx.step sw
      simp (maxSteps := 300000) (disch := omega) only [gs, gs2, gs3, gs4, ↓reduceIte, Nat.reduceEqDiff, Int.reduceToNat, Nat.reduceMul, Nat.reduceAdd, Nat.reduceBEq, isLd, e0, e1, e5, e6, gBs]
      refine ⟨by intro v hv; simp at hv; subst hv; rfl, fun by' hby => ?_⟩
      have hDy := hD.box hby ⟨[.int .i64 w], true⟩
      refine ap_own hDy.own (cells_one [.int .i64 w] true) (by rfl) (by intro v hv; simp at hv; subst hv; rfl) rfl (by omega) (by omega) (by omega) fun G9 A9 c9 hO9 hG9 => ?_
      have hD := hDy.app (ys := xs ++ [w]) (hO9.cast (by simp [I64]) (by simp)) hG9
      simp (maxSteps := 300000) (disch := omega) only [gs, gs2, gs3, gs4, ↓reduceIte, Nat.reduceEqDiff, Int.reduceToNat, Nat.reduceMul, Nat.reduceAdd, Nat.reduceBEq, isLd, e0, e1, e5, e6]
      have := hk _ _ _ _ (hV.snoc (by omega) hw) (hD.le (by omega))
      rw [List.length_append] at this
      exact this
theorem blk_step {G G' : GH} {b x : Nat} {e : Ent} (s : Sub (del G b) G') (hx : x ≠ b) (h : G x = some e) : G' x = some e := s _ _ (by rw [del_ne _ hx]; exact h)
theorem Own.stp {G G' : GH} {b : Nat} {A : Option Addr} {c sz n : Nat} {cs : List Value} (h : Own G A c cs sz n) (s : Sub (Gh.del G b) G') (hb : ∀ a, A = some a → a.block ≠ b) : Own G' A c cs sz n := (h.del hb).sub s
theorem resV_four {T : Nat → Value} {G : GH} (a b c d : RV) : resV T G [a, b, c, d] = (rvs T G [a, b, c, d]).map fun l => .tuple l.toArray := rfl
theorem Own.keep {G G' : GH} {A : Option Addr} {b c sz n : Nat} {cs : List Value} (h : Own G A c cs sz n) (hK : Keep b G G') (hb : ∀ a, A = some a → a.block ≠ b) : Own G' A c cs sz n := by
  rcases h with h1 | ⟨x, r, h1, h2, h3⟩
  · exact .inl h1
  · exact .inr ⟨x, r, h1, by rw [hK x (hb _ h1)]; exact h2, h3⟩
theorem New.nb {G G' : GH} {A : Option Addr} {b c sz n : Nat} {cs : List Value} {e : Ent} (h : New G G' A c cs sz n) (hb : G b = some e) : ∀ a, A = some a → a.block ≠ b := fun a ha hx => by
  rcases h with ⟨h1, _⟩ | ⟨x, r, h1, h2, _⟩
  · rw [h1] at ha; cases ha
  · rw [h1] at ha; cases ha
    simp only at hx
    rw [hx, hb] at h2; cases h2
theorem b10Long_ok {G : GH} {A : Option Addr} {L c : Nat} {K : Value → GH → Prop} (hk : K (.bool (decide ((1048576 : Int) < L))) G) : GC Try.prog 56 [.slice A L c] G K := by
  refine c_laws_b10Long_i (by simp) ?_
  simp (maxSteps := 300000) (disch := omega) only [gs, gs2, gs3, gs4, ↓reduceIte, Nat.reduceEqDiff, Int.reduceToNat, Nat.reduceMul, Nat.reduceAdd, Nat.reduceBEq, isLd]
  exact hk
theorem b10Has_ok {G : GH} {A : Option Addr} {c : Nat} {xs : List Int} {v : Int} (h : IntS G A c xs) (hl : xs.length < 2 ^ 40) {K : Value → GH → Prop}
    (hk : ∀ b : Bool, (b = true ↔ v ∈ xs) → K (.bool b) G) : GC Try.prog 68 [.slice A xs.length c, .int .i64 v] G K := by
  refine c_laws_b10Has_i (by simp) ?_
  have hsn := h.sn
  have r := h.rd
  simp (maxSteps := 300000) (disch := omega) only [gs, gs2, gs3, gs4, ↓reduceIte, Nat.reduceEqDiff, Int.reduceToNat, Nat.reduceMul, Nat.reduceAdd, Nat.reduceBEq, isLd]
  refine gLoop_intro (fun m T G' => ∃ k : Nat, T 0 = .slice A xs.length c ∧ T 1 = .int .i64 v ∧ T 5 = .int .i64 k ∧ m + k = xs.length ∧ k ≤ xs.length ∧ G = G' ∧ ∀ i, i < k → xs.getD i 0 ≠ v)
    xs.length ⟨0, by simp (maxSteps := 300000) (disch := omega) only [gs, gs2, gs3, gs4, ↓reduceIte, Nat.reduceEqDiff, Int.reduceToNat, Nat.reduceMul, Nat.reduceAdd, Nat.reduceBEq, isLd], by simp (maxSteps := 300000) (disch := omega) only [gs, gs2, gs3, gs4, ↓reduceIte, Nat.reduceEqDiff, Int.reduceToNat, Nat.reduceMul, Nat.reduceAdd, Nat.reduceBEq, isLd], by simp (maxSteps := 300000) (disch := omega) only [gs, gs2, gs3, gs4, ↓reduceIte, Nat.reduceEqDiff, Int.reduceToNat, Nat.reduceMul, Nat.reduceAdd, Nat.reduceBEq, isLd] <;> rfl, by omega, by omega, rfl, fun i hi => by omega⟩ ?_
  rintro m T G' ⟨k, e0, e1, e5, hm, hkl, rfl, hno⟩
  simp (maxSteps := 300000) (disch := omega) only [gs, gs2, gs3, gs4, ↓reduceIte, Nat.reduceEqDiff, Int.reduceToNat, Nat.reduceMul, Nat.reduceAdd, Nat.reduceBEq, isLd, e0, e1, e5]
  by_cases hk2 : (k : Int) < xs.length
  · simp (maxSteps := 300000) (disch := omega) only [gs, gs2, gs3, gs4, ↓reduceIte, Nat.reduceEqDiff, Int.reduceToNat, Nat.reduceMul, Nat.reduceAdd, Nat.reduceBEq, isLd, e0, e1, e5, hk2, r]
    by_cases hv : xs.getD k 0 = v
    · simp (maxSteps := 300000) (disch := omega) only [gs, gs2, gs3, gs4, ↓reduceIte, Nat.reduceEqDiff, Int.reduceToNat, Nat.reduceMul, Nat.reduceAdd, Nat.reduceBEq, isLd, eq_true hv, e0, e1, e5]
      exact hk true ⟨fun _ => by rw [← hv]; exact mem_getD'.2 ⟨k, by omega, rfl⟩, fun _ => rfl⟩
    · rw [decide_eq_false hv]
      simp (maxSteps := 300000) (disch := omega) only [gs, gs2, gs3, gs4, ↓reduceIte, Nat.reduceEqDiff, Int.reduceToNat, Nat.reduceMul, Nat.reduceAdd, Nat.reduceBEq, isLd, e0, e1, e5]
      exact ⟨m - 1, by omega, _, Sub.refl _, k + 1, rfl, by omega, by omega, rfl, fun i hi => by
        by_cases hik : i = k
        · subst hik; exact hv
        · exact hno i (by omega)⟩
  · simp (maxSteps := 300000) (disch := omega) only [gs, gs2, gs3, gs4, ↓reduceIte, Nat.reduceEqDiff, Int.reduceToNat, Nat.reduceMul, Nat.reduceAdd, Nat.reduceBEq, isLd, e0, e1, e5, hk2]
    exact hk false ⟨fun x => by simp at x, fun x => by
      obtain ⟨i, hi, e⟩ := mem_getD'.1 x
      exact absurd e (hno i (by omega))⟩
/-- bytes that came in. -/
def BytesV (G : GH) (v : Value) (L : Nat) : Prop := ∃ A c, v = .slice A L c ∧ BytS G A L c ∧ L ≤ 2 ^ 63 - 1
theorem open_bytes' {H : Type} {enc : TypeId × Value → H} {P : Program} {W : World} {t e : TypeId} (ht : P.underlying t = some (.slice e)) (he : P.underlying e = some (.int .u8)) (hs : P.cellsOf e = 1) {v : Value} {d : DataW H} {ps : List MemPlace} {r : Reach} {base : Nat}
    (hv : Value.okWide P W r base t v) (h : DataW.Trod enc P W 0 (fun _ => true) true t v d ps) : ∃ L, BytesV (G0 W) v L := by
  obtain ⟨A, n, c, rfl⟩ := Go.WideShapes.okWide_slice ht hv
  obtain ⟨fuel, hf⟩ := h
  obtain ⟨hc, hc2, hx⟩ := trod_sl ht hf
  rw [hs] at hx
  refine ⟨n, A, c, rfl, ⟨hc, fun i hi => ?_⟩, by omega⟩
  obtain ⟨cs, f', x', h1, h2, h3⟩ := hx i hi
  obtain ⟨z, rfl, _, hwf⟩ := DataW.trod_int he h3
  simp only [Lit.wf, Bool.and_eq_true, decide_eq_true_eq, IntKind.min, IntKind.max, IntKind.signed, IntKind.bits] at hwf
  have hb : 0 ≤ z ∧ z ≤ 255 := by simpa using hwf
  exact ⟨z, hb.1, hb.2, by simpa using h2 0 _ rfl⟩
theorem b10Rises_ok {G : GH} {A : Option Addr} {c : Nat} {xs : List Int} {n : Int} (h : IntS G A c xs) (hl : xs.length < 2 ^ 40) (h1 : ∀ i, i < xs.length → 0 ≤ xs.getD i 0 ∧ xs.getD i 0 < n) (h2 : ∀ i, 0 < i → i < xs.length → xs.getD (i - 1) 0 < xs.getD i 0) {K : Value → GH → Prop}
    (hk : K (.bool true) G) : GC Try.prog 70 [.slice A xs.length c, .int .i64 n] G K := by
  refine c_laws_b10Rises_i (by simp) ?_
  have hsn := h.sn
  have r := h.rd
  simp (maxSteps := 300000) (disch := omega) only [gs, gs2, gs3, gs4, ↓reduceIte, Nat.reduceEqDiff, Int.reduceToNat, Nat.reduceMul, Nat.reduceAdd, Nat.reduceBEq, isLd]
  refine gLoop_intro (fun m T G' => ∃ k : Nat, T 0 = .slice A xs.length c ∧ T 1 = .int .i64 n ∧ T 5 = .int .i64 k ∧ m + k = xs.length ∧ k ≤ xs.length ∧ G = G')
    xs.length ⟨0, by simp (maxSteps := 300000) (disch := omega) only [gs, gs2, gs3, gs4, ↓reduceIte, Nat.reduceEqDiff, Int.reduceToNat, Nat.reduceMul, Nat.reduceAdd, Nat.reduceBEq, isLd], by simp (maxSteps := 300000) (disch := omega) only [gs, gs2, gs3, gs4, ↓reduceIte, Nat.reduceEqDiff, Int.reduceToNat, Nat.reduceMul, Nat.reduceAdd, Nat.reduceBEq, isLd], by simp (maxSteps := 300000) (disch := omega) only [gs, gs2, gs3, gs4, ↓reduceIte, Nat.reduceEqDiff, Int.reduceToNat, Nat.reduceMul, Nat.reduceAdd, Nat.reduceBEq, isLd] <;> rfl, by omega, by omega, rfl⟩ ?_
  rintro m T G' ⟨k, e0, e1, e5, hm, hkl, rfl⟩
  simp (maxSteps := 300000) (disch := omega) only [gs, gs2, gs3, gs4, ↓reduceIte, Nat.reduceEqDiff, Int.reduceToNat, Nat.reduceMul, Nat.reduceAdd, Nat.reduceBEq, isLd, e0, e1, e5]
  by_cases hk2 : (k : Int) < xs.length
  · have q := h1 k (by omega)
    simp (maxSteps := 300000) (disch := omega) only [gs, gs2, gs3, gs4, ↓reduceIte, Nat.reduceEqDiff, Int.reduceToNat, Nat.reduceMul, Nat.reduceAdd, Nat.reduceBEq, isLd, e0, e1, e5, hk2, r, show (xs.getD k 0 < 0) = False from eq_false (by omega), show (n ≤ xs.getD k 0) = False from eq_false (by omega)]
    by_cases h0 : (0 : Int) < k
    · have q2 := h2 k (by omega) (by omega)
      have e3 : ((k : Int) - 1).toNat = k - 1 := by omega
      have r3 := r (k - 1) (by omega)
      simp (maxSteps := 300000) (disch := omega) only [gs, gs2, gs3, gs4, ↓reduceIte, Nat.reduceEqDiff, Int.reduceToNat, Nat.reduceMul, Nat.reduceAdd, Nat.reduceBEq, isLd, e0, e1, e5, h0, r, e3, r3, show (xs.getD k 0 ≤ xs.getD (k - 1) 0) = False from eq_false (by omega)]
      exact ⟨m - 1, by omega, _, Sub.refl _, k + 1, rfl, by omega, by omega, rfl⟩
    · simp (maxSteps := 300000) (disch := omega) only [gs, gs2, gs3, gs4, ↓reduceIte, Nat.reduceEqDiff, Int.reduceToNat, Nat.reduceMul, Nat.reduceAdd, Nat.reduceBEq, isLd, e0, e1, e5, h0]
      exact ⟨m - 1, by omega, _, Sub.refl _, k + 1, rfl, by omega, by omega, rfl⟩
  · simp (maxSteps := 300000) (disch := omega) only [gs, gs2, gs3, gs4, ↓reduceIte, Nat.reduceEqDiff, Int.reduceToNat, Nat.reduceMul, Nat.reduceAdd, Nat.reduceBEq, isLd, e0, e1, e5, hk2]
    exact hk
/-- a cell of one's own list is written. -/
theorem Own.store {G : GH} {A : Option Addr} {c n : Nat} {cs : List Value} (h : Own G A c cs 1 n) {k : Nat} {v : Value} {K : Value → GH → Prop} (hk : k < n) (hv : oneB v = true) (hK : ∀ G', Own G' A c (cs.set k v) 1 n → (∀ H, Sub H G → Off H A → Sub H G') → K undef G') : gSt 1 (.pointer (pa A k)) v G K := by
  rcases h with ⟨_, _, h0, _⟩ | ⟨b, r, rfl, h2, h3, h4, h5⟩
  · omega
  · rw [pa_mk, Nat.zero_add]
    refine st_one h2 (by rw [h4]; omega) hv ?_
    rw [List.set_append_left _ _ (by omega)]
    exact hK _ (.inr ⟨b, r, rfl, put_same _ _ _, by simpa using h3, by simpa using h4, h5⟩) fun H s o => s.skip (o _ rfl)
theorem flatL_succ (k C : Nat) (f : Int → Int → Int) : flatL (k + 1) C f = flatL k C f ++ rowL C (f k) := by
  unfold flatL rowL
  rw [Nat.add_mul, Nat.one_mul, List.range_add, List.map_append, List.map_map]
  congr 1
  refine List.map_congr_left fun j hj => ?_
  have hj := List.mem_range.1 hj
  have h1 : (k * C + j) / C = k := by rw [Nat.mul_comm, Nat.mul_add_div (by omega), Nat.div_eq_of_lt hj, Nat.add_zero]
  have h2 : (k * C + j) % C = j := by rw [Nat.mul_comm, Nat.mul_add_mod, Nat.mod_eq_of_lt hj]
  show f (((k * C + j) / C : Nat) : Int) (((k * C + j) % C : Nat) : Int) = _
  rw [h1, h2]
theorem flatL_zero (C : Nat) (f : Int → Int → Int) : flatL 0 C f = [] := by simp [flatL]
theorem Off.put {H : GH} {b : Nat} {e e' : Ent} {A : Option Addr} (h : Off (Gh.put H b e) A) : Off (Gh.put H b e') A := fun a ha => by
  have := h a ha
  by_cases x : a.block = b
  · rw [x, put_same] at this; cases this
  · rw [put_ne _ _ x] at this ⊢; exact this
theorem Off.pne {H : GH} {b : Nat} {e : Ent} {A : Option Addr} (h : Off (Gh.put H b e) A) : ∀ a, A = some a → a.block ≠ b := fun a ha x => by
  have := h a ha
  rw [x, put_same] at this; cases this
theorem Sub.swap {H G G' : GH} {b : Nat} {e e' : Ent} (s : Sub (Gh.put H b e) G) (k : Keep b G G') (hb : G' b = some e') : Sub (Gh.put H b e') G' := fun x y hx => by
  by_cases c : x = b
  · subst c; rw [put_same] at hx; rw [hb]; exact hx
  · rw [put_ne _ _ c] at hx
    rw [k x c]
    exact s x y (by rw [put_ne _ _ c]; exact hx)
theorem slices_Grow_ok {G : GH} {n : Nat} (hn : 0 < n ∧ n < 2 ^ 40) {K : Value → GH → Prop} (hk : ∀ G' A c, New G G' A c [] 1 0 → K (.slice A 0 c) G') : GC Try.prog 252 [.slice none 0 0, .int .i64 n] G K := by
  refine c_slices_Grow_int64_int64_i (by simp) ?_
  have w1 := w64 (((0 : Nat) : Int) - ((0 : Nat) : Int)) (by omega) (by omega)
  have w2 := w64 ((n : Int) - (((0 : Nat) : Int) - ((0 : Nat) : Int))) (by omega) (by omega)
  have l1 : decide ((n : Int) < 0) = false := decide_eq_false (by omega)
  have l2 : decide (0 < (n : Int) - (((0 : Nat) : Int) - ((0 : Nat) : Int))) = true := decide_eq_true (by omega)
  have e1 : slV 1 (.slice none 0 0) none (some (.int .i64 ((0 : Nat) : Int))) = some (.slice none 0 0) := rfl
  simp (maxSteps := 300000) (disch := omega) only [gs, gs2, gs3, gs4, ↓reduceIte, Nat.reduceEqDiff, Int.reduceToNat, Nat.reduceMul, Nat.reduceAdd, Nat.reduceBEq, isLd, w1, w2, l1, l2, e1, Option.map_none]
  refine ⟨none, 0, 0, n, [], rfl, by rw [show ((n : Int) - (((0 : Nat) : Int) - ((0 : Nat) : Int))) = n by omega], rfl, fun j v hj => by simp at hj, by omega, by omega, hn.1, by omega, fun b c' hb hc => ⟨put G b ⟨zc [.int .i64 0] n ++ zc [.int .i64 0] (c' - n), true⟩, by rw [Nat.zero_add]; exact Sub.refl _, ?_⟩⟩
  have e2 : slV 1 (.slice (some ⟨b, 0, none⟩) n c') none (some (.int .i64 ((0 : Nat) : Int))) = some (.slice (some ⟨b, 0, none⟩) 0 c') := by
    simp only [slV, onSl, bndV, onInt]
    rw [if_pos ⟨by omega, by omega⟩]
    simp only [Option.bind_some, Int.toNat_natCast]
    rw [if_pos (by omega)]
    simp only [Nat.zero_mul, pa_mk, Nat.add_zero, Nat.sub_zero, ite_self]
  simp only [Nat.zero_add]
  simp (maxSteps := 300000) (disch := omega) only [gs, gs2, gs3, gs4, ↓reduceIte, Nat.reduceEqDiff, Int.reduceToNat, Nat.reduceMul, Nat.reduceAdd, Nat.reduceBEq, isLd, e2, Option.map_none]
  refine hk _ _ _ (.inr ⟨b, zc [.int .i64 0] n ++ zc [.int .i64 0] (c' - n), rfl, hb, rfl, rfl, ?_, by omega⟩)
  simp only [List.nil_append, List.length_append]
  simp only [zc, List.length_map, List.length_range, List.length_singleton, Nat.mul_one]
  omega
theorem slices_Concat_ok {G : GH} {Y : Option Addr} {R C cy : Nat} {f : Int → Int → Int} (h : RowsS G Y R C f) (hR : 0 < R ∧ R ≤ 2 ^ 10) (hC : 0 < C ∧ C ≤ 2 ^ 10) {K : Value → GH → Prop} (hk : ∀ G' A c, New G G' A c ((flatL R C f).map I64) 1 (R * C) → K (.slice A (R * C) c) G') : GC Try.prog 229 [.slice Y R cy] G K := by
  refine c_slices_Concat_int64_int64_i (by simp) ?_
  obtain ⟨A, c, h1, h2⟩ := h
  simp (maxSteps := 300000) (disch := omega) only [gs, gs2, gs3, gs4, ↓reduceIte, Nat.reduceEqDiff, Int.reduceToNat, Nat.reduceMul, Nat.reduceAdd, Nat.reduceBEq, isLd]
  refine gLoop_intro (fun m T G' => ∃ k : Nat, T 0 = .slice Y R cy ∧ T 3 = .int .i64 ((k * C : Nat) : Int) ∧ T 9 = .slice Y R cy ∧ T 10 = .int .i64 R ∧ T 11 = .int .i64 k ∧ m + k = R ∧ k ≤ R ∧ G' = G) R
    ⟨0, by simp (maxSteps := 300000) (disch := omega) only [gs, gs2, gs3, gs4, ↓reduceIte, Nat.reduceEqDiff, Int.reduceToNat, Nat.reduceMul, Nat.reduceAdd, Nat.reduceBEq, isLd], by simp (maxSteps := 300000) (disch := omega) only [gs, gs2, gs3, gs4, ↓reduceIte, Nat.reduceEqDiff, Int.reduceToNat, Nat.reduceMul, Nat.reduceAdd, Nat.reduceBEq, isLd] <;> rfl, by simp (maxSteps := 300000) (disch := omega) only [gs, gs2, gs3, gs4, ↓reduceIte, Nat.reduceEqDiff, Int.reduceToNat, Nat.reduceMul, Nat.reduceAdd, Nat.reduceBEq, isLd], by simp (maxSteps := 300000) (disch := omega) only [gs, gs2, gs3, gs4, ↓reduceIte, Nat.reduceEqDiff, Int.reduceToNat, Nat.reduceMul, Nat.reduceAdd, Nat.reduceBEq, isLd], by simp (maxSteps := 300000) (disch := omega) only [gs, gs2, gs3, gs4, ↓reduceIte, Nat.reduceEqDiff, Int.reduceToNat, Nat.reduceMul, Nat.reduceAdd, Nat.reduceBEq, isLd] <;> rfl, by omega, by omega, rfl⟩ ?_
  rintro m T G' ⟨k, e0, e3, e9, e10, e11, hm, hkl, rfl⟩
  simp (maxSteps := 300000) (disch := omega) only [gs, gs2, gs3, gs4, ↓reduceIte, Nat.reduceEqDiff, Int.reduceToNat, Nat.reduceMul, Nat.reduceAdd, Nat.reduceBEq, isLd, e0, e3, e9, e10, e11]
  by_cases hkk : (k : Int) < R
  · have hrk := h1 k (by omega)
    have hkC : k * C ≤ 2 ^ 10 * 2 ^ 10 := Nat.mul_le_mul (by omega) hC.2
    have w1 := w64 (((k * C : Nat) : Int) + (C : Int)) (by omega) (by omega)
    have l1 : decide (((k * C : Nat) : Int) + (C : Int) < 0) = false := decide_eq_false (by omega)
    have hsn : 0 < sn Y := rd_some' hrk
    simp (maxSteps := 300000) (disch := omega) only [gs, gs2, gs3, gs4, ↓reduceIte, Nat.reduceEqDiff, Int.reduceToNat, Nat.reduceMul, Nat.reduceAdd, Nat.reduceBEq, isLd, e0, e3, e9, e10, e11, hkk, hrk, hsn, w1, l1]
    exact ⟨m - 1, by omega, G', Sub.refl _, k + 1, by rw [Nat.add_mul, Nat.one_mul]; push_cast; rfl, rfl, by omega, by omega, rfl⟩
  · simp (maxSteps := 300000) (disch := omega) only [gs, gs2, gs3, gs4, ↓reduceIte, Nat.reduceEqDiff, Int.reduceToNat, Nat.reduceMul, Nat.reduceAdd, Nat.reduceBEq, isLd, e0, e3, e9, e10, e11, hkk]
    obtain rfl : k = R := by omega
    have hkC : 0 < k * C := Nat.mul_pos hR.1 hC.1
    have hkC2 : k * C ≤ 2 ^ 10 * 2 ^ 10 := Nat.mul_le_mul hR.2 hC.2
    refine slices_Grow_ok ⟨hkC, by omega⟩ fun G2 A2 c2 hN => ?_
    simp (maxSteps := 300000) (disch := omega) only [gs, gs2, gs3, gs4, ↓reduceIte, Nat.reduceEqDiff, Int.reduceToNat, Nat.reduceMul, Nat.reduceAdd, Nat.reduceBEq, isLd, e0, e3, e9, e10, e11]
    refine gLoop_intro (fun m T Gx => ∃ (i : Nat) (B : Option Addr) (cB : Nat), T 6 = .slice B (i * C) cB ∧ T 25 = .slice Y k cy ∧ T 26 = .int .i64 k ∧ T 27 = .int .i64 i ∧ m + i = k ∧ i ≤ k ∧ New G' Gx B cB ((flatL i C f).map I64) 1 (i * C)) k
      ⟨0, A2, c2, by simp (maxSteps := 300000) (disch := omega) only [gs, gs2, gs3, gs4, ↓reduceIte, Nat.reduceEqDiff, Int.reduceToNat, Nat.reduceMul, Nat.reduceAdd, Nat.reduceBEq, isLd] <;> rfl, by simp (maxSteps := 300000) (disch := omega) only [gs, gs2, gs3, gs4, ↓reduceIte, Nat.reduceEqDiff, Int.reduceToNat, Nat.reduceMul, Nat.reduceAdd, Nat.reduceBEq, isLd], by simp (maxSteps := 300000) (disch := omega) only [gs, gs2, gs3, gs4, ↓reduceIte, Nat.reduceEqDiff, Int.reduceToNat, Nat.reduceMul, Nat.reduceAdd, Nat.reduceBEq, isLd], by simp (maxSteps := 300000) (disch := omega) only [gs, gs2, gs3, gs4, ↓reduceIte, Nat.reduceEqDiff, Int.reduceToNat, Nat.reduceMul, Nat.reduceAdd, Nat.reduceBEq, isLd] <;> rfl, by omega, by omega, by rw [flatL_zero, Nat.zero_mul]; exact hN⟩ ?_
    clear e0 e3 e9 e10 e11 hm hkl hN
    rintro m' T' G3 ⟨i, B, cB, e6, e25, e26, e27, hm, hkl, hN⟩
    simp (maxSteps := 300000) (disch := omega) only [gs, gs2, gs3, gs4, ↓reduceIte, Nat.reduceEqDiff, Int.reduceToNat, Nat.reduceMul, Nat.reduceAdd, Nat.reduceBEq, isLd, e6, e25, e26, e27]
    by_cases hii : (i : Int) < k
    · have hri := rd_sub hN.sub (h1 i (by omega))
      have hsn : 0 < sn Y := rd_some' hri
      have hrow := (h2 i (by omega)).sub hN.sub
      have hiC : i * C ≤ 2 ^ 10 * 2 ^ 10 := Nat.mul_le_mul (by omega) hC.2
      simp (maxSteps := 300000) (disch := omega) only [gs, gs2, gs3, gs4, ↓reduceIte, Nat.reduceEqDiff, Int.reduceToNat, Nat.reduceMul, Nat.reduceAdd, Nat.reduceBEq, isLd, e6, e25, e26, e27, hii, hri, hsn]
      refine ap_new hN (Sub.refl _) (news := (rowL C (f i)).map I64) (m := C) ?_ (by simp [rowL_len]) (by intro v hv; obtain ⟨x, _, rfl⟩ := List.mem_map.1 hv; rfl) rfl (by omega) (by omega) (by omega) fun G4 B4 c4 hN4 => ?_
      · exact hrow.cells
      simp (maxSteps := 300000) (disch := omega) only [gs, gs2, gs3, gs4, ↓reduceIte, Nat.reduceEqDiff, Int.reduceToNat, Nat.reduceMul, Nat.reduceAdd, Nat.reduceBEq, isLd, e6, e25, e26, e27]
      exact ⟨m' - 1, by omega, G4, Sub.refl _, i + 1, B4, c4, by rw [Nat.add_mul, Nat.one_mul], rfl, by omega, by omega, hN4.cast (by rw [flatL_succ, List.map_append]) (by rw [Nat.add_mul, Nat.one_mul])⟩
    · simp (maxSteps := 300000) (disch := omega) only [gs, gs2, gs3, gs4, ↓reduceIte, Nat.reduceEqDiff, Int.reduceToNat, Nat.reduceMul, Nat.reduceAdd, Nat.reduceBEq, isLd, e6, e25, e26, e27, hii]
      obtain rfl : i = k := by omega
      exact hk _ _ _ hN
theorem impl_unit_fn1_ok {i j : Int} {G : GH} {K : Value → GH → Prop} (hk : K (.int .i64 (if i = j then 1 else 0)) G) : GC Try.prog 227 [.int .i64 i, .int .i64 j] G K := by
  refine c_impl_unit_fn1_i (by simp) ?_
  by_cases h : i = j
  · rw [if_pos h] at hk
    simp (maxSteps := 300000) (disch := omega) only [gs, gs2, gs3, gs4, ↓reduceIte, Nat.reduceEqDiff, Int.reduceToNat, Nat.reduceMul, Nat.reduceAdd, Nat.reduceBEq, isLd, eq_true h]
    exact hk
  · rw [if_neg h] at hk
    simp (maxSteps := 300000) (disch := omega) only [gs, gs2, gs3, gs4, ↓reduceIte, Nat.reduceEqDiff, Int.reduceToNat, Nat.reduceMul, Nat.reduceAdd, Nat.reduceBEq, isLd, eq_false h]
    exact hk
theorem impl_filled_unit_ok {G : GH} {p : Int} {n : Nat} (hn : n ≤ 2 ^ 10) {K : Value → GH → Prop} (hk : ∀ G' A c, Sub G G' → Off G A → Own G' A c ((flatL n n (fun i j => if i = j then 1 else 0)).map I64) 1 (n * n) → K (matV p n n A (n * n) c) G') :
    GC Try.prog 226 [.int .i64 p, .int .i64 n, .int .i64 n, .func (.func 227) #[] #[]] G K := by
  refine c_impl_filled_i (by simp) ?_
  generalize hdl : (fun i j : Int => if i = j then (1 : Int) else 0) = dl at hk
  simp (maxSteps := 300000) (disch := omega) only [gs, gs2, gs3, gs4, ↓reduceIte, Nat.reduceEqDiff, Int.reduceToNat, Nat.reduceMul, Nat.reduceAdd, Nat.reduceBEq, isLd]
  intro b8 hb8
  simp (maxSteps := 300000) (disch := omega) only [gs, gs2, gs3, gs4, ↓reduceIte, Nat.reduceEqDiff, Int.reduceToNat, Nat.reduceMul, Nat.reduceAdd, Nat.reduceBEq, isLd]
  intro b9 hb9
  have s8 := Sub.put hb8 ⟨[.int .i64 0, .int .i64 0, .int .i64 0, .slice none 0 0], true⟩
  have g8 : put G b8 ⟨[.int .i64 0, .int .i64 0, .int .i64 0, .slice none 0 0], true⟩ b8 = some ⟨[.int .i64 0, .int .i64 0, .int .i64 0, .slice none 0 0], true⟩ := put_same _ _ _
  revert hb9 s8 g8
  generalize put G b8 ⟨[.int .i64 0, .int .i64 0, .int .i64 0, .slice none 0 0], true⟩ = H
  intro hb9 s8 g8
  simp (maxSteps := 300000) (disch := omega) only [gs, gs2, gs3, gs4, ↓reduceIte, Nat.reduceEqDiff, Int.reduceToNat, Nat.reduceMul, Nat.reduceAdd, Nat.reduceBEq, isLd]
  refine st_many (vs := matC p n n none 0 0) rfl (put_same _ _ _) rfl (by simp) (by intro v hv; simp [matC] at hv; rcases hv with rfl | rfl | rfl | rfl <;> rfl) ?_
  rw [put_put']
  simp (maxSteps := 300000) (disch := omega) only [gs, gs2, gs3, gs4, ↓reduceIte, Nat.reduceEqDiff, Int.reduceToNat, Nat.reduceMul, Nat.reduceAdd, Nat.reduceBEq, isLd, over, matC]
  refine gLoop_intro (fun m T G' => ∃ (i : Nat) (B : Option Addr) (c : Nat), T 1 = .int .i64 n ∧ T 2 = .int .i64 n ∧ T 3 = .func (.func 227) #[] #[] ∧ T 8 = .pointer (some ⟨b8, 0, none⟩) ∧ T 9 = .pointer (some ⟨b9, 0, none⟩) ∧ T 16 = .int .i64 n ∧ T 17 = .int .i64 i ∧ m + i = n ∧ i ≤ n ∧
      Sub (put H b9 ⟨matC p n n B (i * n) c, true⟩) G' ∧ Off (put H b9 ⟨matC p n n B (i * n) c, true⟩) B ∧ Own G' B c ((flatL i n dl).map I64) 1 (i * n)) n
    ⟨0, none, 0, by simp (maxSteps := 300000) (disch := omega) only [gs, gs2, gs3, gs4, ↓reduceIte, Nat.reduceEqDiff, Int.reduceToNat, Nat.reduceMul, Nat.reduceAdd, Nat.reduceBEq, isLd], by simp (maxSteps := 300000) (disch := omega) only [gs, gs2, gs3, gs4, ↓reduceIte, Nat.reduceEqDiff, Int.reduceToNat, Nat.reduceMul, Nat.reduceAdd, Nat.reduceBEq, isLd], by simp (maxSteps := 300000) (disch := omega) only [gs, gs2, gs3, gs4, ↓reduceIte, Nat.reduceEqDiff, Int.reduceToNat, Nat.reduceMul, Nat.reduceAdd, Nat.reduceBEq, isLd], by simp (maxSteps := 300000) (disch := omega) only [gs, gs2, gs3, gs4, ↓reduceIte, Nat.reduceEqDiff, Int.reduceToNat, Nat.reduceMul, Nat.reduceAdd, Nat.reduceBEq, isLd], by simp (maxSteps := 300000) (disch := omega) only [gs, gs2, gs3, gs4, ↓reduceIte, Nat.reduceEqDiff, Int.reduceToNat, Nat.reduceMul, Nat.reduceAdd, Nat.reduceBEq, isLd], by simp (maxSteps := 300000) (disch := omega) only [gs, gs2, gs3, gs4, ↓reduceIte, Nat.reduceEqDiff, Int.reduceToNat, Nat.reduceMul, Nat.reduceAdd, Nat.reduceBEq, isLd], by simp (maxSteps := 300000) (disch := omega) only [gs, gs2, gs3, gs4, ↓reduceIte, Nat.reduceEqDiff, Int.reduceToNat, Nat.reduceMul, Nat.reduceAdd, Nat.reduceBEq, isLd] <;> rfl, by omega, by omega, by rw [Nat.zero_mul]; exact Sub.refl _, Off.nil _, by rw [Nat.zero_mul, flatL_zero]; exact Own.nil _ _⟩ ?_
  rintro m T G' ⟨i, B, c, e1, e2, e3, e8, e9, e16, e17, hm, hi, hS, hO, hW⟩
  simp (maxSteps := 300000) (disch := omega) only [gs, gs2, gs3, gs4, ↓reduceIte, Nat.reduceEqDiff, Int.reduceToNat, Nat.reduceMul, Nat.reduceAdd, Nat.reduceBEq, isLd, e1, e2, e3, e8, e9, e16, e17]
  by_cases hii : (i : Int) < n
  · simp (maxSteps := 300000) (disch := omega) only [gs, gs2, gs3, gs4, ↓reduceIte, Nat.reduceEqDiff, Int.reduceToNat, Nat.reduceMul, Nat.reduceAdd, Nat.reduceBEq, isLd, e1, e2, e3, e8, e9, e16, e17, hii]
    refine gLoop_intro (fun m' T' G' => ∃ (j : Nat) (B : Option Addr) (c : Nat), T' 1 = .int .i64 n ∧ T' 2 = .int .i64 n ∧ T' 3 = .func (.func 227) #[] #[] ∧ T' 8 = .pointer (some ⟨b8, 0, none⟩) ∧ T' 9 = .pointer (some ⟨b9, 0, none⟩) ∧ T' 10 = .int .i64 i ∧ T' 16 = .int .i64 n ∧ T' 17 = .int .i64 i ∧ T' 20 = .int .i64 n ∧ T' 21 = .int .i64 j ∧ m' + j = n ∧ j ≤ n ∧
        Sub (put H b9 ⟨matC p n n B (i * n + j) c, true⟩) G' ∧ Off (put H b9 ⟨matC p n n B (i * n + j) c, true⟩) B ∧ Own G' B c ((flatL i n dl ++ rowL j (dl i)).map I64) 1 (i * n + j)) n
      ⟨0, B, c, by simp (maxSteps := 300000) (disch := omega) only [gs, gs2, gs3, gs4, ↓reduceIte, Nat.reduceEqDiff, Int.reduceToNat, Nat.reduceMul, Nat.reduceAdd, Nat.reduceBEq, isLd, e1], by simp (maxSteps := 300000) (disch := omega) only [gs, gs2, gs3, gs4, ↓reduceIte, Nat.reduceEqDiff, Int.reduceToNat, Nat.reduceMul, Nat.reduceAdd, Nat.reduceBEq, isLd, e2], by simp (maxSteps := 300000) (disch := omega) only [gs, gs2, gs3, gs4, ↓reduceIte, Nat.reduceEqDiff, Int.reduceToNat, Nat.reduceMul, Nat.reduceAdd, Nat.reduceBEq, isLd, e3], by simp (maxSteps := 300000) (disch := omega) only [gs, gs2, gs3, gs4, ↓reduceIte, Nat.reduceEqDiff, Int.reduceToNat, Nat.reduceMul, Nat.reduceAdd, Nat.reduceBEq, isLd, e8], by simp (maxSteps := 300000) (disch := omega) only [gs, gs2, gs3, gs4, ↓reduceIte, Nat.reduceEqDiff, Int.reduceToNat, Nat.reduceMul, Nat.reduceAdd, Nat.reduceBEq, isLd, e9], by simp (maxSteps := 300000) (disch := omega) only [gs, gs2, gs3, gs4, ↓reduceIte, Nat.reduceEqDiff, Int.reduceToNat, Nat.reduceMul, Nat.reduceAdd, Nat.reduceBEq, isLd], by simp (maxSteps := 300000) (disch := omega) only [gs, gs2, gs3, gs4, ↓reduceIte, Nat.reduceEqDiff, Int.reduceToNat, Nat.reduceMul, Nat.reduceAdd, Nat.reduceBEq, isLd, e16], by simp (maxSteps := 300000) (disch := omega) only [gs, gs2, gs3, gs4, ↓reduceIte, Nat.reduceEqDiff, Int.reduceToNat, Nat.reduceMul, Nat.reduceAdd, Nat.reduceBEq, isLd, e17], by simp (maxSteps := 300000) (disch := omega) only [gs, gs2, gs3, gs4, ↓reduceIte, Nat.reduceEqDiff, Int.reduceToNat, Nat.reduceMul, Nat.reduceAdd, Nat.reduceBEq, isLd], by simp (maxSteps := 300000) (disch := omega) only [gs, gs2, gs3, gs4, ↓reduceIte, Nat.reduceEqDiff, Int.reduceToNat, Nat.reduceMul, Nat.reduceAdd, Nat.reduceBEq, isLd] <;> rfl, by omega, by omega, hS, hO, by rw [show rowL 0 (dl i) = [] from rfl, List.append_nil]; exact hW⟩ ?_
    clear e1 e2 e3 e8 e9 e16 e17 hS hO hW B c G'
    rintro m' T' G' ⟨j, B, c, e1, e2, e3, e8, e9, e10, e16, e17, e20, e21, hm', hj, hS, hO, hW⟩
    simp (maxSteps := 300000) (disch := omega) only [gs, gs2, gs3, gs4, ↓reduceIte, Nat.reduceEqDiff, Int.reduceToNat, Nat.reduceMul, Nat.reduceAdd, Nat.reduceBEq, isLd, e1, e2, e3, e8, e9, e10, e16, e17, e20, e21]
    by_cases hjj : (j : Int) < n
    · have r3 : rd G' (some ⟨b9, 3, none⟩) = some (.slice B (i * n + j) c) := rd_sub hS (rd_box _ _ _ 3 _ rfl)
      have hin : i * n ≤ 2 ^ 10 * 2 ^ 10 := Nat.mul_le_mul (by omega) hn
      simp (maxSteps := 300000) (disch := omega) only [gs, gs2, gs3, gs4, ↓reduceIte, Nat.reduceEqDiff, Int.reduceToNat, Nat.reduceMul, Nat.reduceAdd, Nat.reduceBEq, isLd, e1, e2, e3, e8, e9, e10, e16, e17, e20, e21, hjj, r3]
      refine impl_unit_fn1_ok ?_
      have hd : (if (i : Int) = (j : Int) then (1 : Int) else 0) = dl i j := by rw [← hdl]
      rw [hd]
      simp (maxSteps := 300000) (disch := omega) only [gs, gs2, gs3, gs4, ↓reduceIte, Nat.reduceEqDiff, Int.reduceToNat, Nat.reduceMul, Nat.reduceAdd, Nat.reduceBEq, isLd, e1, e2, e3, e8, e9, e10, e16, e17, e20, e21, r3, gBs]
      refine ⟨by intro v hv; simp at hv; subst hv; rfl, fun b15 hb15 => ?_⟩
      have s15 := Sub.put hb15 ⟨[.int .i64 (dl i j)], true⟩
      refine ⟨rd_sub s15 r3, ?_⟩
      refine ap_own (hW.sub s15) (news := [I64 (dl i j)]) (m := 1) (cells_one _ true) rfl (by intro v hv; simp at hv; subst hv; rfl) rfl (by omega) (by omega) (by omega) fun G3 A3 c3' hW3 keep => ?_
      obtain ⟨hS3, hO3⟩ := keep _ (hS.trans s15) hO
      simp (maxSteps := 300000) (disch := omega) only [gs, gs2, gs3, gs4, ↓reduceIte, Nat.reduceEqDiff, Int.reduceToNat, Nat.reduceMul, Nat.reduceAdd, Nat.reduceBEq, isLd, e1, e2, e3, e8, e9, e10, e16, e17, e20, e21]
      refine st_src (hS3 _ _ (put_same _ _ _)) rfl (by simp [matC]) fun G4 k4 g4 => ?_
      simp (maxSteps := 300000) (disch := omega) only [gs, gs2, gs3, gs4, ↓reduceIte, Nat.reduceEqDiff, Int.reduceToNat, Nat.reduceMul, Nat.reduceAdd, Nat.reduceBEq, isLd, e1, e2, e3, e8, e9, e10, e16, e17, e20, e21]
      refine ⟨m' - 1, by omega, G4, Sub.refl _, j + 1, A3, c3', rfl, by omega, by omega, hS3.swap k4 g4, hO3.put, ?_⟩
      rw [rowL_succ, ← List.append_assoc, List.map_append]
      exact hW3.keep k4 hO3.pne
    · simp (maxSteps := 300000) (disch := omega) only [gs, gs2, gs3, gs4, ↓reduceIte, Nat.reduceEqDiff, Int.reduceToNat, Nat.reduceMul, Nat.reduceAdd, Nat.reduceBEq, isLd, e1, e2, e3, e8, e9, e10, e16, e17, e20, e21, hjj]
      obtain rfl : j = n := by omega
      refine ⟨m - 1, by omega, G', Sub.refl _, i + 1, B, c, rfl, by omega, by omega, ?_⟩
      rw [flatL_succ, Nat.add_mul, Nat.one_mul]
      exact ⟨hS, hO, hW⟩
  · simp (maxSteps := 300000) (disch := omega) only [gs, gs2, gs3, gs4, ↓reduceIte, Nat.reduceEqDiff, Int.reduceToNat, Nat.reduceMul, Nat.reduceAdd, Nat.reduceBEq, isLd, e1, e2, e3, e8, e9, e16, e17, hii]
    obtain rfl : i = n := by omega
    have r0 : rd G' (some ⟨b9, 0, none⟩) = some (.int .i64 p) := rd_sub hS (rd_box _ _ _ 0 _ rfl)
    have r1 : rd G' (some ⟨b9, 1, none⟩) = some (.int .i64 i) := rd_sub hS (rd_box _ _ _ 1 _ rfl)
    have r2 : rd G' (some ⟨b9, 2, none⟩) = some (.int .i64 i) := rd_sub hS (rd_box _ _ _ 2 _ rfl)
    have r3 : rd G' (some ⟨b9, 3, none⟩) = some (.slice B (i * i) c) := rd_sub hS (rd_box _ _ _ 3 _ rfl)
    have n89 : b8 ≠ b9 := fun x => by rw [x, hb9] at g8; cases g8
    have sH : Sub H G' := fun x e hx => hS x e (by rw [put_ne _ _ (fun y => by rw [y, hb9] at hx; cases hx)]; exact hx)
    simp (maxSteps := 300000) (disch := omega) only [gs, gs2, gs3, gs4, ↓reduceIte, Nat.reduceEqDiff, Int.reduceToNat, Nat.reduceMul, Nat.reduceAdd, Nat.reduceBEq, isLd, e8, e9, r0, r1, r2, r3]
    refine st_many (vs := matC p i i B (i * i) c) rfl (sH _ _ g8) rfl (by simp) (by intro v hv; simp [matC] at hv; rcases hv with rfl | rfl | rfl | rfl <;> rfl) ?_
    simp (maxSteps := 300000) (disch := omega) only [gs, gs2, gs3, gs4, ↓reduceIte, Nat.reduceEqDiff, Int.reduceToNat, Nat.reduceMul, Nat.reduceAdd, Nat.reduceBEq, isLd, over, matC, e8]
    have oH : Off H B := fun a ha => by
      have := hO a ha
      rwa [put_ne _ _ (hO.pne a ha)] at this
    have nb : ∀ a, B = some a → a.block ≠ b8 := fun a ha x => by
      have := oH a ha
      rw [x, g8] at this; cases this
    exact hk _ _ _ ((s8.trans sH).skip hb8) (oH.mono s8) (hW.put nb _)
theorem impl_unit_ok {G : GH} {p : Int} {n : Nat} (hn : n ≤ 2 ^ 10) {K : Value → GH → Prop} (hk : ∀ G' A c, Sub G G' → Off G A → Own G' A c ((flatL n n (fun i j => if i = j then 1 else 0)).map I64) 1 (n * n) → K (matV p n n A (n * n) c) G') :
    GC Try.prog 167 [.int .i64 p, .int .i64 n] G K := by
  refine c_impl_unit_i (by simp) ?_
  simp (maxSteps := 300000) (disch := omega) only [gs, gs2, gs3, gs4, ↓reduceIte, Nat.reduceEqDiff, Int.reduceToNat, Nat.reduceMul, Nat.reduceAdd, Nat.reduceBEq, isLd]
  intro b4 hb4
  simp (maxSteps := 300000) (disch := omega) only [gs, gs2, gs3, gs4, ↓reduceIte, Nat.reduceEqDiff, Int.reduceToNat, Nat.reduceMul, Nat.reduceAdd, Nat.reduceBEq, isLd]
  refine impl_filled_unit_ok hn fun G2 A c hS hO hW => ?_
  have g4 := hS _ _ (put_same _ _ _)
  simp (maxSteps := 300000) (disch := omega) only [gs, gs2, gs3, gs4, ↓reduceIte, Nat.reduceEqDiff, Int.reduceToNat, Nat.reduceMul, Nat.reduceAdd, Nat.reduceBEq, isLd]
  refine st_many (vs := matC p n n A (n * n) c) rfl g4 rfl (by simp) (by intro v hv; simp [matC] at hv; rcases hv with rfl | rfl | rfl | rfl <;> rfl) ?_
  simp (maxSteps := 300000) (disch := omega) only [gs, gs2, gs3, gs4, ↓reduceIte, Nat.reduceEqDiff, Int.reduceToNat, Nat.reduceMul, Nat.reduceAdd, Nat.reduceBEq, isLd, over, matC]
  have nb : ∀ a, A = some a → a.block ≠ b4 := hO.pne
  have sG : Sub G G2 := (Sub.put hb4 _).trans hS
  exact hk _ _ _ (sG.skip hb4) (hO.mono (Sub.put hb4 _)) (hW.put nb _)
theorem impl_matrixOf_ok {G : GH} {Y : Option Addr} {n cy : Nat} {p : Int} {f : Int → Int → Int} (h : RowsS G Y n n f) (hn : 0 < n ∧ n ≤ 2 ^ 10) {K : Value → GH → Prop} (hk : ∀ G' A c, Sub G G' → IntS G' A c (flatL n n f) → K (matV p n n A (n * n) c) G') : GC Try.prog 169 [.int .i64 p, .int .i64 n, .slice Y n cy] G K := by
  refine c_impl_matrixOf_i (by simp) ?_
  simp (maxSteps := 300000) (disch := omega) only [gs, gs2, gs3, gs4, ↓reduceIte, Nat.reduceEqDiff, Int.reduceToNat, Nat.reduceMul, Nat.reduceAdd, Nat.reduceBEq, isLd]
  intro b6 hb6
  simp (maxSteps := 300000) (disch := omega) only [gs, gs2, gs3, gs4, ↓reduceIte, Nat.reduceEqDiff, Int.reduceToNat, Nat.reduceMul, Nat.reduceAdd, Nat.reduceBEq, isLd]
  refine c_impl_size_S_int64_i (by simp) ?_
  simp (maxSteps := 300000) (disch := omega) only [gs, gs2, gs3, gs4, ↓reduceIte, Nat.reduceEqDiff, Int.reduceToNat, Nat.reduceMul, Nat.reduceAdd, Nat.reduceBEq, isLd]
  refine slices_Concat_ok (h.sub (Sub.put hb6 _)) hn hn fun G2 A c hN => ?_
  have g6 := hN.sub _ _ (put_same _ _ _)
  have hb : bldV [Value.int IntKind.i64 0, Value.int IntKind.i64 0, Value.int IntKind.i64 0, Value.slice none 0 0] [(0, 1, Value.int IntKind.i64 p), (1, 1, Value.int IntKind.i64 n), (2, 1, Value.int IntKind.i64 n), (3, 1, Value.slice A (n * n) c)] = some (matC p n n A (n * n) c) := rfl
  simp (maxSteps := 300000) (disch := omega) only [gs, gs2, gs3, gs4, ↓reduceIte, Nat.reduceEqDiff, Int.reduceToNat, Nat.reduceMul, Nat.reduceAdd, Nat.reduceBEq, isLd, hb]
  refine st_many (vs := matC p n n A (n * n) c) rfl g6 rfl (by simp) (by intro v hv; simp [matC] at hv; rcases hv with rfl | rfl | rfl | rfl <;> rfl) ?_
  simp (maxSteps := 300000) (disch := omega) only [gs, gs2, gs3, gs4, ↓reduceIte, Nat.reduceEqDiff, Int.reduceToNat, Nat.reduceMul, Nat.reduceAdd, Nat.reduceBEq, isLd, over, matC]
  have nb : ∀ a, A = some a → a.block ≠ b6 := hN.nb (put_same _ _ _)
  exact hk _ _ _ (((Sub.put hb6 _).trans hN.sub).skip hb6) ((hN.fresh.put nb _).ints' (by simp [flatL_len]))
/-- the rows of the equations while they are made, with the list of what they give. -/
structure Hx (H G : GH) (bO bg : Nat) (B o cp : Nat → Nat) (n k : Nat) (f : Int → Int → Int) (q : Int → Int) : Prop where
  sub : Sub H G
  nO : H bO = none
  ng : H bg = none
  bo : G bO = some ⟨rowsC (fun i => some ⟨B i, o i, none⟩) cp n n, true⟩
  gg : G bg = some ⟨fcells n q, true⟩
  nB : ∀ i, i < n → H (B i) = none
  ne : ∀ i, i < n → B i ≠ bO ∧ B i ≠ bg
  og : bO ≠ bg
  row : ∀ i j : Nat, i < n → j < n → rd G (some ⟨B i, o i + j, none⟩) = some (.int .i64 (f i j))
  cap : ∀ i, i < n → n ≤ cp i
  todo : ∀ i : Nat, k ≤ i → i < n → o i = 0 ∧ G (B i) = some ⟨fcells n (f i), true⟩
  inj : ∀ i j, i < n → k ≤ j → j < n → i ≠ j → B i ≠ B j
theorem Hx.up {H G G' : GH} {bO bg : Nat} {B o cp : Nat → Nat} {n k : Nat} {f : Int → Int → Int} {q : Int → Int} (h : Hx H G bO bg B o cp n k f q) (s : Sub G G') : Hx H G' bO bg B o cp n k f q :=
  ⟨h.sub.trans s, h.nO, h.ng, s _ _ h.bo, s _ _ h.gg, h.nB, h.ne, h.og, fun i j hi hj => rd_sub s (h.row i j hi hj), h.cap, fun i hi hn => ⟨(h.todo i hi hn).1, s _ _ (h.todo i hi hn).2⟩, h.inj⟩
theorem Hx.get {H G : GH} {bO bg : Nat} {B o cp : Nat → Nat} {n k : Nat} {f : Int → Int → Int} {q : Int → Int} (h : Hx H G bO bg B o cp n k f q) {i : Nat} (hi : i < n) : rd G (some ⟨bO, i, none⟩) = some (.slice (some ⟨B i, o i, none⟩) n (cp i)) := by
  simp only [rd, h.bo, Option.bind_some]; rw [rowsC_get hi]
theorem Hx.next {H G : GH} {bO bg : Nat} {B o cp : Nat → Nat} {n k : Nat} {f : Int → Int → Int} {q : Int → Int} (h : Hx H G bO bg B o cp n k f q) : Hx H G bO bg B o cp n (k + 1) f q :=
  ⟨h.sub, h.nO, h.ng, h.bo, h.gg, h.nB, h.ne, h.og, h.row, h.cap, fun i hi => h.todo i (by omega), fun i j hi hj => h.inj i j hi (by omega)⟩
theorem fcells_conN {n : Nat} {f g : Int → Int} (e : ∀ j : Nat, j < n → f j = g j) : fcells n f = fcells n g := by rw [fcells_rowL, fcells_rowL, rowL_congr e]
theorem Hx.cong {H G : GH} {bO bg : Nat} {B o cp : Nat → Nat} {n k : Nat} {f f' : Int → Int → Int} {q q' : Int → Int} (h : Hx H G bO bg B o cp n k f q) (e : ∀ i j : Nat, i < n → j < n → f i j = f' i j) (e' : ∀ j : Nat, j < n → q j = q' j) : Hx H G bO bg B o cp n k f' q' :=
  ⟨h.sub, h.nO, h.ng, h.bo, by rw [h.gg, fcells_conN e'], h.nB, h.ne, h.og, fun i j hi hj => by rw [← e i j hi hj]; exact h.row i j hi hj, h.cap, fun i hi hn => ⟨(h.todo i hi hn).1, by rw [(h.todo i hi hn).2, fcells_conN fun j hj => e i j hn hj]⟩, h.inj⟩
/-- a cell of the row at hand is written. -/
theorem Hx.st {H G : GH} {bO bg : Nat} {B o cp : Nat → Nat} {n k : Nat} {f : Int → Int → Int} {q : Int → Int} (h : Hx H G bO bg B o cp n k f q) (hk : k < n) {j : Nat} (hj : j < n) {x : Int} {K : Value → GH → Prop} (hK : ∀ G', Hx H G' bO bg B o cp n k (upd2 f k j x) q → K undef G') : gSt 1 (.pointer (some ⟨B k, o k + j, none⟩)) (.int .i64 x) G K := by
  obtain ⟨ho, hb⟩ := h.todo k (Nat.le_refl _) hk
  rw [ho, Nat.zero_add]
  have hf := st_fcells (b := B k) (f := f k) (K := K) hb (v := (j : Int)) (x := x) (by omega) (by omega)
  rw [Int.toNat_natCast] at hf
  refine hf fun G' hb' hK' => hK G' ?_
  have hN := h.ne k hk
  refine ⟨sub_keep hK' (h.nB k hk) h.sub, h.nO, h.ng, by rw [hK' _ hN.1.symm]; exact h.bo, by rw [hK' _ hN.2.symm]; exact h.gg, h.nB, h.ne, h.og, fun i j' hi hj' => ?_, h.cap, fun i hi hn => ⟨(h.todo i hi hn).1, ?_⟩, h.inj⟩
  · by_cases e : i = k
    · subst e
      have hr := rd_fcells hb' (v := (j' : Int)) (by omega) (by omega)
      rw [Int.toNat_natCast] at hr
      rw [ho, Nat.zero_add, hr]
      unfold updAt upd2
      by_cases e2 : j' = j
      · subst e2; simp
      · rw [if_neg (by omega), if_neg (by omega)]
    · have e3 : ¬ ((i : Int) = k ∧ (j' : Int) = j) := by omega
      have : upd2 f k j x i j' = f i j' := by unfold upd2; rw [if_neg e3]
      rw [this]
      exact rd_keep hK' (h.inj i k hi (Nat.le_refl _) hk e) (h.row i j' hi hj')
  · by_cases e : i = k
    · subst e
      rw [hb']
      have : updAt (f i) j x = upd2 f i j x i := by funext b; simp [updAt, upd2]
      rw [this]
    · rw [hK' _ (h.inj i k hn (Nat.le_refl _) hk e), (h.todo i hi hn).2]
      rw [fcells_conN (g := upd2 f k j x i) fun b hb => by unfold upd2; rw [if_neg (by omega)]]
/-- the row at hand is exchanged for another one. -/
theorem Hx.put {H G : GH} {bO bg : Nat} {B o cp : Nat → Nat} {n k : Nat} {f : Int → Int → Int} {q : Int → Int} (h : Hx H G bO bg B o cp n k f q) (hk : k < n) {b' o' c' : Nat} {r : Int → Int} (hr : ∀ j : Nat, j < n → rd G (some ⟨b', o' + j, none⟩) = some (.int .i64 (r j))) (hc : n ≤ c') (hH : H b' = none) (hO : b' ≠ bO ∧ b' ≠ bg) (hB : ∀ i, i < n → B i ≠ b')
    {K : Value → GH → Prop} (hK : ∀ G' B o cp, Hx H G' bO bg B o cp n (k + 1) (fun i j => if i = k then r j else f i j) q → K undef G') : gSt 1 (.pointer (some ⟨bO, k, none⟩)) (.slice (some ⟨b', o', none⟩) n c') G K := by
  refine st_src h.bo rfl (by rw [rowsC_len]; exact hk) fun G' hK' hb' => hK G' (fun i => if i = k then b' else B i) (fun i => if i = k then o' else o i) (fun i => if i = k then c' else cp i) ?_
  rw [rowsC_set] at hb'
  have hfun : (fun i => if i = k then some (⟨b', o', none⟩ : Addr) else some ⟨B i, o i, none⟩) = fun i => some ⟨if i = k then b' else B i, if i = k then o' else o i, none⟩ := by
    funext i; by_cases e : i = k
    · rw [if_pos e, if_pos e, if_pos e]
    · rw [if_neg e, if_neg e, if_neg e]
  rw [hfun] at hb'
  refine ⟨sub_keep hK' h.nO h.sub, h.nO, h.ng, hb', by rw [hK' _ h.og.symm]; exact h.gg, fun i hi => ?_, fun i hi => ?_, h.og, fun i j hi hj => ?_, fun i hi => ?_, fun i hi hn => ?_, fun i j hi hk1 hj hne => ?_⟩
  · by_cases e : i = k
    · simp only [if_pos e]; exact hH
    · simp only [if_neg e]; exact h.nB i hi
  · by_cases e : i = k
    · simp only [if_pos e]; exact hO
    · simp only [if_neg e]; exact h.ne i hi
  · by_cases e : i = k
    · have e' : (i : Int) = k := by omega
      simp only [if_pos e, if_pos e']
      exact rd_keep hK' hO.1 (hr j hj)
    · have e' : ¬ (i : Int) = k := by omega
      simp only [if_neg e, if_neg e']
      exact rd_keep hK' (h.ne i hi).1 (h.row i j hi hj)
  · by_cases e : i = k
    · simp only [if_pos e]; exact hc
    · simp only [if_neg e]; exact h.cap i hi
  · have e : ¬ i = k := by omega
    have e' : ¬ (i : Int) = k := by omega
    obtain ⟨t1, t2⟩ := h.todo i (by omega) hn
    simp only [if_neg e, if_neg e']
    exact ⟨t1, by rw [hK' _ (h.ne i hn).1]; exact t2⟩
  · have ej : ¬ j = k := by omega
    simp only [if_neg ej]
    by_cases e : i = k
    · simp only [if_pos e]; exact (hB j hj).symm
    · simp only [if_neg e]; exact h.inj i j hi (by omega) hj hne
/-- what a row gives is written. -/
theorem Hx.stg {H G : GH} {bO bg : Nat} {B o cp : Nat → Nat} {n k : Nat} {f : Int → Int → Int} {q : Int → Int} (h : Hx H G bO bg B o cp n k f q) {j : Nat} (hj : j < n) {x : Int} {K : Value → GH → Prop} (hK : ∀ G', Hx H G' bO bg B o cp n k f (updAt q j x) → K undef G') : gSt 1 (.pointer (some ⟨bg, j, none⟩)) (.int .i64 x) G K := by
  have hf := st_fcells (K := K) h.gg (v := (j : Int)) (x := x) (by omega) (by omega)
  rw [Int.toNat_natCast] at hf
  refine hf fun G' hb' hK' => hK G' ?_
  exact ⟨sub_keep hK' h.ng h.sub, h.nO, h.ng, by rw [hK' _ h.og]; exact h.bo, hb', h.nB, h.ne, h.og, fun i j' hi hj' => rd_keep hK' (h.ne i hi).2 (h.row i j' hi hj'), h.cap, fun i hi hn => ⟨(h.todo i hi hn).1, by rw [hK' _ (h.ne i hn).2]; exact (h.todo i hi hn).2⟩, h.inj⟩
theorem Hx.rows {H G : GH} {bO bg : Nat} {B o cp : Nat → Nat} {n k : Nat} {f : Int → Int → Int} {q : Int → Int} (h : Hx H G bO bg B o cp n k f q) : RowsS G (some ⟨bO, 0, none⟩) n n f :=
  ⟨fun i => some ⟨B i, o i, none⟩, cp, fun i hi => by rw [pa_mk, Nat.zero_add]; exact h.get hi, fun i hi => ⟨by rw [rowL_len]; exact h.cap i hi, fun j hj => by rw [rowL_len] at hj; rw [pa_mk, rowL_get _ hj]; exact h.row i j hi hj⟩⟩
theorem Mx.hx {H G G' : GH} {bO bg n : Nat} {B : Nat → Nat} {f : Int → Int → Int} {q : Int → Int} (h : Mx H G bO B n n f) (hg : G bg = none) (s : Sub G G') (hq : G' bg = some ⟨fcells n q, true⟩) : Hx H G' bO bg B (fun _ => 0) (fun _ => n) n 0 f q := by
  have hO : bO ≠ bg := blk_ne h.o hg
  refine ⟨h.sub.trans s, h.nO, h.sub.none hg, s _ _ ?_, hq, h.nB, fun i hi => ⟨h.ne i hi, blk_ne (h.b i hi) hg⟩, hO, fun i j hi hj => ?_, fun i hi => Nat.le_refl _, fun i hi hn => ⟨rfl, s _ _ (h.b i hn)⟩, fun i j hi hk hj hne e => hne (h.inj i j hi hj e)⟩
  · rw [h.o]
    refine congrArg (fun l => some (⟨l, true⟩ : Ent)) ?_
    unfold mxO rowsC
    refine List.map_congr_left fun i hi => ?_
    rw [if_pos (List.mem_range.1 hi)]
  · rw [Nat.zero_add]
    have := h.get (u := (i : Int)) (v := (j : Int)) (by omega) (by omega) (by omega) (by omega)
    rw [Int.toNat_natCast, Int.toNat_natCast] at this
    exact rd_sub s this
theorem LI.nil {v : List Int × Int} {e : Int} (hv : v = ([], e)) {K : Value → GH → Prop} {G : GH} (hk : LI v K G) : K (.tuple [.slice none 0 0, .int .i64 e].toArray) G := by
  subst hv; exact hk G none 0 (New.nil _ _)
/-- with a full rank, the solution is the last column. -/
theorem solX_all {S : ElS} {n : Nat} {C : Int} (hp : ∀ m, m < n → S.piv.getD m 0 = m) : ∀ k, k ≤ n → ∀ j : Nat, j < k → solX S C k j = S.f j C
  | 0, _, j, hj => by omega
  | k + 1, hk, j, hj => by
    show updAt (solX S C k) (S.piv.getD k 0) (S.f k C) j = _
    rw [hp k (by omega)]
    unfold updAt
    by_cases e : j = k
    · subst e; rw [if_pos rfl]
    · rw [if_neg (by omega)]; exact solX_all hp k (by omega) j (by omega)
theorem har_two {N : Gra} {p : Int} {fixed values : List Int} (h1 : GraOk N ∧ PrimeP p ∧ InB values 0 (p - 1) ∧ values.length ≤ 64) (h2 : SetOk N fixed) (h3 : fixed.length = values.length) : harV N p fixed values =
    if (elF p N.n.toNat (harF N p fixed values) N.n.toNat).piv.length = N.n.toNat then ((List.range N.n.toNat).map fun j : Nat => (elF p N.n.toNat (harF N p fixed values) N.n.toNat).f j N.n, 0) else ([], 6) := by
  unfold harV
  rw [if_neg (fun x => x h1), if_neg (fun x => x h2), if_neg (fun x => x h3)]
theorem Own.some {G : GH} {A : Option Addr} {c sz n : Nat} {cs : List Value} (h : Own G A c cs sz n) (hn : 0 < n) : ∃ b r, A = Option.some ⟨b, 0, none⟩ ∧ G b = Option.some ⟨cs ++ r, true⟩ ∧ cs.length = n * sz ∧ (cs ++ r).length = c * sz ∧ n ≤ c := by
  rcases h with ⟨_, _, h0, _⟩ | h
  · omega
  · exact h
theorem impl_HarmonicModulo_ok {G : GH} {N : Gra} {A B D : Option Addr} {c d e : Nat} {p : Int} {fixed values : List Int} (h : T3S G A c N.edges) (hf : IntS G B d fixed) (hv : IntS G D e values) (hl : N.edges.length < 2 ^ 40) (hl1 : fixed.length < 2 ^ 40) (hl2 : values.length < 2 ^ 40) {K : Value → GH → Prop}
    (hk : LI (harV N p fixed values) K G) : GC Try.prog 75 [graV N A c, .int .i64 p, .slice B fixed.length d, .slice D values.length e] G K := by
  refine GC_drop (c_impl_HarmonicModulo_i (by simp) ?_)
  unfold graV graC
  simp (maxSteps := 300000) (disch := omega) only [gs, gs2, gs3, gs4, ↓reduceIte, Nat.reduceEqDiff, Int.reduceToNat, Nat.reduceMul, Nat.reduceAdd, Nat.reduceBEq, isLd]
  intro b1 hb1
  have s1 := Sub.put hb1 ⟨[.int .i64 N.n, .slice A N.edges.length c], true⟩
  have f0 : rd (put G b1 ⟨[.int .i64 N.n, .slice A N.edges.length c], true⟩) (some ⟨b1, 0, none⟩) = some (.int .i64 N.n) := rd_box _ _ _ 0 _ rfl
  have f1 : rd (put G b1 ⟨[.int .i64 N.n, .slice A N.edges.length c], true⟩) (some ⟨b1, 1, none⟩) = some (.slice A N.edges.length c) := rd_box _ _ _ 1 _ rfl
  revert s1 f0 f1
  generalize put G b1 ⟨[.int .i64 N.n, .slice A N.edges.length c], true⟩ = G1
  intro s1 f0 f1
  simp (maxSteps := 300000) (disch := omega) only [gs, gs2, gs3, gs4, ↓reduceIte, Nat.reduceEqDiff, Int.reduceToNat, Nat.reduceMul, Nat.reduceAdd, Nat.reduceBEq, isLd, f0, f1]
  refine impl_ValidGraph_ok (N := N) (h.sub s1) hl fun bb hbb => ?_
  cases bb
  · simp (maxSteps := 300000) (disch := omega) only [gs, gs2, gs3, gs4, ↓reduceIte, Nat.reduceEqDiff, Int.reduceToNat, Nat.reduceMul, Nat.reduceAdd, Nat.reduceBEq, isLd]
    exact ⟨G, s1, LI.nil (e := 1) (by unfold harV; rw [if_pos fun x => by have := hbb.2 x.1; cases this]) hk⟩
  have hn := hbb.1 rfl
  have hn1 := hn.1
  simp (maxSteps := 300000) (disch := omega) only [gs, gs2, gs3, gs4, ↓reduceIte, Nat.reduceEqDiff, Int.reduceToNat, Nat.reduceMul, Nat.reduceAdd, Nat.reduceBEq, isLd, f0, f1]
  refine impl_ValidVector_ok (hv.sub s1) hl2 fun bv hbv => ?_
  cases bv
  · simp (maxSteps := 300000) (disch := omega) only [gs, gs2, gs3, gs4, ↓reduceIte, Nat.reduceEqDiff, Int.reduceToNat, Nat.reduceMul, Nat.reduceAdd, Nat.reduceBEq, isLd]
    exact ⟨G, s1, LI.nil (e := 1) (by unfold harV; rw [if_pos fun x => by have := hbv.2 x.2; cases this]) hk⟩
  obtain ⟨hp, hvb, hvl⟩ := hbv.1 rfl
  have h1 : GraOk N ∧ PrimeP p ∧ InB values 0 (p - 1) ∧ values.length ≤ 64 := ⟨hn, hp, hvb, hvl⟩
  have hp1 := hp.1
  simp (maxSteps := 300000) (disch := omega) only [gs, gs2, gs3, gs4, ↓reduceIte, Nat.reduceEqDiff, Int.reduceToNat, Nat.reduceMul, Nat.reduceAdd, Nat.reduceBEq, isLd, f0, f1]
  refine impl_isSet_ok (N := N) (hf.sub s1) hn hl1 fun bs hbs => ?_
  cases bs
  · simp (maxSteps := 300000) (disch := omega) only [gs, gs2, gs3, gs4, ↓reduceIte, Nat.reduceEqDiff, Int.reduceToNat, Nat.reduceMul, Nat.reduceAdd, Nat.reduceBEq, isLd]
    exact ⟨G, s1, LI.nil (e := 2) (by unfold harV; rw [if_neg (fun x => x h1), if_pos fun x => by have := hbs.2 x; cases this]) hk⟩
  have hset := hbs.1 rfl
  simp (maxSteps := 300000) (disch := omega) only [gs, gs2, gs3, gs4, ↓reduceIte, Nat.reduceEqDiff, Int.reduceToNat, Nat.reduceMul, Nat.reduceAdd, Nat.reduceBEq, isLd, f0, f1]
  by_cases h3 : fixed.length = values.length
  rotate_left
  · have hne : ¬ ((fixed.length : Int) = (values.length : Int)) := by omega
    simp (maxSteps := 300000) (disch := omega) only [gs, gs2, gs3, gs4, ↓reduceIte, Nat.reduceEqDiff, Int.reduceToNat, Nat.reduceMul, Nat.reduceAdd, Nat.reduceBEq, isLd, eq_false hne]
    exact ⟨G, s1, LI.nil (e := 6) (by unfold harV; rw [if_neg (fun x => x h1), if_neg (fun x => x hset), if_pos h3]) hk⟩
  rw [har_two h1 hset h3] at hk
  have he3 : ((fixed.length : Int) = (values.length : Int)) := by omega
  simp (maxSteps := 300000) (disch := omega) only [gs, gs2, gs3, gs4, ↓reduceIte, Nat.reduceEqDiff, Int.reduceToNat, Nat.reduceMul, Nat.reduceAdd, Nat.reduceBEq, isLd, eq_true he3, f0, f1]
  obtain ⟨n, hnn⟩ : ∃ n, n = N.n.toNat := ⟨_, rfl⟩
  have hNn : N.n = (n : Int) := by omega
  rw [← hnn] at hk
  rw [hNn] at hk
  have f0n : rd G1 (some ⟨b1, 0, none⟩) = some (.int .i64 n) := by rw [← hNn]; exact f0
  refine impl_laplacian_ok (N := N) (h.sub s1) hn fun G2 bO Bm hM => ?_
  rw [← hnn] at hM ⊢
  simp (maxSteps := 300000) (disch := omega) only [gs, gs2, gs3, gs4, ↓reduceIte, Nat.reduceEqDiff, Int.reduceToNat, Nat.reduceMul, Nat.reduceAdd, Nat.reduceBEq, isLd, rd_sub hM.sub f0n]
  refine ⟨n, n, rfl, rfl, Nat.le_refl _, by omega, by omega, fun bg hbg => ?_⟩
  have hz : zc [.int .i64 0] n = fcells n (fun _ => 0) := by rw [zc_one, rep_range]; rfl
  rw [hz]
  simp (maxSteps := 300000) (disch := omega) only [gs, gs2, gs3, gs4, ↓reduceIte, Nat.reduceEqDiff, Int.reduceToNat, Nat.reduceMul, Nat.reduceAdd, Nat.reduceBEq, isLd]
  obtain ⟨F, hF⟩ : ∃ F, F = harF N p fixed values := ⟨_, rfl⟩
  have hFr : Rng F p := by rw [hF]; exact harF_rng hp fixed hvb
  have hF1 : ∀ i j : Nat, i < n → j < n → ¬ (i : Int) ∈ fixed → F i j = lapK N.edges N.edges.length i j % p := fun i j hi hj hm => by
    rw [hF]; unfold harF; rw [if_neg hm, if_neg (by omega)]
  have hF2 : ∀ i : Nat, ¬ (i : Int) ∈ fixed → F i n = 0 := fun i hm => by
    rw [hF]; unfold harF; rw [if_neg hm, if_pos (by omega)]
  have hF3 : ∀ i j : Nat, i < n → j < n → (i : Int) ∈ fixed → F i j = if (i : Int) = j then 1 else 0 := fun i j hi hj hm => by
    rw [hF]; unfold harF; rw [if_pos hm, if_neg (by omega)]
    by_cases e : (i : Int) = j
    · rw [if_pos e, if_pos e.symm]
    · rw [if_neg e, if_neg (fun x => e x.symm)]
  have hF4 : ∀ i : Nat, (i : Int) ∈ fixed → F i n = values.getD (fixed.idxOf (i : Int)) 0 := fun i hm => by
    rw [hF]; unfold harF; rw [if_pos hm, if_pos (by omega)]
  rw [← hF] at hk
  clear hF
  generalize lapK N.edges N.edges.length = L at *
  have hX0 : Hx G1 (put G2 bg ⟨fcells n fun _ => 0, true⟩) bO bg Bm (fun _ => 0) (fun _ => n) n 0 L (fun _ => 0) := hM.hx hbg (Sub.put hbg _) (put_same _ _ _)
  clear hM
  generalize put G2 bg ⟨fcells n fun _ => 0, true⟩ = G3 at hX0 ⊢
  refine gLoop_intro (fun m T G' => ∃ (k : Nat) (Bk o cp : Nat → Nat), T 1 = .int .i64 p ∧ T 2 = .slice B fixed.length d ∧ T 3 = .slice D values.length e ∧ T 4 = .pointer (some ⟨b1, 0, none⟩) ∧ T 10 = .slice (some ⟨bO, 0, none⟩) n n ∧ T 11 = .slice (some ⟨bg, 0, none⟩) n n ∧ T 46 = .slice (some ⟨bO, 0, none⟩) n n ∧ T 47 = .int .i64 n ∧ T 48 = .int .i64 k ∧ m + k = n ∧ k ≤ n ∧
      Hx G1 G' bO bg Bk o cp n k (fun i j => if i < k then F i j else L i j) (fun j => if j < k then F j n else 0)) n
    ⟨0, Bm, fun _ => 0, fun _ => n, by simp (maxSteps := 300000) (disch := omega) only [gs, gs2, gs3, gs4, ↓reduceIte, Nat.reduceEqDiff, Int.reduceToNat, Nat.reduceMul, Nat.reduceAdd, Nat.reduceBEq, isLd], by simp (maxSteps := 300000) (disch := omega) only [gs, gs2, gs3, gs4, ↓reduceIte, Nat.reduceEqDiff, Int.reduceToNat, Nat.reduceMul, Nat.reduceAdd, Nat.reduceBEq, isLd], by simp (maxSteps := 300000) (disch := omega) only [gs, gs2, gs3, gs4, ↓reduceIte, Nat.reduceEqDiff, Int.reduceToNat, Nat.reduceMul, Nat.reduceAdd, Nat.reduceBEq, isLd], by simp (maxSteps := 300000) (disch := omega) only [gs, gs2, gs3, gs4, ↓reduceIte, Nat.reduceEqDiff, Int.reduceToNat, Nat.reduceMul, Nat.reduceAdd, Nat.reduceBEq, isLd], by simp (maxSteps := 300000) (disch := omega) only [gs, gs2, gs3, gs4, ↓reduceIte, Nat.reduceEqDiff, Int.reduceToNat, Nat.reduceMul, Nat.reduceAdd, Nat.reduceBEq, isLd], by simp (maxSteps := 300000) (disch := omega) only [gs, gs2, gs3, gs4, ↓reduceIte, Nat.reduceEqDiff, Int.reduceToNat, Nat.reduceMul, Nat.reduceAdd, Nat.reduceBEq, isLd], by simp (maxSteps := 300000) (disch := omega) only [gs, gs2, gs3, gs4, ↓reduceIte, Nat.reduceEqDiff, Int.reduceToNat, Nat.reduceMul, Nat.reduceAdd, Nat.reduceBEq, isLd], by simp (maxSteps := 300000) (disch := omega) only [gs, gs2, gs3, gs4, ↓reduceIte, Nat.reduceEqDiff, Int.reduceToNat, Nat.reduceMul, Nat.reduceAdd, Nat.reduceBEq, isLd], by simp (maxSteps := 300000) (disch := omega) only [gs, gs2, gs3, gs4, ↓reduceIte, Nat.reduceEqDiff, Int.reduceToNat, Nat.reduceMul, Nat.reduceAdd, Nat.reduceBEq, isLd] <;> rfl, by omega, by omega, hX0.cong (fun i j hi hj => by rw [if_neg (by omega)]) (fun j hj => by rw [if_neg (by omega)])⟩ ?_
  clear hX0
  rintro m T G' ⟨k, Bk, o, cp, e1, e2, e3, e4, e10, e11, e46, e47, e48, hm, hkn, hX⟩
  simp (maxSteps := 300000) (disch := omega) only [gs, gs2, gs3, gs4, ↓reduceIte, Nat.reduceEqDiff, Int.reduceToNat, Nat.reduceMul, Nat.reduceAdd, Nat.reduceBEq, isLd, e1, e2, e3, e4, e10, e11, e46, e47, e48]
  by_cases hkk : (k : Int) < n
  · have hg := hX.get (show k < n by omega)
    simp (maxSteps := 300000) (disch := omega) only [gs, gs2, gs3, gs4, ↓reduceIte, Nat.reduceEqDiff, Int.reduceToNat, Nat.reduceMul, Nat.reduceAdd, Nat.reduceBEq, isLd, e1, e2, e3, e4, e10, e11, e46, e47, e48, hkk, hg]
    refine gLoop_intro (fun m' T' G' => ∃ (j : Nat), T' 1 = .int .i64 p ∧ T' 2 = .slice B fixed.length d ∧ T' 3 = .slice D values.length e ∧ T' 4 = .pointer (some ⟨b1, 0, none⟩) ∧ T' 10 = .slice (some ⟨bO, 0, none⟩) n n ∧ T' 11 = .slice (some ⟨bg, 0, none⟩) n n ∧ T' 12 = .int .i64 k ∧ T' 13 = .slice (some ⟨Bk k, o k, none⟩) n (cp k) ∧ T' 46 = .slice (some ⟨bO, 0, none⟩) n n ∧ T' 47 = .int .i64 n ∧ T' 48 = .int .i64 k ∧ T' 53 = .slice (some ⟨Bk k, o k, none⟩) n (cp k) ∧ T' 54 = .int .i64 n ∧ T' 55 = .int .i64 j ∧ m' + j = n ∧ j ≤ n ∧
        Hx G1 G' bO bg Bk o cp n k (fun i j' => if i < k then F i j' else if i = k ∧ j' < j then L i j' % p else L i j') (fun j => if j < k then F j n else 0)) n
      ⟨0, by simp (maxSteps := 300000) (disch := omega) only [gs, gs2, gs3, gs4, ↓reduceIte, Nat.reduceEqDiff, Int.reduceToNat, Nat.reduceMul, Nat.reduceAdd, Nat.reduceBEq, isLd, e1], by simp (maxSteps := 300000) (disch := omega) only [gs, gs2, gs3, gs4, ↓reduceIte, Nat.reduceEqDiff, Int.reduceToNat, Nat.reduceMul, Nat.reduceAdd, Nat.reduceBEq, isLd, e2], by simp (maxSteps := 300000) (disch := omega) only [gs, gs2, gs3, gs4, ↓reduceIte, Nat.reduceEqDiff, Int.reduceToNat, Nat.reduceMul, Nat.reduceAdd, Nat.reduceBEq, isLd, e3], by simp (maxSteps := 300000) (disch := omega) only [gs, gs2, gs3, gs4, ↓reduceIte, Nat.reduceEqDiff, Int.reduceToNat, Nat.reduceMul, Nat.reduceAdd, Nat.reduceBEq, isLd, e4], by simp (maxSteps := 300000) (disch := omega) only [gs, gs2, gs3, gs4, ↓reduceIte, Nat.reduceEqDiff, Int.reduceToNat, Nat.reduceMul, Nat.reduceAdd, Nat.reduceBEq, isLd, e10], by simp (maxSteps := 300000) (disch := omega) only [gs, gs2, gs3, gs4, ↓reduceIte, Nat.reduceEqDiff, Int.reduceToNat, Nat.reduceMul, Nat.reduceAdd, Nat.reduceBEq, isLd, e11], by simp (maxSteps := 300000) (disch := omega) only [gs, gs2, gs3, gs4, ↓reduceIte, Nat.reduceEqDiff, Int.reduceToNat, Nat.reduceMul, Nat.reduceAdd, Nat.reduceBEq, isLd], by simp (maxSteps := 300000) (disch := omega) only [gs, gs2, gs3, gs4, ↓reduceIte, Nat.reduceEqDiff, Int.reduceToNat, Nat.reduceMul, Nat.reduceAdd, Nat.reduceBEq, isLd], by simp (maxSteps := 300000) (disch := omega) only [gs, gs2, gs3, gs4, ↓reduceIte, Nat.reduceEqDiff, Int.reduceToNat, Nat.reduceMul, Nat.reduceAdd, Nat.reduceBEq, isLd, e46], by simp (maxSteps := 300000) (disch := omega) only [gs, gs2, gs3, gs4, ↓reduceIte, Nat.reduceEqDiff, Int.reduceToNat, Nat.reduceMul, Nat.reduceAdd, Nat.reduceBEq, isLd, e47], by simp (maxSteps := 300000) (disch := omega) only [gs, gs2, gs3, gs4, ↓reduceIte, Nat.reduceEqDiff, Int.reduceToNat, Nat.reduceMul, Nat.reduceAdd, Nat.reduceBEq, isLd, e48], by simp (maxSteps := 300000) (disch := omega) only [gs, gs2, gs3, gs4, ↓reduceIte, Nat.reduceEqDiff, Int.reduceToNat, Nat.reduceMul, Nat.reduceAdd, Nat.reduceBEq, isLd], by simp (maxSteps := 300000) (disch := omega) only [gs, gs2, gs3, gs4, ↓reduceIte, Nat.reduceEqDiff, Int.reduceToNat, Nat.reduceMul, Nat.reduceAdd, Nat.reduceBEq, isLd], by simp (maxSteps := 300000) (disch := omega) only [gs, gs2, gs3, gs4, ↓reduceIte, Nat.reduceEqDiff, Int.reduceToNat, Nat.reduceMul, Nat.reduceAdd, Nat.reduceBEq, isLd] <;> rfl, by omega, by omega, hX.cong (fun i j hi hj => by
        by_cases c1 : (i : Int) < k
        · rw [if_pos c1, if_pos c1]
        · rw [if_neg c1, if_neg c1, if_neg (by omega)]) (fun j hj => rfl)⟩ ?_
    clear e1 e2 e3 e4 e10 e11 e46 e47 e48 hX hg
    rintro m' T' G' ⟨j, e1, e2, e3, e4, e10, e11, e12, e13, e46, e47, e48, e53, e54, e55, hm', hj, hX⟩
    simp (maxSteps := 300000) (disch := omega) only [gs, gs2, gs3, gs4, ↓reduceIte, Nat.reduceEqDiff, Int.reduceToNat, Nat.reduceMul, Nat.reduceAdd, Nat.reduceBEq, isLd, e1, e2, e3, e4, e10, e11, e12, e13, e46, e47, e48, e53, e54, e55]
    by_cases hjj : (j : Int) < n
    · have hr := hX.row k j (by omega) (by omega)
      rw [if_neg (by omega), if_neg (by omega)] at hr
      simp (maxSteps := 300000) (disch := omega) only [gs, gs2, gs3, gs4, ↓reduceIte, Nat.reduceEqDiff, Int.reduceToNat, Nat.reduceMul, Nat.reduceAdd, Nat.reduceBEq, isLd, e1, e2, e3, e4, e10, e11, e12, e13, e46, e47, e48, e53, e54, e55, hjj, hr]
      refine impl_reduce_ok ⟨by omega, by omega⟩ ?_
      simp (maxSteps := 300000) (disch := omega) only [gs, gs2, gs3, gs4, ↓reduceIte, Nat.reduceEqDiff, Int.reduceToNat, Nat.reduceMul, Nat.reduceAdd, Nat.reduceBEq, isLd, e1, e2, e3, e4, e10, e11, e12, e13, e46, e47, e48, e53, e54, e55]
      refine hX.st (by omega) (j := j) (by omega) fun G4 hX4 => ?_
      simp (maxSteps := 300000) (disch := omega) only [gs, gs2, gs3, gs4, ↓reduceIte, Nat.reduceEqDiff, Int.reduceToNat, Nat.reduceMul, Nat.reduceAdd, Nat.reduceBEq, isLd, e1, e2, e3, e4, e10, e11, e12, e13, e46, e47, e48, e53, e54, e55]
      refine ⟨m' - 1, by omega, G4, Sub.refl _, j + 1, rfl, by omega, by omega, hX4.cong (fun i j' hi hj' => ?_) (fun j hj => rfl)⟩
      unfold upd2
      dsimp only
      by_cases c1 : (i : Int) = k ∧ (j' : Int) = j
      · rw [if_pos c1, if_neg (by omega), if_pos (by omega), c1.1, c1.2]
      · rw [if_neg c1]
        by_cases c2 : (i : Int) < k
        · rw [if_pos c2, if_pos c2]
        · rw [if_neg c2, if_neg c2]
          by_cases c3 : (i : Int) = k ∧ (j' : Int) < j
          · rw [if_pos c3, if_pos (by omega)]
          · rw [if_neg c3, if_neg (by omega)]
    simp (maxSteps := 300000) (disch := omega) only [gs, gs2, gs3, gs4, ↓reduceIte, Nat.reduceEqDiff, Int.reduceToNat, Nat.reduceMul, Nat.reduceAdd, Nat.reduceBEq, isLd, e1, e2, e3, e4, e10, e11, e12, e13, e46, e47, e48, e53, e54, e55, hjj]
    have hjn : n = j := by omega
    subst hjn
    have hf' := (hf.sub s1).sub hX.sub
    have hv' := (hv.sub s1).sub hX.sub
    refine slices_Index_ok hf' hl1 ?_
    by_cases hmem : (k : Int) ∈ fixed
    rotate_left
    · have hid : idxI (fun x => decide (x = (k : Int))) fixed = -1 := idxI_none fun i hi => by
        refine decide_eq_false fun x => hmem ?_
        rw [← x]; simp [List.getD, hi]
      rw [hid]
      have lm : decide ((0 : Int) ≤ -1) = false := by decide
      simp (maxSteps := 300000) (disch := omega) only [gs, gs2, gs3, gs4, ↓reduceIte, Nat.reduceEqDiff, Int.reduceToNat, Nat.reduceMul, Nat.reduceAdd, Nat.reduceBEq, isLd, e1, e2, e3, e4, e10, e11, e12, e46, e47, e48, lm]
      refine ⟨m - 1, by omega, G', Sub.refl _, k + 1, Bk, o, cp, rfl, by omega, by omega, hX.next.cong (fun i j hi hj => ?_) (fun j hj => ?_)⟩
      · by_cases c1 : (i : Int) < k
        · rw [if_pos c1, if_pos (by omega)]
        · rw [if_neg c1]
          by_cases c2 : i = k
          · subst c2
            rw [if_pos ⟨rfl, by omega⟩, if_pos (by omega), hF1 i j hi hj hmem]
          · rw [if_neg (by omega), if_neg (by omega)]
      · by_cases c1 : (j : Int) < k
        · rw [if_pos c1, if_pos (by omega)]
        · rw [if_neg c1]
          by_cases c2 : j = k
          · subst c2
            rw [if_pos (by omega), hF2 j hmem]
          · rw [if_neg (by omega)]
    obtain ⟨ix, hix, hxk⟩ : ∃ ix, ix < fixed.length ∧ fixed.getD ix 0 = k := by
      obtain ⟨ix, hix, hx⟩ := List.mem_iff_getElem.1 hmem
      exact ⟨ix, hix, by simp [List.getD, hix, hx]⟩
    have hidx : fixed.idxOf (k : Int) = ix := by rw [← hxk]; exact idxOf_rise hset.2 hix
    have hid : idxI (fun x => decide (x = (k : Int))) fixed = ix := idxI_some hix (decide_eq_true hxk) fun i hi => decide_eq_false fun x => by
      have := rise_mono hset.2 hi hix
      omega
    rw [hid]
    have lge : decide ((ix : Int) ≥ 0) = true := decide_eq_true (by omega)
    simp (maxSteps := 300000) (disch := omega) only [gs, gs2, gs3, gs4, ↓reduceIte, Nat.reduceEqDiff, Int.reduceToNat, Nat.reduceMul, Nat.reduceAdd, Nat.reduceBEq, isLd, e1, e2, e3, e4, e10, e11, e12, e46, e47, e48, lge, rd_sub hX.sub f0n]
    refine impl_unit_ok (by omega) fun G5 Au cu s5 oA hW => ?_
    obtain ⟨bu, ru, rfl, hbu, _, _, hcu⟩ := Own.some hW (Nat.mul_pos (by omega) (by omega))
    have hui : IntS G5 (some ⟨bu, 0, none⟩) cu (flatL n n (fun i j => if i = j then 1 else 0)) := hW.ints' (by rw [flatL_len])
    have hnu : G' bu = none := oA _ rfl
    have hX5 := hX.up s5
    simp (maxSteps := 300000) (disch := omega) only [gs, gs2, gs3, gs4, ↓reduceIte, Nat.reduceEqDiff, Int.reduceToNat, Nat.reduceMul, Nat.reduceAdd, Nat.reduceBEq, isLd, e1, e2, e3, e4, e10, e11, e12, e46, e47, e48]
    refine impl_row_ok (by omega) ⟨by omega, by omega⟩ (by omega) hcu ?_
    simp (maxSteps := 300000) (disch := omega) only [gs, gs2, gs3, gs4, ↓reduceIte, Nat.reduceEqDiff, Int.reduceToNat, Nat.reduceMul, Nat.reduceAdd, Nat.reduceBEq, isLd, e1, e2, e3, e4, e10, e11, e12, e46, e47, e48, pa_mk]
    refine hX5.put (k := k) (by omega) (r := fun j => if (k : Int) = j then 1 else 0) (fun j hj => ?_) ?_ (hX.sub.none hnu) ⟨by intro x; rw [x, hX.bo] at hnu; simp at hnu, by intro x; rw [x, hX.gg] at hnu; simp at hnu⟩ (fun i hi x => ?_) fun G6 B6 o6 c6 hX6 => ?_
    · have := (row_ints hui (i := k) (by omega)).rd j (by rw [rowL_len]; exact hj)
      rw [pa_mk, pa_mk, rowL_get _ hj, Nat.zero_add] at this
      exact this
    · have : (k + 1) * n ≤ n * n := Nat.mul_le_mul_right n (by omega)
      rw [Nat.add_mul, Nat.one_mul] at this
      omega
    · have := hX.row i 0 hi (by omega)
      rw [x] at this
      simp [rd, hnu] at this
    have hvx := ((hv.sub s1).sub hX6.sub).rd ix (by omega)
    have hsv := hv.sn (by omega)
    simp (maxSteps := 300000) (disch := omega) only [gs, gs2, gs3, gs4, ↓reduceIte, Nat.reduceEqDiff, Int.reduceToNat, Nat.reduceMul, Nat.reduceAdd, Nat.reduceBEq, isLd, e1, e2, e3, e4, e10, e11, e12, e46, e47, e48, hvx]
    refine hX6.stg (j := k) (by omega) fun G7 hX7 => ?_
    simp (maxSteps := 300000) (disch := omega) only [gs, gs2, gs3, gs4, ↓reduceIte, Nat.reduceEqDiff, Int.reduceToNat, Nat.reduceMul, Nat.reduceAdd, Nat.reduceBEq, isLd, e1, e2, e3, e4, e10, e11, e12, e46, e47, e48]
    refine ⟨m - 1, by omega, G7, Sub.refl _, k + 1, B6, o6, c6, rfl, by omega, by omega, hX7.cong (fun i j hi hj => ?_) (fun j hj => ?_)⟩
    · by_cases c2 : i = k
      · subst c2
        rw [if_pos (rfl : (i : Int) = (i : Int)), if_pos (show (i : Int) < ((i + 1 : Nat) : Int) by omega), hF3 i j hi hj hmem]
      · rw [if_neg (by omega)]
        by_cases c1 : (i : Int) < k
        · rw [if_pos c1, if_pos (by omega)]
        · rw [if_neg c1, if_neg (by omega), if_neg (by omega)]
    · unfold updAt
      dsimp only
      by_cases c2 : j = k
      · subst c2
        rw [if_pos rfl, if_pos (by omega), hF4 j hmem, hidx]
      · rw [if_neg (by omega)]
        by_cases c1 : (j : Int) < k
        · rw [if_pos c1, if_pos (by omega)]
        · rw [if_neg c1, if_neg (by omega)]
  · simp (maxSteps := 300000) (disch := omega) only [gs, gs2, gs3, gs4, ↓reduceIte, Nat.reduceEqDiff, Int.reduceToNat, Nat.reduceMul, Nat.reduceAdd, Nat.reduceBEq, isLd, e1, e2, e3, e4, e10, e11, e46, e47, e48, hkk]
    have hkn' : n = k := by omega
    subst hkn'
    have hR : RowsS G' (some ⟨bO, 0, none⟩) n n F := by
      have := (hX.cong (f' := F) (q' := fun j => if j < n then F j n else 0) (fun i j hi hj => if_pos (by omega)) (fun j hj => rfl)).rows
      exact this
    have hG : G' bg = some ⟨fcells n (fun j => F j n), true⟩ := by
      rw [hX.gg, fcells_conN (g := fun j => F j n) fun j hj => if_pos (by omega)]
    have q0 := rd_sub hX.sub f0n
    simp (maxSteps := 300000) (disch := omega) only [gs, gs2, gs3, gs4, ↓reduceIte, Nat.reduceEqDiff, Int.reduceToNat, Nat.reduceMul, Nat.reduceAdd, Nat.reduceBEq, isLd, q0, e1, e2, e3, e4, e10, e11, e46, e47, e48]
    have hn10 : 0 < n ∧ n ≤ 2 ^ 10 := ⟨by omega, by omega⟩
    refine impl_matrixOf_ok (p := p) (n := n) (cy := n) hR hn10 ?_
    intro G5 Am cm s5 hI
    unfold matV matC
    simp (maxSteps := 300000) (disch := omega) only [gs, gs2, gs3, gs4, ↓reduceIte, Nat.reduceEqDiff, Int.reduceToNat, Nat.reduceMul, Nat.reduceAdd, Nat.reduceBEq, isLd]
    intro bm hbm
    simp (maxSteps := 300000) (disch := omega) only [gs, gs2, gs3, gs4, ↓reduceIte, Nat.reduceEqDiff, Int.reduceToNat, Nat.reduceMul, Nat.reduceAdd, Nat.reduceBEq, isLd]
    refine st_many (vs := matC p n n Am (n * n) cm) rfl (put_same _ _ _) rfl (by simp) (by intro v hv; simp [matC] at hv; rcases hv with rfl | rfl | rfl | rfl <;> rfl) ?_
    rw [put_put']
    have s8 : Sub G5 (put G5 bm ⟨over [.int .i64 0, .int .i64 0, .int .i64 0, .slice none 0 0] 0 (matC p n n Am (n * n) cm), true⟩) := Sub.put hbm _
    have r0 : rd (put G5 bm ⟨over [.int .i64 0, .int .i64 0, .int .i64 0, .slice none 0 0] 0 (matC p n n Am (n * n) cm), true⟩) (some ⟨bm, 0, none⟩) = some (.int .i64 p) := rd_box _ _ _ 0 _ rfl
    have r1 : rd (put G5 bm ⟨over [.int .i64 0, .int .i64 0, .int .i64 0, .slice none 0 0] 0 (matC p n n Am (n * n) cm), true⟩) (some ⟨bm, 1, none⟩) = some (.int .i64 n) := rd_box _ _ _ 1 _ rfl
    have r2 : rd (put G5 bm ⟨over [.int .i64 0, .int .i64 0, .int .i64 0, .slice none 0 0] 0 (matC p n n Am (n * n) cm), true⟩) (some ⟨bm, 2, none⟩) = some (.int .i64 n) := rd_box _ _ _ 2 _ rfl
    have r3 : rd (put G5 bm ⟨over [.int .i64 0, .int .i64 0, .int .i64 0, .slice none 0 0] 0 (matC p n n Am (n * n) cm), true⟩) (some ⟨bm, 3, none⟩) = some (.slice Am (n * n) cm) := rd_box _ _ _ 3 _ rfl
    revert s8 r0 r1 r2 r3
    generalize put G5 bm ⟨over [.int .i64 0, .int .i64 0, .int .i64 0, .slice none 0 0] 0 (matC p n n Am (n * n) cm), true⟩ = G8
    intro s8 r0 r1 r2 r3
    have sg := (s1.trans hX.sub).trans (s5.trans s8)
    have q8 := rd_sub (s5.trans s8) q0
    have hI8 := hI.sub s8
    have hbs8 : IntS G8 (some ⟨bg, 0, none⟩) n (rowL n (fun j => F j n)) := ⟨by rw [rowL_len]; exact Nat.le_refl _, fun j hj => by
      rw [rowL_len] at hj
      rw [pa_mk, Nat.zero_add, rowL_get _ hj]
      have := rd_fcells (s8 _ _ (s5 _ _ hG)) (v := (j : Int)) (by omega) (by omega)
      rwa [Int.toNat_natCast] at this⟩
    have hpp : 1 < p ∧ p ≤ 2 ^ 30 := ⟨by omega, by omega⟩
    have hn8 : 0 < n ∧ n < 2 ^ 8 := ⟨by omega, by omega⟩
    have hn9 : 0 < n ∧ n < 2 ^ 10 := ⟨by omega, by omega⟩
    simp (maxSteps := 300000) (disch := omega) only [gs, gs2, gs3, gs4, ↓reduceIte, Nat.reduceEqDiff, Int.reduceToNat, Nat.reduceMul, Nat.reduceAdd, Nat.reduceBEq, isLd, r0, r1, r2, r3, e1, e2, e3, e4, e10, e11]
    have hpl := elF_len p n F n
    have hpv := elF_piv p n F n
    refine impl_solve_ok (p := p) (F := F) hI8 hbs8 (rowL_len _ _) (fun i hi => rowL_get _ hi) hn8 hFr hpp ?_ ?_
    · intro hin
      have hne : (elF p n F n).piv.length ≠ n := fun x => by
        rw [(el_full x).2] at hin
        obtain ⟨m', hm', hx⟩ := List.mem_iff_getElem.1 hin
        have := hpv m' hm'
        simp [List.getD, hm', hx] at this
      rw [if_neg hne] at hk
      simp (maxSteps := 300000) (disch := omega) only [gs, gs2, gs3, gs4, ↓reduceIte, Nat.reduceEqDiff, Int.reduceToNat, Nat.reduceMul, Nat.reduceAdd, Nat.reduceBEq, isLd, r0, r1, r2, r3, q8, e4]
      exact ⟨G, sg, LI.nil rfl hk⟩
    · intro hin G9 bx s9 hbx hxb
      have t0 := rd_sub s9 r0
      have t1 := rd_sub s9 r1
      have t2 := rd_sub s9 r2
      have t3 := rd_sub s9 r3
      have q9 := rd_sub s9 q8
      simp (maxSteps := 300000) (disch := omega) only [gs, gs2, gs3, gs4, ↓reduceIte, Nat.reduceEqDiff, Int.reduceToNat, Nat.reduceMul, Nat.reduceAdd, Nat.reduceBEq, isLd, t0, t1, t2, t3, q9, e4]
      refine impl_rank_ok (hI8.sub s9) hn9 hFr hpp ?_
      by_cases hrk : (elF p n F n).piv.length = n
      rotate_left
      · rw [if_neg hrk] at hk
        have lr : decide (((elF p n F n).piv.length : Int) < (n : Int)) = true := decide_eq_true (by omega)
        simp (maxSteps := 300000) (disch := omega) only [gs, gs2, gs3, gs4, ↓reduceIte, Nat.reduceEqDiff, Int.reduceToNat, Nat.reduceMul, Nat.reduceAdd, Nat.reduceBEq, isLd, t0, t1, t2, t3, q9, e4, lr]
        exact ⟨G, sg.trans s9, LI.nil rfl hk⟩
      · rw [if_pos hrk] at hk
        have lr : decide (((elF p n F n).piv.length : Int) < (n : Int)) = false := decide_eq_false (by omega)
        simp (maxSteps := 300000) (disch := omega) only [gs, gs2, gs3, gs4, ↓reduceIte, Nat.reduceEqDiff, Int.reduceToNat, Nat.reduceMul, Nat.reduceAdd, Nat.reduceBEq, isLd, t0, t1, t2, t3, q9, e4, lr]
        have hpa := piv_all (elF_unc hpp.1 hp.inv hFr (R := n) n) hrk
        have hcx : fcells n (solX (elF p n F (n + 1)) n (elF p n F (n + 1)).piv.length) = (((List.range n).map fun j : Nat => (elF p n F n).f j n).map I64) := by
          rw [(el_full hrk).2, hrk, List.map_map]
          unfold fcells
          refine List.map_congr_left fun j hj => ?_
          have hj := List.mem_range.1 hj
          rw [solX_all (S := elF p n F (n + 1)) (n := n) (fun m hm => by rw [(el_full hrk).2]; exact hpa m hm) n (Nat.le_refl _) j hj, (el_full hrk).1]
          rfl
        rw [hcx] at hxb
        have hbG : G bx = none := sg.none hbx
        have hK := hk (put G bx ⟨((List.range n).map fun j : Nat => (elF p n F n).f j n).map I64, true⟩) (some ⟨bx, 0, none⟩) n (by
          have := New.mk hbG (((List.range n).map fun j : Nat => (elF p n F n).f j n).map I64) 1 n (by simp)
          refine this.cast rfl (by simp))
        have hlen : ((List.range n).map fun j : Nat => (elF p n F n).f j n).length = n := by simp
        dsimp only at hK
        rw [hlen] at hK
        exact ⟨_, Sub.of_put (sg.trans s9) hxb, hK⟩
theorem rdot_sumN {r y : Int → Int} {x : List Int} : ∀ C : Nat, (∀ j : Nat, j < C → y j = xg x j) → rdot r y C = sumN (fun j => r j * xg x j) C
  | 0, _ => rfl
  | C + 1, h => by
    show rdot r y C + r C * y C = sumN (fun j => r j * xg x j) C + r C * xg x C
    rw [rdot_sumN C fun j hj => h j (by omega), h C (by omega)]
theorem mod_eq {a b p : Int} (h : (a - b) % p = 0) (ha : 0 ≤ a ∧ a < p) (hb : 0 ≤ b ∧ b < p) : a = b := by
  have h1 := (Int.emod_eq_emod_iff_emod_sub_eq_zero (m := a) (n := p) (k := b)).2 h
  rw [Int.emod_eq_of_lt ha.1 ha.2, Int.emod_eq_of_lt hb.1 hb.2] at h1
  exact h1
theorem har_ok {N : Gra} {p : Int} {fixed values : List Int} (h : (harV N p fixed values).2 = 0) : (GraOk N ∧ PrimeP p ∧ InB values 0 (p - 1) ∧ values.length ≤ 64) ∧ SetOk N fixed ∧ fixed.length = values.length ∧
    (elF p N.n.toNat (harF N p fixed values) N.n.toNat).piv.length = N.n.toNat := by
  unfold harV at h
  by_cases h1 : GraOk N ∧ PrimeP p ∧ InB values 0 (p - 1) ∧ values.length ≤ 64
  · rw [if_neg (fun x => x h1)] at h
    by_cases h2 : SetOk N fixed
    · rw [if_neg (fun x => x h2)] at h
      by_cases h3 : fixed.length = values.length
      · rw [if_neg (fun x => x h3)] at h
        by_cases h4 : (elF p N.n.toNat (harF N p fixed values) N.n.toNat).piv.length = N.n.toNat
        · exact ⟨h1, h2, h3, h4⟩
        · rw [if_neg h4] at h; exact absurd h (by decide)
      · rw [if_pos h3] at h; exact absurd h (by decide)
    · rw [if_pos h2] at h; exact absurd h (by decide)
  · rw [if_pos h1] at h; exact absurd h (by decide)
theorem har_keeps {N : Gra} {p : Int} {fixed values : List Int} (h : (harV N p fixed values).2 = 0) : (harV N p fixed values).1.length = N.n.toNat ∧ InB (harV N p fixed values).1 0 (p - 1) ∧
    (∀ i, i < fixed.length → (harV N p fixed values).1.getD (fixed.getD i 0).toNat 0 = values.getD i 0) ∧ ∀ i : Nat, i < N.n.toNat → ¬ (i : Int) ∈ fixed → apK N.edges (harV N p fixed values).1 N.edges.length i % p = 0 := by
  obtain ⟨h1, h2, h3, h4⟩ := har_ok h
  obtain ⟨hn, hp, hvb, hvl⟩ := h1
  have hn1 := hn.1
  have hp1 := hp.1
  have hr := harF_rng (N := N) hp fixed hvb
  have hv : (harV N p fixed values).1 = (List.range N.n.toNat).map fun j : Nat => (elF p N.n.toNat (harF N p fixed values) N.n.toNat).f j N.n := by
    rw [har_two ⟨hn, hp, hvb, hvl⟩ h2 h3, if_pos h4]
  rw [hv]
  obtain ⟨n, hnn⟩ : ∃ n, n = N.n.toNat := ⟨_, rfl⟩
  have hNn : N.n = (n : Int) := by omega
  have hin : ∀ i : Nat, (i : Int) ∈ fixed → ∃ k, k < fixed.length ∧ fixed.getD k 0 = i := fun i hm => by
    obtain ⟨k, hk, hx⟩ := List.mem_iff_getElem.1 hm
    exact ⟨k, hk, by simp [List.getD, hk, hx]⟩
  have hsol := fun i (hi : i < n) => elF_sol (by omega) hp.inv (n := n) hr (by rw [hnn]; exact h4) hi
  have hrg := elF_rng (R := n) (by omega) hr n
  rw [← hnn]
  have hx : ∀ j : Nat, j < n → ((List.range n).map fun j : Nat => (elF p n (harF N p fixed values) n).f j N.n).getD j 0 = (elF p n (harF N p fixed values) n).f j n := fun j hj => by
    rw [hNn]; simp [List.getD, hj]
  have hF : ∀ i j : Nat, j < n → harF N p fixed values i j = if (i : Int) ∈ fixed then (if j = i then 1 else 0) else lapK N.edges N.edges.length i j % p := fun i j hj => by
    unfold harF
    by_cases hm : (i : Int) ∈ fixed
    · rw [if_pos hm, if_pos hm, if_neg (by omega)]
      by_cases e : j = i
      · rw [if_pos (by omega), if_pos e]
      · rw [if_neg (by omega), if_neg e]
    · rw [if_neg hm, if_neg hm, if_neg (by omega)]
  have hG : ∀ i : Nat, harF N p fixed values i n = if (i : Int) ∈ fixed then values.getD (fixed.idxOf (i : Int)) 0 else 0 := fun i => by
    unfold harF
    by_cases hm : (i : Int) ∈ fixed
    · rw [if_pos hm, if_pos hm, if_pos (by omega)]
    · rw [if_neg hm, if_neg hm, if_pos (by omega)]
  generalize hE : (elF p n (harF N p fixed values) n).f = E at *
  refine ⟨by simp, fun i hi => ?_, fun i hi => ?_, fun i hi hm => ?_⟩
  · rw [List.length_map, List.length_range] at hi
    rw [hx i hi]
    have := hrg i n; omega
  · have hs := h2.1 i hi
    obtain ⟨a, ha⟩ : ∃ a : Nat, fixed.getD i 0 = a := ⟨(fixed.getD i 0).toNat, by omega⟩
    have han : a < n := by omega
    have hm : (a : Int) ∈ fixed := by rw [← ha]; simp [List.getD, hi]
    have hid := idxOf_rise h2.2 hi
    rw [ha] at hid
    have hs := hsol a han
    rw [rdot_unit (i := a) n fun j hj => by rw [hF a j hj, if_pos hm], if_pos han, hG, if_pos hm, hid] at hs
    rw [ha, Int.toNat_natCast, hx a han]
    have hvi := hvb i (by omega)
    exact mod_eq hs (hrg a n) (by omega)
  · have hs := hsol i hi
    rw [hG, if_neg hm, Int.sub_zero] at hs
    have hl := lap_mul hn.okE ((List.range n).map fun j : Nat => E j N.n) (n := n) (fun k hk => by
      obtain ⟨o1, o2, o3, o4⟩ := hn.2.1 k hk
      omega) (i : Int) _ (Nat.le_refl _)
    rw [← hl, ← rdot_sumN (y := fun j => E j n) n fun j hj => by unfold xg; rw [Int.toNat_natCast]; exact (hx j hj).symm, ← rdot_mod]
    refine Eq.trans (congrArg (· % p) ?_) hs
    have key : ∀ C : Nat, C ≤ n → rdot (fun j => lapK N.edges N.edges.length i j % p) (fun j => E j n) C = rdot (harF N p fixed values i) (fun j => E j n) C := by
      intro C
      induction C with
      | zero => intro _; rfl
      | succ C ih =>
        intro hC
        simp only [rdot]
        rw [ih (by omega), hF i C (by omega), if_neg hm]
    exact key n (Nat.le_refl _)
theorem Keep.refl (b : Nat) (G : GH) : Keep b G G := fun x _ => rfl
theorem Keep.trans {b : Nat} {G G' G'' : GH} (h : Keep b G G') (h' : Keep b G' G'') : Keep b G G'' := fun x hx => (h' x hx).trans (h x hx)
theorem spec_l02DrawPrime_ok {H0 G : GH} {b : Nat} {A : Option Addr} {L c p : Nat} (h : Src H0 G b A L c p) (hp : p ≤ 5000) {K : Value → GH → Prop}
    (hk : ∀ (w : Int) G', -2 ≤ w → w ≤ 257 → Src H0 G' b A L c (p + 2) → K (.int .i64 w) G') : GC Try.prog 232 [.pointer (some ⟨b, 0, none⟩)] G K := by
  refine c_spec_l02DrawPrime_i (by simp) ?_
  have hD : VD H0 G b A L c p [] none 0 := ⟨h, Own.nil _ _, Off.nil _, fun a ha => by cases ha⟩
  simp (maxSteps := 300000) (disch := omega) only [gs, gs2, gs3, gs4, ↓reduceIte, Nat.reduceEqDiff, Int.reduceToNat, Nat.reduceMul, Nat.reduceAdd, Nat.reduceBEq, isLd, gBs]
  refine ⟨by intro v hv; simp at hv; rcases hv with rfl | rfl | rfl | rfl | rfl | rfl | rfl | rfl <;> rfl, fun bx hbx => ?_⟩
  have hDx := hD.box hbx ⟨([2, 3, 5, 7, 11, 13, 101, 251] : List Int).map I64, true⟩
  have hbb : bx ≠ b := hD.src.ne hbx
  have hxl : IntS (del (put G bx ⟨([2, 3, 5, 7, 11, 13, 101, 251] : List Int).map I64, true⟩) b) (some ⟨bx, 0, none⟩) 8 [2, 3, 5, 7, 11, 13, 101, 251] := blk_ints (xs := [2, 3, 5, 7, 11, 13, 101, 251]) (by rw [del_ne _ hbb]; exact put_same _ _ _)
  refine spec_among_ok (xs := [2, 3, 5, 7, 11, 13, 101, 251]) hDx.src.all (by omega) hxl (by simp) (by simp) fun w G3 hw sw => ?_
  have hw : -2 ≤ w ∧ w ≤ 257 := by simp at hw; omega
  have hD := hDx.step sw
  simp (maxSteps := 300000) (disch := omega) only [gs, gs2, gs3, gs4, ↓reduceIte, Nat.reduceEqDiff, Int.reduceToNat, Nat.reduceMul, Nat.reduceAdd, Nat.reduceBEq, isLd]
  exact hk w _ hw.1 hw.2 hD.src
theorem spec_l02BentPrime_ok {H0 G : GH} {b : Nat} {A : Option Addr} {L c p : Nat} (h : Src H0 G b A L c p) (hp : p ≤ 4000) {K : Value → GH → Prop}
    (hk : ∀ (w : Int) G', -2 ≤ w → w ≤ 257 → Src H0 G' b A L c (p + 4) → K (.int .i64 w) G') : GC Try.prog 172 [.pointer (some ⟨b, 0, none⟩)] G K := by
  refine c_spec_l02BentPrime_i (by simp) ?_
  have hD : VD H0 G b A L c p [] none 0 := ⟨h, Own.nil _ _, Off.nil _, fun a ha => by cases ha⟩
  simp (maxSteps := 300000) (disch := omega) only [gs, gs2, gs3, gs4, ↓reduceIte, Nat.reduceEqDiff, Int.reduceToNat, Nat.reduceMul, Nat.reduceAdd, Nat.reduceBEq, isLd]
  refine spec_one_ok hD.src.all (by omega) (n := 12) (by omega) fun v G5 s5 => ?_
  have hD := hD.step s5
  cases v
  · simp (maxSteps := 300000) (disch := omega) only [gs, gs2, gs3, gs4, ↓reduceIte, Nat.reduceEqDiff, Int.reduceToNat, Nat.reduceMul, Nat.reduceAdd, Nat.reduceBEq, isLd]
    refine spec_l02DrawPrime_ok hD.src.all (by omega) fun w G6 w0 w1 s6 => ?_
    have hD := hD.step s6
    simp (maxSteps := 300000) (disch := omega) only [gs, gs2, gs3, gs4, ↓reduceIte, Nat.reduceEqDiff, Int.reduceToNat, Nat.reduceMul, Nat.reduceAdd, Nat.reduceBEq, isLd]
    exact hk w _ w0 w1 (hD.src.le (by omega))
  · simp (maxSteps := 300000) (disch := omega) only [gs, gs2, gs3, gs4, ↓reduceIte, Nat.reduceEqDiff, Int.reduceToNat, Nat.reduceMul, Nat.reduceAdd, Nat.reduceBEq, isLd, gBs]
    refine ⟨by intro v hv; simp at hv; rcases hv with rfl | rfl | rfl | rfl | rfl | rfl | rfl <;> rfl, fun bx hbx => ?_⟩
    have hDx := hD.box hbx ⟨([-2, 0, 1, 4, 91, 253, 257] : List Int).map I64, true⟩
    have hbb : bx ≠ b := hD.src.ne hbx
    have hxl : IntS (del (put G5 bx ⟨([-2, 0, 1, 4, 91, 253, 257] : List Int).map I64, true⟩) b) (some ⟨bx, 0, none⟩) 7 [-2, 0, 1, 4, 91, 253, 257] := blk_ints (xs := [-2, 0, 1, 4, 91, 253, 257]) (by rw [del_ne _ hbb]; exact put_same _ _ _)
    refine spec_among_ok (xs := [-2, 0, 1, 4, 91, 253, 257]) hDx.src.all (by omega) hxl (by simp) (by simp) fun w G3 hw sw => ?_
    have hw : -2 ≤ w ∧ w ≤ 257 := by simp at hw; omega
    have hD := hDx.step sw
    simp (maxSteps := 300000) (disch := omega) only [gs, gs2, gs3, gs4, ↓reduceIte, Nat.reduceEqDiff, Int.reduceToNat, Nat.reduceMul, Nat.reduceAdd, Nat.reduceBEq, isLd]
    exact hk w _ hw.1 hw.2 (hD.src.le (by omega))
theorem spec_l02DrawVector_ok {H0 G : GH} {b : Nat} {A : Option Addr} {L c p n : Nat} {q : Int} (h : Src H0 G b A L c p) (hp : p ≤ 4000) (hn : n ≤ 21) (hq : q ≤ 257) {K : Value → GH → Prop}
    (hk : ∀ G' xs Ap cp, xs.length = n → VD H0 G' b A L c (p + 100) xs Ap cp → K (.slice Ap xs.length cp) G') : GC Try.prog 174 [.pointer (some ⟨b, 0, none⟩), .int .i64 n, .int .i64 q] G K := by
  refine c_spec_l02DrawVector_i (by simp) ?_
  simp (maxSteps := 300000) (disch := omega) only [gs, gs2, gs3, gs4, ↓reduceIte, Nat.reduceEqDiff, Int.reduceToNat, Nat.reduceMul, Nat.reduceAdd, Nat.reduceBEq, isLd, gBs]
  refine ⟨by intro v hv; simp at hv, fun b7 hb7 => ?_⟩
  have hD : VD H0 (put G b7 ⟨[], true⟩) b A L c (p + 2 * 0) [] (some ⟨b7, 0, none⟩) 0 := by
    obtain ⟨q', st, h1, h2⟩ := h.ex
    have s := Sub.put hb7 ⟨[], true⟩
    exact ⟨⟨h.sub.trans s, h.nb, h.byt, q', st, h1, s _ _ h2⟩, .inr ⟨b7, [], rfl, put_same _ _ _, rfl, rfl, Nat.le_refl _⟩, fun a ha => by cases ha; exact h.sub.none hb7, fun a ha => by cases ha; exact h.ne hb7⟩
  refine gLoop_intro (fun m T G' => ∃ (k : Nat) (xs : List Int) (Ap : Option Addr) (cp : Nat), T 0 = .pointer (some ⟨b, 0, none⟩) ∧ T 1 = .int .i64 n ∧ T 2 = .int .i64 q ∧ T 7 = .slice Ap xs.length cp ∧ T 8 = .int .i64 k ∧ m + k = n ∧ k ≤ n ∧ xs.length = k ∧ VD H0 G' b A L c (p + 2 * k) xs Ap cp)
    n ⟨0, [], _, _, by simp (maxSteps := 300000) (disch := omega) only [gs, gs2, gs3, gs4, ↓reduceIte, Nat.reduceEqDiff, Int.reduceToNat, Nat.reduceMul, Nat.reduceAdd, Nat.reduceBEq, isLd], by simp (maxSteps := 300000) (disch := omega) only [gs, gs2, gs3, gs4, ↓reduceIte, Nat.reduceEqDiff, Int.reduceToNat, Nat.reduceMul, Nat.reduceAdd, Nat.reduceBEq, isLd], by simp (maxSteps := 300000) (disch := omega) only [gs, gs2, gs3, gs4, ↓reduceIte, Nat.reduceEqDiff, Int.reduceToNat, Nat.reduceMul, Nat.reduceAdd, Nat.reduceBEq, isLd], by simp (maxSteps := 300000) (disch := omega) only [gs, gs2, gs3, gs4, ↓reduceIte, Nat.reduceEqDiff, Int.reduceToNat, Nat.reduceMul, Nat.reduceAdd, Nat.reduceBEq, isLd] <;> rfl, by simp (maxSteps := 300000) (disch := omega) only [gs, gs2, gs3, gs4, ↓reduceIte, Nat.reduceEqDiff, Int.reduceToNat, Nat.reduceMul, Nat.reduceAdd, Nat.reduceBEq, isLd] <;> rfl, by omega, by omega, rfl, hD⟩ ?_
  clear hD
  rintro m T G' ⟨k, xs, Ap, cp, e0, e1, e2, e7, e8, hm, hkm, hlk, hD⟩
  simp (maxSteps := 300000) (disch := omega) only [gs, gs2, gs3, gs4, ↓reduceIte, Nat.reduceEqDiff, Int.reduceToNat, Nat.reduceMul, Nat.reduceAdd, Nat.reduceBEq, isLd, e0, e1, e2, e7, e8]
  by_cases hk2 : (k : Int) < n
  · simp (maxSteps := 300000) (disch := omega) only [gs, gs2, gs3, gs4, ↓reduceIte, Nat.reduceEqDiff, Int.reduceToNat, Nat.reduceMul, Nat.reduceAdd, Nat.reduceBEq, isLd, e0, e1, e2, e7, e8, hk2]
    refine spec_l00Max_ok _ _ ?_
    simp (maxSteps := 300000) (disch := omega) only [gs, gs2, gs3, gs4, ↓reduceIte, Nat.reduceEqDiff, Int.reduceToNat, Nat.reduceMul, Nat.reduceAdd, Nat.reduceBEq, isLd, e0, e1, e2, e7, e8]
    refine spec_pick_ok hD.src.all (by omega) (by omega) fun w G6 w0 w1 w2 s6 => ?_
    have hD := hD.step s6
    simp (maxSteps := 300000) (disch := omega) only [gs, gs2, gs3, gs4, ↓reduceIte, Nat.reduceEqDiff, Int.reduceToNat, Nat.reduceMul, Nat.reduceAdd, Nat.reduceBEq, isLd, e0, e1, e2, e7, e8, gBs]
    refine ⟨by intro v hv; simp at hv; subst hv; rfl, fun by' hby => ?_⟩
    have hDy := hD.box hby ⟨[.int .i64 w], true⟩
    refine ap_own hDy.own (cells_one [.int .i64 w] true) (by rfl) (by intro v hv; simp at hv; subst hv; rfl) rfl (by omega) (by omega) (by omega) fun G9 A9 c9 hO9 hG9 => ?_
    have hD := hDy.app (ys := xs ++ [w]) (hO9.cast (by simp [I64]) (by simp)) hG9
    simp (maxSteps := 300000) (disch := omega) only [gs, gs2, gs3, gs4, ↓reduceIte, Nat.reduceEqDiff, Int.reduceToNat, Nat.reduceMul, Nat.reduceAdd, Nat.reduceBEq, isLd, e0, e1, e2, e7, e8]
    exact ⟨m - 1, by omega, _, Sub.refl _, k + 1, xs ++ [w], A9, c9, by simp, rfl, by omega, by omega, by simp; omega, hD.le (by omega)⟩
  · simp (maxSteps := 300000) (disch := omega) only [gs, gs2, gs3, gs4, ↓reduceIte, Nat.reduceEqDiff, Int.reduceToNat, Nat.reduceMul, Nat.reduceAdd, Nat.reduceBEq, isLd, e0, e1, e2, e7, e8, hk2]
    exact hk _ _ _ _ (by omega) (hD.le (by omega))
theorem spec_l02Bend_ok {H0 G : GH} {b : Nat} {A Ap : Option Addr} {L c p cp : Nat} {xs : List Int} {q : Int} (h : VD H0 G b A L c p xs Ap cp) (hp : p ≤ 5000) (hl : xs.length ≤ 21) {K : Value → GH → Prop}
    (hk : ∀ G' ys Bp dp, ys.length ≤ 65 → VD H0 G' b A L c (p + 4) ys Bp dp → K (.slice Bp ys.length dp) G') : GC Try.prog 175 [.pointer (some ⟨b, 0, none⟩), .slice Ap xs.length cp, .int .i64 q] G K := by
  refine c_spec_l02Bend_i (by simp) ?_
  simp (maxSteps := 300000) (disch := omega) only [gs, gs2, gs3, gs4, ↓reduceIte, Nat.reduceEqDiff, Int.reduceToNat, Nat.reduceMul, Nat.reduceAdd, Nat.reduceBEq, isLd]
  refine spec_pick_ok h.src.all (by omega) (by omega) fun v G5 v0 v1 v2 s5 => ?_
  have hD := h.step s5
  simp (maxSteps := 300000) (disch := omega) only [gs, gs2, gs3, gs4, ↓reduceIte, Nat.reduceEqDiff, Int.reduceToNat, Nat.reduceMul, Nat.reduceAdd, Nat.reduceBEq, isLd]
  by_cases g0 : v = 0
  · simp (maxSteps := 300000) (disch := omega) only [gs, gs2, gs3, gs4, ↓reduceIte, Nat.reduceEqDiff, Int.reduceToNat, Nat.reduceMul, Nat.reduceAdd, Nat.reduceBEq, isLd, eq_true g0, gBs]
    refine ⟨by intro v hv; simp at hv; rcases hv with rfl | rfl <;> rfl, fun bx hbx => ?_⟩
    have hDx := hD.box hbx ⟨([(-1), q] : List Int).map I64, true⟩
    have hbb : bx ≠ b := hD.src.ne hbx
    have hxl : IntS (del (put G5 bx ⟨([(-1), q] : List Int).map I64, true⟩) b) (some ⟨bx, 0, none⟩) 2 [(-1), q] := blk_ints (xs := [(-1), q]) (by rw [del_ne _ hbb]; exact put_same _ _ _)
    refine spec_among_ok (xs := [(-1), q]) hDx.src.all (by omega) hxl (by simp) (by simp) fun w G6 hw sw => ?_
    have hD := hDx.step sw
    simp (maxSteps := 300000) (disch := omega) only [gs, gs2, gs3, gs4, ↓reduceIte, Nat.reduceEqDiff, Int.reduceToNat, Nat.reduceMul, Nat.reduceAdd, Nat.reduceBEq, isLd, gBs]
    refine ⟨by intro v hv; simp at hv; subst hv; rfl, fun by' hby => ?_⟩
    have hDy := hD.box hby ⟨[.int .i64 w], true⟩
    refine ap_own hDy.own (cells_one [.int .i64 w] true) (by rfl) (by intro v hv; simp at hv; subst hv; rfl) rfl (by omega) (by omega) (by omega) fun G9 A9 c9 hO9 hG9 => ?_
    have hD := hDy.app (ys := xs ++ [w]) (hO9.cast (by simp [I64]) (by simp)) hG9
    simp (maxSteps := 300000) (disch := omega) only [gs, gs2, gs3, gs4, ↓reduceIte, Nat.reduceEqDiff, Int.reduceToNat, Nat.reduceMul, Nat.reduceAdd, Nat.reduceBEq, isLd]
    have := hk _ _ _ _ (by simp; omega) (hD.le (by omega))
    rw [List.length_append] at this
    exact this
  simp (maxSteps := 300000) (disch := omega) only [gs, gs2, gs3, gs4, ↓reduceIte, Nat.reduceEqDiff, Int.reduceToNat, Nat.reduceMul, Nat.reduceAdd, Nat.reduceBEq, isLd, eq_false g0]
  by_cases g1 : v = 1
  · simp (maxSteps := 300000) (disch := omega) only [gs, gs2, gs3, gs4, ↓reduceIte, Nat.reduceEqDiff, Int.reduceToNat, Nat.reduceMul, Nat.reduceAdd, Nat.reduceBEq, isLd, eq_true g1, gBs]
    refine ⟨by intro v hv; simp at hv; rcases hv with rfl | rfl <;> rfl, fun bx hbx => ?_⟩
    have hDx := hD.box hbx ⟨([64, 65] : List Int).map I64, true⟩
    have hbb : bx ≠ b := hD.src.ne hbx
    have hxl : IntS (del (put G5 bx ⟨([64, 65] : List Int).map I64, true⟩) b) (some ⟨bx, 0, none⟩) 2 [64, 65] := blk_ints (xs := [64, 65]) (by rw [del_ne _ hbb]; exact put_same _ _ _)
    refine spec_among_ok (xs := [64, 65]) hDx.src.all (by omega) hxl (by simp) (by simp) fun w G6 hw sw => ?_
    have hw : w = ((w.toNat : Nat) : Int) ∧ w.toNat ≤ 65 := by simp at hw; omega
    have hD := hDx.step sw
    obtain ⟨n, hn⟩ : ∃ n, n = w.toNat := ⟨_, rfl⟩
    rw [← hn] at hw
    rw [hw.1]
    simp (maxSteps := 300000) (disch := omega) only [gs, gs2, gs3, gs4, ↓reduceIte, Nat.reduceEqDiff, Int.reduceToNat, Nat.reduceMul, Nat.reduceAdd, Nat.reduceBEq, isLd]
    refine ⟨n, n, rfl, rfl, Nat.le_refl _, by omega, by omega, fun bg hbg => ?_⟩
    have hz : zc [.int .i64 0] n = (List.replicate n (0 : Int)).map I64 := by rw [zc_one, List.map_replicate]; rfl
    rw [hz]
    have hDg : VD H0 (put G6 bg ⟨(List.replicate n (0 : Int)).map I64, true⟩) b A L c (p + 2 + 2) (List.replicate n 0) (some ⟨bg, 0, none⟩) n :=
      ⟨(hD.box hbg _).src, .inr ⟨bg, [], rfl, by rw [List.append_nil]; exact put_same _ _ _, by simp, by simp, by simp⟩, fun a ha => by cases ha; exact hD.src.sub.none hbg, fun a ha => by cases ha; exact hD.src.ne hbg⟩
    simp (maxSteps := 300000) (disch := omega) only [gs, gs2, gs3, gs4, ↓reduceIte, Nat.reduceEqDiff, Int.reduceToNat, Nat.reduceMul, Nat.reduceAdd, Nat.reduceBEq, isLd]
    have := hk _ _ _ _ (by simp; omega) (hDg.le (by omega))
    rw [List.length_replicate] at this
    exact this
  simp (maxSteps := 300000) (disch := omega) only [gs, gs2, gs3, gs4, ↓reduceIte, Nat.reduceEqDiff, Int.reduceToNat, Nat.reduceMul, Nat.reduceAdd, Nat.reduceBEq, isLd, eq_false g1]
  by_cases g2 : v = 2
  · simp (maxSteps := 300000) (disch := omega) only [gs, gs2, gs3, gs4, ↓reduceIte, Nat.reduceEqDiff, Int.reduceToNat, Nat.reduceMul, Nat.reduceAdd, Nat.reduceBEq, isLd, eq_true g2, gBs]
    refine ⟨by intro v hv; simp at hv; subst hv; rfl, fun by' hby => ?_⟩
    have hDy := hD.box hby ⟨[.int .i64 0], true⟩
    refine ap_own hDy.own (cells_one [.int .i64 0] true) (by rfl) (by intro v hv; simp at hv; subst hv; rfl) rfl (by omega) (by omega) (by omega) fun G9 A9 c9 hO9 hG9 => ?_
    have hD := hDy.app (ys := xs ++ [0]) (hO9.cast (by simp [I64]) (by simp)) hG9
    simp (maxSteps := 300000) (disch := omega) only [gs, gs2, gs3, gs4, ↓reduceIte, Nat.reduceEqDiff, Int.reduceToNat, Nat.reduceMul, Nat.reduceAdd, Nat.reduceBEq, isLd]
    have := hk _ _ _ _ (by simp; omega) (hD.le (by omega))
    rw [List.length_append] at this
    exact this
  · simp (maxSteps := 300000) (disch := omega) only [gs, gs2, gs3, gs4, ↓reduceIte, Nat.reduceEqDiff, Int.reduceToNat, Nat.reduceMul, Nat.reduceAdd, Nat.reduceBEq, isLd, eq_false g2]
    exact hk _ _ _ _ (by omega) (hD.le (by omega))
theorem spec_DrawHarmonicModulo_ok {G : GH} {A : Option Addr} {L c : Nat} (h : BytS G A L c) {K : Value → GH → Prop}
    (hk : ∀ G' N Ap cp q fs Cp ep (vs : List Int) Bp dp, GSm N → VSm fs → vs.length ≤ 65 → Own G' Ap cp (flat3 N.edges) 3 N.edges.length → Own G' Cp ep (fs.map I64) 1 fs.length → Own G' Bp dp (vs.map I64) 1 vs.length → Sub G G' → K (.tuple [graV N Ap cp, .int .i64 q, .slice Cp fs.length ep, .slice Bp vs.length dp].toArray) G') : GC Try.prog 76 [.slice A L c] G K := by
  refine GC_drop (c_spec_DrawHarmonicModulo_i (by simp) ?_)
  simp (maxSteps := 300000) (disch := omega) only [gs, gs2, gs3, gs4, ↓reduceIte, Nat.reduceEqDiff, Int.reduceToNat, Nat.reduceMul, Nat.reduceAdd, Nat.reduceBEq, isLd]
  intro b2 hb2
  simp (maxSteps := 300000) (disch := omega) only [gs, gs2, gs3, gs4, ↓reduceIte, Nat.reduceEqDiff, Int.reduceToNat, Nat.reduceMul, Nat.reduceAdd, Nat.reduceBEq, isLd]
  refine c_spec_l00From_i (by simp) ?_
  have hbl : bldV [.slice none 0 0, .int .i64 0, .int .u64 0] [(0, 1, .slice A L c)] = some [.slice A L c, .int .i64 0, .int .u64 0] := rfl
  simp (maxSteps := 300000) (disch := omega) only [gs, gs2, gs3, gs4, ↓reduceIte, Nat.reduceEqDiff, Int.reduceToNat, Nat.reduceMul, Nat.reduceAdd, Nat.reduceBEq, isLd, hbl]
  intro b5 hb5
  simp (maxSteps := 300000) (disch := omega) only [gs, gs2, gs3, gs4, ↓reduceIte, Nat.reduceEqDiff, Int.reduceToNat, Nat.reduceMul, Nat.reduceAdd, Nat.reduceBEq, isLd]
  have s2 := Sub.put hb2 ⟨z2, true⟩
  have hS : Src (put G b2 ⟨z2, true⟩) (put (put G b2 ⟨z2, true⟩) b5 ⟨[.slice A L c, .int .i64 0, .int .u64 0], true⟩) b5 A L c 0 := ⟨Sub.put hb5 _, hb5, h.sub s2, 0, 0, Nat.le_refl _, put_same _ _ _⟩
  refine spec_l16Draw_ok hS (by omega) fun G1 N Ap cp hA hO hOff hab s1 => ?_
  have e2 : G1 b2 = some ⟨z2, true⟩ := s1.sub _ _ (put_same _ _ _)
  have hA2 : ∀ a, Ap = some a → a.block ≠ b2 := fun a ha e => by have := hOff a ha; rw [e, put_same] at this; cases this
  have hAG := hOff.mono s2
  have n25 : b2 ≠ b5 := (put_none.1 hb5).1.symm
  have n5 : G b5 = none := (put_none.1 hb5).2
  have hn := hA.n
  unfold graV
  simp (maxSteps := 300000) (disch := omega) only [gs, gs2, gs3, gs4, ↓reduceIte, Nat.reduceEqDiff, Int.reduceToNat, Nat.reduceMul, Nat.reduceAdd, Nat.reduceBEq, isLd]
  intro b6 hb6
  simp (maxSteps := 300000) (disch := omega) only [gs, gs2, gs3, gs4, ↓reduceIte, Nat.reduceEqDiff, Int.reduceToNat, Nat.reduceMul, Nat.reduceAdd, Nat.reduceBEq, isLd]
  refine st_fresh (vs := graC N Ap cp) rfl rfl rfl (by intro v hv; simp [graC] at hv; rcases hv with rfl | rfl <;> rfl) ?_
  have n65 : b6 ≠ b5 := s1.ne hb6
  have n26 : b6 ≠ b2 := (blk_ne e2 hb6).symm
  have sG := (s2.trans s1.sub).trans (Sub.put hb6 ⟨graC N Ap cp, true⟩)
  have s3 := s1.box hb6 ⟨graC N Ap cp, true⟩
  have hO3 := hO.sub (Sub.put hb6 ⟨graC N Ap cp, true⟩)
  have e23 := (Sub.put hb6 ⟨graC N Ap cp, true⟩) _ _ e2
  have e6 := put_same G1 b6 ⟨graC N Ap cp, true⟩
  revert s3 hO3 e23 e6 sG
  generalize put G1 b6 ⟨graC N Ap cp, true⟩ = G2
  intro sG s3 hO3 e23 e6
  have g0 : rd (del G2 b5) (some ⟨b6, 0, none⟩) = some (.int .i64 N.n) := by simp only [rd, del_ne _ n65, e6]; rfl
  simp (maxSteps := 300000) (disch := omega) only [gs, gs2, gs3, gs4, ↓reduceIte, Nat.reduceEqDiff, Int.reduceToNat, Nat.reduceMul, Nat.reduceAdd, Nat.reduceBEq, isLd]
  refine spec_l02BentPrime_ok s3.all (by omega) fun q G3 q0 q1 hD => ?_
  have e2 := blk_step hD.sub n25 e23
  have e6 := blk_step hD.sub n65 e6
  have hO4 := hO3.stp hD.sub hab
  have sG3 := (sG.in_del n5).trans hD.sub
  have g0 : rd (del G3 b5) (some ⟨b6, 0, none⟩) = some (.int .i64 N.n) := by simp only [rd, del_ne _ n65, e6]; rfl
  simp (maxSteps := 300000) (disch := omega) only [gs, gs2, gs3, gs4, ↓reduceIte, Nat.reduceEqDiff, Int.reduceToNat, Nat.reduceMul, Nat.reduceAdd, Nat.reduceBEq, isLd]
  refine spec_l16DrawSet_ok hD.all (by omega) g0 hn fun G4 fs Cp ep hF hD4 => ?_
  have e24 := blk_step hD4.src.sub n25 e2
  have e64 := blk_step hD4.src.sub n65 e6
  have hO5 := hO4.stp hD4.src.sub hab
  have sG4 := (sG3.in_del n5).trans hD4.src.sub
  have hC2 : ∀ a, Cp = some a → a.block ≠ b2 := fun a ha e => by have := hD4.off a ha; rw [e, del_ne _ n25, e2] at this; cases this
  have hfl := hF.1
  simp (maxSteps := 300000) (disch := omega) only [gs, gs2, gs3, gs4, ↓reduceIte, Nat.reduceEqDiff, Int.reduceToNat, Nat.reduceMul, Nat.reduceAdd, Nat.reduceBEq, isLd]
  refine spec_l02DrawVector_ok hD4.src.all (by omega) hfl (by omega) fun G5 vs Bp dp hvl hD5 => ?_
  have e25 := blk_step hD5.src.sub n25 e24
  have e65 := blk_step hD5.src.sub n65 e64
  have hO6 := hO5.stp hD5.src.sub hab
  have hC6 := hD4.own.stp hD5.src.sub hD4.da
  have k0 : rd G5 (some ⟨b6, 0, none⟩) = some (.int .i64 N.n) := by simp only [rd, e65]; rfl
  have k1 : rd G5 (some ⟨b6, 1, none⟩) = some (.slice Ap N.edges.length cp) := by simp only [rd, e65]; rfl
  simp (maxSteps := 300000) (disch := omega) only [gs, gs2, gs3, gs4, ↓reduceIte, Nat.reduceEqDiff, Int.reduceToNat, Nat.reduceMul, Nat.reduceAdd, Nat.reduceBEq, isLd, k0, k1]
  refine spec_l02Bend_ok hD5 (by omega) (by omega) fun G6 ys Yp yp hyl hD6 => ?_
  have e26 := blk_step hD6.src.sub n25 e24
  have e66 := blk_step hD6.src.sub n65 e64
  have hO7 := hO5.stp hD6.src.sub hab
  have hC7 := hD4.own.stp hD6.src.sub hD4.da
  have sG6 := (sG4.in_del n5).trans hD6.src.sub
  have hY2 : ∀ a, Yp = some a → a.block ≠ b2 := fun a ha e => by have := hD6.off a ha; rw [e, del_ne _ n25, e24] at this; cases this
  have l0 : rd G6 (some ⟨b6, 0, none⟩) = some (.int .i64 N.n) := by simp only [rd, e66]; rfl
  have l1 : rd G6 (some ⟨b6, 1, none⟩) = some (.slice Ap N.edges.length cp) := by simp only [rd, e66]; rfl
  simp (maxSteps := 300000) (disch := omega) only [gs, gs2, gs3, gs4, ↓reduceIte, Nat.reduceEqDiff, Int.reduceToNat, Nat.reduceMul, Nat.reduceAdd, Nat.reduceBEq, isLd, l0, l1]
  refine st_grab (n := N.n) (es := N.edges) (A := Ap) (c := cp) e26 fun q0 q1 => ?_
  have l0' : rd (put G6 b2 ⟨graC ⟨N.n, N.edges⟩ Ap cp, true⟩) (some ⟨b6, 0, none⟩) = some (.int .i64 N.n) := by rw [rd_put_ne _ _ _ _ _ n26]; exact l0
  have l1' : rd (put G6 b2 ⟨graC ⟨N.n, N.edges⟩ Ap cp, true⟩) (some ⟨b6, 1, none⟩) = some (.slice Ap N.edges.length cp) := by rw [rd_put_ne _ _ _ _ _ n26]; exact l1
  simp (maxSteps := 300000) (disch := omega) only [gs, gs2, gs3, gs4, ↓reduceIte, Nat.reduceEqDiff, Int.reduceToNat, Nat.reduceMul, Nat.reduceAdd, Nat.reduceBEq, isLd, l0', l1', q0, q1, resV_four]
  exact ⟨_, Sub.refl _, hk _ _ _ _ _ _ _ _ _ _ _ hA hF hyl (hO7.away hA2 _) (hC7.away hC2 _) (hD6.own.away hY2 _) (sG6.skip hb2)⟩
theorem spec_ValidVector_ok {G : GH} {A : Option Addr} {c : Nat} {xs : List Int} {p : Int} (h : IntS G A c xs) (hl : xs.length < 2 ^ 40) {K : Value → GH → Prop} (hk : ∀ b : Bool, (b = true ↔ PrimeP p ∧ InB xs 0 (p - 1) ∧ xs.length ≤ 64) → K (.bool b) G) : GC Try.prog 77 [.slice A xs.length c, .int .i64 p] G K := by
  refine c_spec_ValidVector_i (by simp) ?_
  simp (maxSteps := 300000) (disch := omega) only [gs, gs2, gs3, gs4, ↓reduceIte, Nat.reduceEqDiff, Int.reduceToNat, Nat.reduceMul, Nat.reduceAdd, Nat.reduceBEq, isLd]
  refine spec_l02Prime_ok fun bp hbp => ?_
  cases bp
  · simp (maxSteps := 300000) (disch := omega) only [gs, gs2, gs3, gs4, ↓reduceIte, Nat.reduceEqDiff, Int.reduceToNat, Nat.reduceMul, Nat.reduceAdd, Nat.reduceBEq, isLd]
    exact hk false ⟨fun x => by simp at x, fun x => by have := hbp.2 x.1; simp at this⟩
  have hp := hbp.1 rfl
  have hp1 := hp.1
  simp (maxSteps := 300000) (disch := omega) only [gs, gs2, gs3, gs4, ↓reduceIte, Nat.reduceEqDiff, Int.reduceToNat, Nat.reduceMul, Nat.reduceAdd, Nat.reduceBEq, isLd]
  refine spec_l02Numbers_ok h hl ⟨by omega, hp1.2⟩ fun bv hbv => ?_
  simp (maxSteps := 300000) (disch := omega) only [gs, gs2, gs3, gs4, ↓reduceIte, Nat.reduceEqDiff, Int.reduceToNat, Nat.reduceMul, Nat.reduceAdd, Nat.reduceBEq, isLd]
  exact hk bv ⟨fun x => ⟨hp, hbv.1 x⟩, fun x => hbv.2 x.2⟩
theorem spec_ApplyLaplacian_ok {G : GH} {N : Gra} {A B : Option Addr} {c d : Nat} {xs : List Int} (h : T3S G A c N.edges) (hf : IntS G B d xs) (hl : N.edges.length < 2 ^ 40) (hl' : xs.length < 2 ^ 40) {K : Value → GH → Prop}
    (hk : LI (applyV N xs) K G) : GC Try.prog 78 [graV N A c, .slice B xs.length d] G K := by
  refine GC_drop (c_spec_ApplyLaplacian_i (by simp) ?_)
  unfold graV
  simp (maxSteps := 300000) (disch := omega) only [gs, gs2, gs3, gs4, ↓reduceIte, Nat.reduceEqDiff, Int.reduceToNat, Nat.reduceMul, Nat.reduceAdd, Nat.reduceBEq, isLd]
  intro b2 hb2
  have hP := GraP.box hb2 h
  have s1 := Sub.put hb2 ⟨graC N A c, true⟩
  revert hP s1
  generalize put G b2 ⟨graC N A c, true⟩ = G1
  intro hP s1
  simp (maxSteps := 300000) (disch := omega) only [gs, gs2, gs3, gs4, ↓reduceIte, Nat.reduceEqDiff, Int.reduceToNat, Nat.reduceMul, Nat.reduceAdd, Nat.reduceBEq, isLd]
  refine spec_l16Ask_ok hP (hf.sub s1) hl hl' ?_
  simp (maxSteps := 300000) (disch := omega) only [gs, gs2, gs3, gs4, ↓reduceIte, Nat.reduceEqDiff, Int.reduceToNat, Nat.reduceMul, Nat.reduceAdd, Nat.reduceBEq, isLd]
  by_cases g0 : askC N xs = 0
  · obtain ⟨hn, hx⟩ := askC_zero.1 g0
    simp (maxSteps := 300000) (disch := omega) only [gs, gs2, gs3, gs4, ↓reduceIte, Nat.reduceEqDiff, Int.reduceToNat, Nat.reduceMul, Nat.reduceAdd, Nat.reduceBEq, isLd, eq_true g0]
    have hV : applyV N xs = (mapR (apK N.edges xs N.edges.length) N.n.toNat, 0) := by unfold applyV; rw [if_neg (by simp [g0])]
    rw [hV] at hk
    refine spec_l16Apply_ok hP (hf.sub s1) hn hx fun G2 b nb s2 hY => ?_
    simp (maxSteps := 300000) (disch := omega) only [gs, gs2, gs3, gs4, ↓reduceIte, Nat.reduceEqDiff, Int.reduceToNat, Nat.reduceMul, Nat.reduceAdd, Nat.reduceBEq, isLd]
    rw [fcells_mapR] at hY
    have hK := hk (put G b ⟨(mapR (apK N.edges xs N.edges.length) N.n.toNat).map I64, true⟩) (some ⟨b, 0, none⟩) N.n.toNat (by
      have := New.mk (s1.none nb) ((mapR (apK N.edges xs N.edges.length) N.n.toNat).map I64) 1 N.n.toNat (by rw [List.length_map, mapR_len]; omega)
      exact this.cast rfl (mapR_len _ _).symm)
    dsimp only at hK
    rw [mapR_len] at hK
    exact ⟨_, Sub.of_put (s1.trans s2) hY, hK⟩
  · simp (maxSteps := 300000) (disch := omega) only [gs, gs2, gs3, gs4, ↓reduceIte, Nat.reduceEqDiff, Int.reduceToNat, Nat.reduceMul, Nat.reduceAdd, Nat.reduceBEq, isLd, eq_false g0]
    exact ⟨G, s1, hk.err (by unfold applyV; rw [if_pos g0])⟩
theorem impl_CutWeight_ok {G : GH} {N : Gra} {A B : Option Addr} {c d : Nat} {xs : List Int} (h : T3S G A c N.edges) (hf : IntS G B d xs) (hl : N.edges.length < 2 ^ 40) (hl' : xs.length < 2 ^ 40) {K : Value → GH → Prop}
    (hk : K (pairV (cutV N xs)) G) : GC Try.prog 80 [graV N A c, .slice B xs.length d] G K := by
  refine GC_drop (c_impl_CutWeight_i (by simp) ?_)
  unfold graV graC
  simp (maxSteps := 300000) (disch := omega) only [gs, gs2, gs3, gs4, ↓reduceIte, Nat.reduceEqDiff, Int.reduceToNat, Nat.reduceMul, Nat.reduceAdd, Nat.reduceBEq, isLd]
  intro b2 hb2
  have s1 := Sub.put hb2 ⟨[.int .i64 N.n, .slice A N.edges.length c], true⟩
  have f0 : rd (put G b2 ⟨[.int .i64 N.n, .slice A N.edges.length c], true⟩) (some ⟨b2, 0, none⟩) = some (.int .i64 N.n) := rd_box _ _ _ 0 _ rfl
  have f1 : rd (put G b2 ⟨[.int .i64 N.n, .slice A N.edges.length c], true⟩) (some ⟨b2, 1, none⟩) = some (.slice A N.edges.length c) := rd_box _ _ _ 1 _ rfl
  revert s1 f0 f1
  generalize put G b2 ⟨[.int .i64 N.n, .slice A N.edges.length c], true⟩ = G1
  intro s1 f0 f1
  simp (maxSteps := 300000) (disch := omega) only [gs, gs2, gs3, gs4, ↓reduceIte, Nat.reduceEqDiff, Int.reduceToNat, Nat.reduceMul, Nat.reduceAdd, Nat.reduceBEq, isLd, f0, f1]
  refine impl_ValidGraph_ok (N := N) (h.sub s1) hl fun b hb => ?_
  cases b
  · simp (maxSteps := 300000) (disch := omega) only [gs, gs2, gs3, gs4, ↓reduceIte, Nat.reduceEqDiff, Int.reduceToNat, Nat.reduceMul, Nat.reduceAdd, Nat.reduceBEq, isLd]
    have : cutV N xs = (0, 1) := by unfold cutV; rw [if_neg fun x => by have := hb.2 x; cases this]
    rw [this] at hk
    exact ⟨G, s1, hk⟩
  have hn := hb.1 rfl
  simp (maxSteps := 300000) (disch := omega) only [gs, gs2, gs3, gs4, ↓reduceIte, Nat.reduceEqDiff, Int.reduceToNat, Nat.reduceMul, Nat.reduceAdd, Nat.reduceBEq, isLd, f0, f1]
  refine impl_isSet_ok (N := N) (hf.sub s1) hn hl' fun bs hbs => ?_
  cases bs
  · simp (maxSteps := 300000) (disch := omega) only [gs, gs2, gs3, gs4, ↓reduceIte, Nat.reduceEqDiff, Int.reduceToNat, Nat.reduceMul, Nat.reduceAdd, Nat.reduceBEq, isLd]
    have : cutV N xs = (0, 2) := by unfold cutV; rw [if_pos hn, if_neg fun x => by have := hbs.2 x; cases this]
    rw [this] at hk
    exact ⟨G, s1, hk⟩
  have hs := hbs.1 rfl
  simp (maxSteps := 300000) (disch := omega) only [gs, gs2, gs3, gs4, ↓reduceIte, Nat.reduceEqDiff, Int.reduceToNat, Nat.reduceMul, Nat.reduceAdd, Nat.reduceBEq, isLd, f0, f1]
  refine impl_cutWeight_ok (N := N) (h.sub s1) (hf.sub s1) hn hl' ?_
  simp (maxSteps := 300000) (disch := omega) only [gs, gs2, gs3, gs4, ↓reduceIte, Nat.reduceEqDiff, Int.reduceToNat, Nat.reduceMul, Nat.reduceAdd, Nat.reduceBEq, isLd]
  have : cutV N xs = (cwK N.edges xs N.edges.length, 0) := by unfold cutV; rw [if_pos hn, if_pos hs]
  rw [this] at hk
  exact ⟨G, s1, hk⟩
theorem spec_DrawCutWeight_ok {G : GH} {A : Option Addr} {L c : Nat} (h : BytS G A L c) {K : Value → GH → Prop}
    (hk : ∀ G' N Ap cp fs Cp ep, GSm N → VSm fs → Own G' Ap cp (flat3 N.edges) 3 N.edges.length → Own G' Cp ep (fs.map I64) 1 fs.length → Sub G G' → K (.tuple [graV N Ap cp, .slice Cp fs.length ep].toArray) G') : GC Try.prog 79 [.slice A L c] G K := by
  refine GC_drop (c_spec_DrawCutWeight_i (by simp) ?_)
  simp (maxSteps := 300000) (disch := omega) only [gs, gs2, gs3, gs4, ↓reduceIte, Nat.reduceEqDiff, Int.reduceToNat, Nat.reduceMul, Nat.reduceAdd, Nat.reduceBEq, isLd]
  intro b2 hb2
  simp (maxSteps := 300000) (disch := omega) only [gs, gs2, gs3, gs4, ↓reduceIte, Nat.reduceEqDiff, Int.reduceToNat, Nat.reduceMul, Nat.reduceAdd, Nat.reduceBEq, isLd]
  refine c_spec_l00From_i (by simp) ?_
  have hbl : bldV [.slice none 0 0, .int .i64 0, .int .u64 0] [(0, 1, .slice A L c)] = some [.slice A L c, .int .i64 0, .int .u64 0] := rfl
  simp (maxSteps := 300000) (disch := omega) only [gs, gs2, gs3, gs4, ↓reduceIte, Nat.reduceEqDiff, Int.reduceToNat, Nat.reduceMul, Nat.reduceAdd, Nat.reduceBEq, isLd, hbl]
  intro b5 hb5
  simp (maxSteps := 300000) (disch := omega) only [gs, gs2, gs3, gs4, ↓reduceIte, Nat.reduceEqDiff, Int.reduceToNat, Nat.reduceMul, Nat.reduceAdd, Nat.reduceBEq, isLd]
  have s2 := Sub.put hb2 ⟨z2, true⟩
  have hS : Src (put G b2 ⟨z2, true⟩) (put (put G b2 ⟨z2, true⟩) b5 ⟨[.slice A L c, .int .i64 0, .int .u64 0], true⟩) b5 A L c 0 := ⟨Sub.put hb5 _, hb5, h.sub s2, 0, 0, Nat.le_refl _, put_same _ _ _⟩
  refine spec_l16Draw_ok hS (by omega) fun G1 N Ap cp hA hO hOff hab s1 => ?_
  have e2 : G1 b2 = some ⟨z2, true⟩ := s1.sub _ _ (put_same _ _ _)
  have hA2 : ∀ a, Ap = some a → a.block ≠ b2 := fun a ha e => by have := hOff a ha; rw [e, put_same] at this; cases this
  have hAG := hOff.mono s2
  have n25 : b2 ≠ b5 := (put_none.1 hb5).1.symm
  have n5 : G b5 = none := (put_none.1 hb5).2
  have hn := hA.n
  unfold graV
  simp (maxSteps := 300000) (disch := omega) only [gs, gs2, gs3, gs4, ↓reduceIte, Nat.reduceEqDiff, Int.reduceToNat, Nat.reduceMul, Nat.reduceAdd, Nat.reduceBEq, isLd]
  intro b6 hb6
  simp (maxSteps := 300000) (disch := omega) only [gs, gs2, gs3, gs4, ↓reduceIte, Nat.reduceEqDiff, Int.reduceToNat, Nat.reduceMul, Nat.reduceAdd, Nat.reduceBEq, isLd]
  refine st_fresh (vs := graC N Ap cp) rfl rfl rfl (by intro v hv; simp [graC] at hv; rcases hv with rfl | rfl <;> rfl) ?_
  have n65 : b6 ≠ b5 := s1.ne hb6
  have n26 : b6 ≠ b2 := (blk_ne e2 hb6).symm
  have sG := (s2.trans s1.sub).trans (Sub.put hb6 ⟨graC N Ap cp, true⟩)
  have s3 := s1.box hb6 ⟨graC N Ap cp, true⟩
  have hO3 := hO.sub (Sub.put hb6 ⟨graC N Ap cp, true⟩)
  have e23 := (Sub.put hb6 ⟨graC N Ap cp, true⟩) _ _ e2
  have e6 := put_same G1 b6 ⟨graC N Ap cp, true⟩
  revert s3 hO3 e23 e6 sG
  generalize put G1 b6 ⟨graC N Ap cp, true⟩ = G2
  intro sG s3 hO3 e23 e6
  have g0 : rd (del G2 b5) (some ⟨b6, 0, none⟩) = some (.int .i64 N.n) := by simp only [rd, del_ne _ n65, e6]; rfl
  have k0 : rd G2 (some ⟨b6, 0, none⟩) = some (.int .i64 N.n) := by simp only [rd, e6]; rfl
  have k1 : rd G2 (some ⟨b6, 1, none⟩) = some (.slice Ap N.edges.length cp) := by simp only [rd, e6]; rfl
  simp (maxSteps := 300000) (disch := omega) only [gs, gs2, gs3, gs4, ↓reduceIte, Nat.reduceEqDiff, Int.reduceToNat, Nat.reduceMul, Nat.reduceAdd, Nat.reduceBEq, isLd, k0, k1]
  refine spec_l16DrawSet_ok s3.all (by omega) g0 hn fun G4 fs Cp ep hF hD4 => ?_
  have e24 := blk_step hD4.src.sub n25 e23
  have e64 := blk_step hD4.src.sub n65 e6
  have hO5 := hO3.stp hD4.src.sub hab
  have sG4 := (sG.in_del n5).trans hD4.src.sub
  have hC2 : ∀ a, Cp = some a → a.block ≠ b2 := fun a ha e => by have := hD4.off a ha; rw [e, del_ne _ n25, e23] at this; cases this
  have l0 : rd G4 (some ⟨b6, 0, none⟩) = some (.int .i64 N.n) := by simp only [rd, e64]; rfl
  have l1 : rd G4 (some ⟨b6, 1, none⟩) = some (.slice Ap N.edges.length cp) := by simp only [rd, e64]; rfl
  simp (maxSteps := 300000) (disch := omega) only [gs, gs2, gs3, gs4, ↓reduceIte, Nat.reduceEqDiff, Int.reduceToNat, Nat.reduceMul, Nat.reduceAdd, Nat.reduceBEq, isLd, l0, l1]
  refine st_grab (n := N.n) (es := N.edges) (A := Ap) (c := cp) e24 fun q0 q1 => ?_
  have l0' : rd (put G4 b2 ⟨graC ⟨N.n, N.edges⟩ Ap cp, true⟩) (some ⟨b6, 0, none⟩) = some (.int .i64 N.n) := by rw [rd_put_ne _ _ _ _ _ n26]; exact l0
  have l1' : rd (put G4 b2 ⟨graC ⟨N.n, N.edges⟩ Ap cp, true⟩) (some ⟨b6, 1, none⟩) = some (.slice Ap N.edges.length cp) := by rw [rd_put_ne _ _ _ _ _ n26]; exact l1
  simp (maxSteps := 300000) (disch := omega) only [gs, gs2, gs3, gs4, ↓reduceIte, Nat.reduceEqDiff, Int.reduceToNat, Nat.reduceMul, Nat.reduceAdd, Nat.reduceBEq, isLd, l0', l1', q0, q1]
  exact ⟨_, Sub.refl _, hk _ _ _ _ _ _ _ hA hF (hO5.away hA2 _) (hD4.own.away hC2 _) (sG4.skip hb2)⟩
abbrev hrIf : GCode := .seq (.reg c_laws_FnHarmonic_5) (.cond (tt 46) (.seq (.seq (.reg c_laws_FnHarmonic_6) (.cond (tt 71) (.seq (.reg c_laws_FnHarmonic_7) (.ret)) (.skip))) (.seq (.seq (.reg c_laws_FnHarmonic_8) (.blk 0 (.loop c_laws_FnHarmonic_l0))) (.seq (.reg c_laws_FnHarmonic_14) (.seq (.seq (.reg c_laws_FnHarmonic_15) (.cond (tt 97) (.seq (.reg c_laws_FnHarmonic_16) (.ret)) (.skip))) (.seq (.reg c_laws_FnHarmonic_17) (.blk 2 (.loop c_laws_FnHarmonic_l1))))))) (.skip))
abbrev hrRest : GCode := .seq (.reg c_laws_FnHarmonic_23) (.seq (.reg c_laws_FnHarmonic_24) (.seq (.reg c_laws_FnHarmonic_25) (.seq (.seq (.reg c_laws_FnHarmonic_26) (.cond (tt 139) (.seq (.reg c_laws_FnHarmonic_27) (.ret)) (.skip))) (.seq (.reg c_laws_FnHarmonic_28) (.seq (.reg c_laws_FnHarmonic_29) (.ret))))))
theorem hr_h {G : GH} {v0 v1 : Value} {x0 x1 : Nat} {X : GCode} (h0 : BytesV G v0 x0) (h1 : BytesV G v1 x1)
    (hX : ∀ (T' : Nat → Value) (H : GH) (N : Gra) (p : Int) (fs vs : List Int) (A1 Ap Cp Bp Ax : Option Addr) (c1 cp ep dp cx b5 : Nat), T' 1 = .slice A1 x1 c1 → BytS H A1 x1 c1 → T' 5 = .pointer (some ⟨b5, 0, none⟩) → T' 6 = .int .i64 p → T' 7 = .slice Cp fs.length ep → T' 8 = .slice Bp vs.length dp →
      T' 9 = .slice Ax (harV N p fs vs).1.length cx → T' 10 = .int .i64 (harV N p fs vs).2 →
      rd H (some ⟨b5, 0, none⟩) = some (.int .i64 N.n) → rd H (some ⟨b5, 1, none⟩) = some (.slice Ap N.edges.length cp) → T3S H Ap cp N.edges → IntS H Cp ep fs → IntS H Bp dp vs → IntS H Ax cx (harV N p fs vs).1 → N.edges.length ≤ 64 → fs.length ≤ 21 → vs.length ≤ 65 → gW Try.prog X (RetK [RV.t 4] fun v _ => v = .bool true) T' H) :
    gW Try.prog (.seq (.reg c_laws_FnHarmonic_0) (.seq (.seq (.reg c_laws_FnHarmonic_1) (.cond (tt 29) (.seq (.reg c_laws_FnHarmonic_2) (.ret)) (.skip))) (.seq (.reg c_laws_FnHarmonic_3) (.seq (.reg c_laws_FnHarmonic_4) X)))) (RetK [RV.t 4] fun v _ => v = .bool true) (T0 [v0, v1]) G := by
  obtain ⟨A0, c0, rfl, h0, l0⟩ := h0
  obtain ⟨A1, c1, rfl, h1, l1⟩ := h1
  simp (maxSteps := 300000) (disch := omega) only [gs, gs2, gs3, gs4, ↓reduceIte, Nat.reduceEqDiff, Int.reduceToNat, Nat.reduceMul, Nat.reduceAdd, Nat.reduceBEq, isLd]
  refine b10Long_ok ?_
  by_cases g0 : (1048576 : Int) < x0
  · simp (maxSteps := 300000) (disch := omega) only [gs, gs2, gs3, gs4, ↓reduceIte, Nat.reduceEqDiff, Int.reduceToNat, Nat.reduceMul, Nat.reduceAdd, Nat.reduceBEq, isLd, g0]
  simp (maxSteps := 300000) (disch := omega) only [gs, gs2, gs3, gs4, ↓reduceIte, Nat.reduceEqDiff, Int.reduceToNat, Nat.reduceMul, Nat.reduceAdd, Nat.reduceBEq, isLd, g0]
  refine b10Long_ok ?_
  by_cases g1 : (1048576 : Int) < x1
  · simp (maxSteps := 300000) (disch := omega) only [gs, gs2, gs3, gs4, ↓reduceIte, Nat.reduceEqDiff, Int.reduceToNat, Nat.reduceMul, Nat.reduceAdd, Nat.reduceBEq, isLd, g1]
  simp (maxSteps := 300000) (disch := omega) only [gs, gs2, gs3, gs4, ↓reduceIte, Nat.reduceEqDiff, Int.reduceToNat, Nat.reduceMul, Nat.reduceAdd, Nat.reduceBEq, isLd, g1]
  refine spec_DrawHarmonicModulo_ok h0 fun G1 N Ap cp p fs Cp ep vs Bp dp hA hF hvl hO hC hV s1 => ?_
  have hT := hO.t3
  have hC := hC.ints
  have hV := hV.ints
  have hnl := hA.len
  have hfl := hF.1
  have hB := h1.sub s1
  clear hO
  unfold graV graC
  simp (maxSteps := 300000) (disch := omega) only [gs, gs2, gs3, gs4, ↓reduceIte, Nat.reduceEqDiff, Int.reduceToNat, Nat.reduceMul, Nat.reduceAdd, Nat.reduceBEq, isLd]
  intro b5 hb5
  simp (maxSteps := 300000) (disch := omega) only [gs, gs2, gs3, gs4, ↓reduceIte, Nat.reduceEqDiff, Int.reduceToNat, Nat.reduceMul, Nat.reduceAdd, Nat.reduceBEq, isLd]
  refine st_fresh (vs := graC N Ap cp) rfl rfl rfl (by intro v hv; simp [graC] at hv; rcases hv with rfl | rfl <;> rfl) ?_
  have s5 := Sub.put hb5 ⟨graC N Ap cp, true⟩
  have k0 : rd (put G1 b5 ⟨graC N Ap cp, true⟩) (some ⟨b5, 0, none⟩) = some (.int .i64 N.n) := rd_box _ _ _ 0 _ rfl
  have k1 : rd (put G1 b5 ⟨graC N Ap cp, true⟩) (some ⟨b5, 1, none⟩) = some (.slice Ap N.edges.length cp) := rd_box _ _ _ 1 _ rfl
  have hT := hT.sub s5
  have hC := hC.sub s5
  have hV := hV.sub s5
  have hB := hB.sub s5
  revert k0 k1 hT hC hV hB
  generalize put G1 b5 ⟨graC N Ap cp, true⟩ = H
  intro k0 k1 hT hC hV hB
  clear s5 s1 hb5 h0 h1
  simp (maxSteps := 300000) (disch := omega) only [gs, gs2, gs3, gs4, ↓reduceIte, Nat.reduceEqDiff, Int.reduceToNat, Nat.reduceMul, Nat.reduceAdd, Nat.reduceBEq, isLd, k0, k1]
  refine impl_HarmonicModulo_ok (N := N) hT hC hV (by omega) (by omega) (by omega) fun G2 Ax cx hN2 => ?_
  have s2 := hN2.sub
  simp (maxSteps := 300000) (disch := omega) only [gs, gs2, gs3, gs4, ↓reduceIte, Nat.reduceEqDiff, Int.reduceToNat, Nat.reduceMul, Nat.reduceAdd, Nat.reduceBEq, isLd]
  exact hX _ G2 N p fs vs A1 Ap Cp Bp Ax c1 cp ep dp cx b5 (by simp (maxSteps := 300000) (disch := omega) only [gs, gs2, gs3, gs4, ↓reduceIte, Nat.reduceEqDiff, Int.reduceToNat, Nat.reduceMul, Nat.reduceAdd, Nat.reduceBEq, isLd]) (hB.sub s2) (by simp (maxSteps := 300000) (disch := omega) only [gs, gs2, gs3, gs4, ↓reduceIte, Nat.reduceEqDiff, Int.reduceToNat, Nat.reduceMul, Nat.reduceAdd, Nat.reduceBEq, isLd]) (by simp (maxSteps := 300000) (disch := omega) only [gs, gs2, gs3, gs4, ↓reduceIte, Nat.reduceEqDiff, Int.reduceToNat, Nat.reduceMul, Nat.reduceAdd, Nat.reduceBEq, isLd]) (by simp (maxSteps := 300000) (disch := omega) only [gs, gs2, gs3, gs4, ↓reduceIte, Nat.reduceEqDiff, Int.reduceToNat, Nat.reduceMul, Nat.reduceAdd, Nat.reduceBEq, isLd]) (by simp (maxSteps := 300000) (disch := omega) only [gs, gs2, gs3, gs4, ↓reduceIte, Nat.reduceEqDiff, Int.reduceToNat, Nat.reduceMul, Nat.reduceAdd, Nat.reduceBEq, isLd]) (by simp (maxSteps := 300000) (disch := omega) only [gs, gs2, gs3, gs4, ↓reduceIte, Nat.reduceEqDiff, Int.reduceToNat, Nat.reduceMul, Nat.reduceAdd, Nat.reduceBEq, isLd]) (by simp (maxSteps := 300000) (disch := omega) only [gs, gs2, gs3, gs4, ↓reduceIte, Nat.reduceEqDiff, Int.reduceToNat, Nat.reduceMul, Nat.reduceAdd, Nat.reduceBEq, isLd]) (rd_sub s2 k0) (rd_sub s2 k1) (hT.sub s2) (hC.sub s2) (hV.sub s2) hN2.ints (by omega) (by omega) (by omega)
theorem hr_if {G : GH} {A1 Ap Cp Bp Ax : Option Addr} {x1 c1 cp ep dp cx b5 : Nat} {N : Gra} {p : Int} {fs vs : List Int} {T : Nat → Value} {X : GCode} (e1 : T 1 = .slice A1 x1 c1) (hB : BytS G A1 x1 c1) (e5 : T 5 = .pointer (some ⟨b5, 0, none⟩)) (e6 : T 6 = .int .i64 p) (e7 : T 7 = .slice Cp fs.length ep) (e8 : T 8 = .slice Bp vs.length dp)
    (e9 : T 9 = .slice Ax (harV N p fs vs).1.length cx) (e10 : T 10 = .int .i64 (harV N p fs vs).2)
    (k0 : rd G (some ⟨b5, 0, none⟩) = some (.int .i64 N.n)) (k1 : rd G (some ⟨b5, 1, none⟩) = some (.slice Ap N.edges.length cp)) (hT : T3S G Ap cp N.edges) (hC : IntS G Cp ep fs) (hV : IntS G Bp dp vs) (hR : IntS G Ax cx (harV N p fs vs).1) (hl : N.edges.length ≤ 64) (hfl : fs.length ≤ 21) (hvl : vs.length ≤ 65)
    (hX : ∀ T' G', T' 1 = .slice A1 x1 c1 → BytS G' A1 x1 c1 → gW Try.prog X (RetK [RV.t 4] fun v _ => v = .bool true) T' G') : gW Try.prog (.seq hrIf X) (RetK [RV.t 4] fun v _ => v = .bool true) T G := by
  simp (maxSteps := 300000) (disch := omega) only [gs, gs2, gs3, gs4, ↓reduceIte, Nat.reduceEqDiff, Int.reduceToNat, Nat.reduceMul, Nat.reduceAdd, Nat.reduceBEq, isLd, e10]
  by_cases gz : (harV N p fs vs).2 = 0
  rotate_left
  · simp (maxSteps := 300000) (disch := omega) only [gs, gs2, gs3, gs4, ↓reduceIte, Nat.reduceEqDiff, Int.reduceToNat, Nat.reduceMul, Nat.reduceAdd, Nat.reduceBEq, isLd, eq_false gz]
    exact hX _ _ (by simp (maxSteps := 300000) (disch := omega) only [gs, gs2, gs3, gs4, ↓reduceIte, Nat.reduceEqDiff, Int.reduceToNat, Nat.reduceMul, Nat.reduceAdd, Nat.reduceBEq, isLd, e1]) hB
  obtain ⟨⟨hn, hp, hvb, _⟩, hset, hfv, _⟩ := har_ok gz
  obtain ⟨hxl, hxb, hxf, hxa⟩ := har_keeps gz
  have hn1 := hn.1
  have hp1 := hp.1
  generalize (harV N p fs vs).1 = x at *
  simp (maxSteps := 300000) (disch := omega) only [gs, gs2, gs3, gs4, ↓reduceIte, Nat.reduceEqDiff, Int.reduceToNat, Nat.reduceMul, Nat.reduceAdd, Nat.reduceBEq, isLd, eq_true gz, e6, e9]
  refine spec_ValidVector_ok hR (by omega) fun bb hbb => ?_
  have hbt : bb = true := hbb.2 ⟨hp, hxb, by omega⟩
  subst hbt
  have l1 : ((x.length : Int) = N.n) = True := eq_true (by omega)
  have l2 : ((fs.length : Int) = vs.length) = True := eq_true (by omega)
  simp (maxSteps := 300000) (disch := omega) only [gs, gs2, gs3, gs4, ↓reduceIte, Nat.reduceEqDiff, Int.reduceToNat, Nat.reduceMul, Nat.reduceAdd, Nat.reduceBEq, isLd, e5, e6, e7, e8, e9, k0, l1, l2]
  have hfb : ∀ i, i < fs.length → 0 ≤ fs.getD i 0 ∧ fs.getD i 0 < x.length := fun i hi => by have := hset.1 i hi; omega
  refine b10Rises_ok hC (by omega) hfb (fun i h0 h1 => by have := hset.2 (i - 1) (by omega); rwa [show i - 1 + 1 = i by omega] at this) ?_
  simp (maxSteps := 300000) (disch := omega) only [gs, gs2, gs3, gs4, ↓reduceIte, Nat.reduceEqDiff, Int.reduceToNat, Nat.reduceMul, Nat.reduceAdd, Nat.reduceBEq, isLd, e5, e6, e7, e8, e9]
  refine gLoop_intro (fun m T G' => ∃ k : Nat, T 1 = .slice A1 x1 c1 ∧ T 5 = .pointer (some ⟨b5, 0, none⟩) ∧ T 6 = .int .i64 p ∧ T 7 = .slice Cp fs.length ep ∧ T 8 = .slice Bp vs.length dp ∧ T 9 = .slice Ax x.length cx ∧ T 11 = .int .i64 k ∧ m + k = fs.length ∧ k ≤ fs.length ∧ G = G')
    fs.length ⟨0, by simp (maxSteps := 300000) (disch := omega) only [gs, gs2, gs3, gs4, ↓reduceIte, Nat.reduceEqDiff, Int.reduceToNat, Nat.reduceMul, Nat.reduceAdd, Nat.reduceBEq, isLd, e1], by simp (maxSteps := 300000) (disch := omega) only [gs, gs2, gs3, gs4, ↓reduceIte, Nat.reduceEqDiff, Int.reduceToNat, Nat.reduceMul, Nat.reduceAdd, Nat.reduceBEq, isLd, e5], by simp (maxSteps := 300000) (disch := omega) only [gs, gs2, gs3, gs4, ↓reduceIte, Nat.reduceEqDiff, Int.reduceToNat, Nat.reduceMul, Nat.reduceAdd, Nat.reduceBEq, isLd, e6], by simp (maxSteps := 300000) (disch := omega) only [gs, gs2, gs3, gs4, ↓reduceIte, Nat.reduceEqDiff, Int.reduceToNat, Nat.reduceMul, Nat.reduceAdd, Nat.reduceBEq, isLd, e7], by simp (maxSteps := 300000) (disch := omega) only [gs, gs2, gs3, gs4, ↓reduceIte, Nat.reduceEqDiff, Int.reduceToNat, Nat.reduceMul, Nat.reduceAdd, Nat.reduceBEq, isLd, e8], by simp (maxSteps := 300000) (disch := omega) only [gs, gs2, gs3, gs4, ↓reduceIte, Nat.reduceEqDiff, Int.reduceToNat, Nat.reduceMul, Nat.reduceAdd, Nat.reduceBEq, isLd, e9], by simp (maxSteps := 300000) (disch := omega) only [gs, gs2, gs3, gs4, ↓reduceIte, Nat.reduceEqDiff, Int.reduceToNat, Nat.reduceMul, Nat.reduceAdd, Nat.reduceBEq, isLd] <;> rfl, by omega, by omega, rfl⟩ ?_
  clear e1 e5 e6 e7 e8 e9 e10
  rintro m T G' ⟨k, e1, e5, e6, e7, e8, e9, e11, hm, hk, rfl⟩
  simp (maxSteps := 300000) (disch := omega) only [gs, gs2, gs3, gs4, ↓reduceIte, Nat.reduceEqDiff, Int.reduceToNat, Nat.reduceMul, Nat.reduceAdd, Nat.reduceBEq, isLd, e1, e5, e6, e7, e8, e9, e11]
  by_cases hkk : (k : Int) < fs.length
  · obtain ⟨f0, f1⟩ := hfb k (by omega)
    obtain ⟨u, hu⟩ : ∃ u : Nat, fs.getD k 0 = u := ⟨(fs.getD k 0).toNat, by omega⟩
    have hux : (u : Int) < x.length := by omega
    have rC := hC.rd k (by omega)
    have rV := hV.rd k (by omega)
    have rX := hR.rd u (by omega)
    have hxk := hxf k (by omega)
    rw [hu, Int.toNat_natCast] at hxk
    rw [hu] at rC
    rw [hxk] at rX
    have s1 := hC.sn (by omega)
    have s2 := hV.sn (by omega)
    have s3 := hR.sn (by omega)
    have hkv : (k : Int) < vs.length := by omega
    simp (maxSteps := 300000) (disch := omega) only [gs, gs2, gs3, gs4, ↓reduceIte, Nat.reduceEqDiff, Int.reduceToNat, Nat.reduceMul, Nat.reduceAdd, Nat.reduceBEq, isLd, e1, e5, e6, e7, e8, e9, e11, hkk, hkv, hux, rC, rV, rX, eq_true (show vs.getD k 0 = vs.getD k 0 from rfl)]
    exact ⟨m - 1, by omega, _, Sub.refl _, k + 1, rfl, by omega, by omega, rfl⟩
  simp (maxSteps := 300000) (disch := omega) only [gs, gs2, gs3, gs4, ↓reduceIte, Nat.reduceEqDiff, Int.reduceToNat, Nat.reduceMul, Nat.reduceAdd, Nat.reduceBEq, isLd, e1, e5, e6, e7, e8, e9, e11, hkk, k0, k1]
  refine spec_ApplyLaplacian_ok (N := N) hT hR (by omega) (by omega) fun G2 Ay cy hN2 => ?_
  have hvec : VecOk N x := ⟨by omega, fun i hi => by have := hxb i hi; omega⟩
  have e2 : applyV N x = (mapR (apK N.edges x N.edges.length) N.n.toNat, 0) := if_neg (by simp [askC_zero.2 ⟨hn, hvec⟩])
  have s2 := hN2.sub
  have hY := hN2.ints
  have hC2 := hC.sub s2
  have hB2 := hB.sub s2
  rw [e2] at hY ⊢
  have hY : IntS G2 Ay cy (mapR (apK N.edges x N.edges.length) N.n.toNat) := hY
  clear hN2 k0 k1 hT hR hV hC hB s2 hxf e2 hm hk e11 e5 e8 e9
  have hml := mapR_len (apK N.edges x N.edges.length) N.n.toNat
  have hget : ∀ v : Nat, v < N.n.toNat → (mapR (apK N.edges x N.edges.length) N.n.toNat).getD v 0 = apK N.edges x N.edges.length v := fun v hv => by simp [mapR, List.getD, hv]
  generalize apK N.edges x N.edges.length = ap at *
  simp (maxSteps := 300000) (disch := omega) only [gs, gs2, gs3, gs4, ↓reduceIte, Nat.reduceEqDiff, Int.reduceToNat, Nat.reduceMul, Nat.reduceAdd, Nat.reduceBEq, isLd, e1, e6, e7, eq_true (show (0 : Int) = 0 from rfl)]
  refine gLoop_intro (fun m T G' => ∃ k : Nat, T 1 = .slice A1 x1 c1 ∧ T 6 = .int .i64 p ∧ T 7 = .slice Cp fs.length ep ∧ T 12 = .slice Ay (mapR ap N.n.toNat).length cy ∧ T 14 = .int .i64 k ∧ m + k = N.n.toNat ∧ k ≤ N.n.toNat ∧ G2 = G')
    N.n.toNat ⟨0, by simp (maxSteps := 300000) (disch := omega) only [gs, gs2, gs3, gs4, ↓reduceIte, Nat.reduceEqDiff, Int.reduceToNat, Nat.reduceMul, Nat.reduceAdd, Nat.reduceBEq, isLd, e1], by simp (maxSteps := 300000) (disch := omega) only [gs, gs2, gs3, gs4, ↓reduceIte, Nat.reduceEqDiff, Int.reduceToNat, Nat.reduceMul, Nat.reduceAdd, Nat.reduceBEq, isLd, e6], by simp (maxSteps := 300000) (disch := omega) only [gs, gs2, gs3, gs4, ↓reduceIte, Nat.reduceEqDiff, Int.reduceToNat, Nat.reduceMul, Nat.reduceAdd, Nat.reduceBEq, isLd, e7], by simp (maxSteps := 300000) (disch := omega) only [gs, gs2, gs3, gs4, ↓reduceIte, Nat.reduceEqDiff, Int.reduceToNat, Nat.reduceMul, Nat.reduceAdd, Nat.reduceBEq, isLd], by simp (maxSteps := 300000) (disch := omega) only [gs, gs2, gs3, gs4, ↓reduceIte, Nat.reduceEqDiff, Int.reduceToNat, Nat.reduceMul, Nat.reduceAdd, Nat.reduceBEq, isLd] <;> rfl, by omega, by omega, rfl⟩ ?_
  clear e1 e6 e7
  rintro m T G' ⟨k, e1, e6, e7, e12, e14, hm, hk, rfl⟩
  simp (maxSteps := 300000) (disch := omega) only [gs, gs2, gs3, gs4, ↓reduceIte, Nat.reduceEqDiff, Int.reduceToNat, Nat.reduceMul, Nat.reduceAdd, Nat.reduceBEq, isLd, e1, e6, e7, e12, e14]
  by_cases hkk2 : (k : Int) < (mapR ap N.n.toNat).length
  · have rY := hY.rd k (by omega)
    rw [hget k (by omega)] at rY
    have sY := hY.sn (by omega)
    simp (maxSteps := 300000) (disch := omega) only [gs, gs2, gs3, gs4, ↓reduceIte, Nat.reduceEqDiff, Int.reduceToNat, Nat.reduceMul, Nat.reduceAdd, Nat.reduceBEq, isLd, e1, e6, e7, e12, e14, hkk2, rY, fun a : Int => bin_rem .i64 a p (by omega)]
    by_cases hmem : (k : Int) ∈ fs
    · by_cases ht : (ap k).tmod p = 0
      · simp (maxSteps := 300000) (disch := omega) only [gs, gs2, gs3, gs4, ↓reduceIte, Nat.reduceEqDiff, Int.reduceToNat, Nat.reduceMul, Nat.reduceAdd, Nat.reduceBEq, isLd, eq_true ht, e1, e6, e7, e12, e14]
        exact ⟨m - 1, by omega, _, Sub.refl _, k + 1, rfl, by omega, by omega, rfl⟩
      · simp (maxSteps := 300000) (disch := omega) only [gs, gs2, gs3, gs4, ↓reduceIte, Nat.reduceEqDiff, Int.reduceToNat, Nat.reduceMul, Nat.reduceAdd, Nat.reduceBEq, isLd, eq_false ht, e1, e6, e7, e12, e14]
        refine b10Has_ok hC2 (by omega) fun bb hbb => ?_
        have hbt : bb = true := hbb.2 hmem
        subst hbt
        simp (maxSteps := 300000) (disch := omega) only [gs, gs2, gs3, gs4, ↓reduceIte, Nat.reduceEqDiff, Int.reduceToNat, Nat.reduceMul, Nat.reduceAdd, Nat.reduceBEq, isLd, e1, e6, e7, e12, e14]
        exact ⟨m - 1, by omega, _, Sub.refl _, k + 1, rfl, by omega, by omega, rfl⟩
    · have ht : (ap k).tmod p = 0 := Int.tmod_eq_zero_of_dvd (Int.dvd_of_emod_eq_zero (hxa k (by omega) hmem))
      simp (maxSteps := 300000) (disch := omega) only [gs, gs2, gs3, gs4, ↓reduceIte, Nat.reduceEqDiff, Int.reduceToNat, Nat.reduceMul, Nat.reduceAdd, Nat.reduceBEq, isLd, eq_true ht, e1, e6, e7, e12, e14]
      exact ⟨m - 1, by omega, _, Sub.refl _, k + 1, rfl, by omega, by omega, rfl⟩
  · simp (maxSteps := 300000) (disch := omega) only [gs, gs2, gs3, gs4, ↓reduceIte, Nat.reduceEqDiff, Int.reduceToNat, Nat.reduceMul, Nat.reduceAdd, Nat.reduceBEq, isLd, e1, e6, e7, e12, e14, hkk2]
    exact hX _ _ (by simp (maxSteps := 300000) (disch := omega) only [gs, gs2, gs3, gs4, ↓reduceIte, Nat.reduceEqDiff, Int.reduceToNat, Nat.reduceMul, Nat.reduceAdd, Nat.reduceBEq, isLd, e1]) hB2

end Go.Proofs.Ytmlkgpoakkgjbaa.Gh
