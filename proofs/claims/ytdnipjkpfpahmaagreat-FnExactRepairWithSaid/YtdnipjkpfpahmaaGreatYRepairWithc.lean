/- What the functions that the law RepairWith reaches return, and the law; it stands under no condition. -/
import Derived.Test.YtdnipjkpfpahmaaGreatYRepairWithb
namespace Go.Proofs.YtdnipjkpfpahmaaGreat.Gh
open Go Go.RowKit Go.Proofs
open Nat (reduceEqDiff reduceMul reduceAdd)
open Int (reduceToNat)
set_option linter.unusedVariables false
set_option linter.unusedSimpArgs false
set_option maxHeartbeats 4000000

/-- the list at Z grows. -/
theorem Rw.rez {H G : GH} {b : Nat} {A : Nat → Option Addr} {c : Nat → Nat} {R C : Nat} {f : Int → Int → Int} {rest : List Value} {Z : Option Addr} {G' : GH} {Z' : Option Addr} (h : Rw H G b A c R C f rest Z) (hbz : ∀ a, Z = some a → a.block ≠ b) (oH : Off H Z) (s : Sub (wo G Z) G') (o : Off (wo G Z) Z') : Rw H G' b A c R C f rest Z' ∧ Off H Z' ∧ ∀ a, Z' = some a → a.block ≠ b := by
  have hwb : wo G Z b = some ⟨rowsC A c R C ++ rest, true⟩ := by rw [wo_ne hbz]; exact h.blk
  have s0 : Sub H (wo G Z) := fun x e hx => by
    rw [wo_ne fun a ha e' => by have := oH a ha; rw [e', hx] at this; cases this]
    exact h.sub _ _ hx
  have s1 : Sub (wo G Z) (wo G' Z') := fun x e hx => by
    rw [wo_ne fun a ha e' => by have := o a ha; rw [e', hx] at this; cases this]
    exact s _ _ hx
  exact ⟨⟨s0.trans s, h.nb, s _ _ hwb, fun i hi => (h.row i hi).sub (s1.del2 b)⟩, o.mono s0, fun a ha e => by have := o a ha; rw [e, hwb] at this; cases this⟩
/-- flat cells of one's own. -/
def Fl (G : GH) (b R w : Nat) (f : Int → Int → Int) : Prop := ∃ (g : Int → Int) (rs : List Value), G b = some ⟨fcells (R * w) g ++ rs, true⟩ ∧ ∀ i j : Nat, i < R → j < w → g ((i : Int) * w + j) = f i j
theorem flat_lt {i j R w : Nat} (hi : i < R) (hj : j < w) : (i : Int) * w + j < ((R * w : Nat) : Int) := by
  have h : i * w + j < R * w := by
    have : (i + 1) * w ≤ R * w := Nat.mul_le_mul_right w hi
    rw [Nat.add_mul, Nat.one_mul] at this
    omega
  have e : ((i * w + j : Nat) : Int) = (i : Int) * w + j := by push_cast; rfl
  omega
theorem flat_nn (i j w : Nat) : 0 ≤ (i : Int) * w + j := by
  have e : ((i * w + j : Nat) : Int) = (i : Int) * w + j := by push_cast; rfl
  omega
theorem flat_inj {i j i' j' w : Nat} (hj : j < w) (hj' : j' < w) (h : (i : Int) * w + j = (i' : Int) * w + j') : i = i' ∧ j = j' := by
  have e : i * w + j = i' * w + j' := by exact_mod_cast h
  have h1 : (i * w + j) / w = i := by rw [Nat.mul_comm, Nat.mul_add_div (by omega), Nat.div_eq_of_lt hj, Nat.add_zero]
  have h2 : (i' * w + j') / w = i' := by rw [Nat.mul_comm, Nat.mul_add_div (by omega), Nat.div_eq_of_lt hj', Nat.add_zero]
  rw [e, h2] at h1
  subst h1
  exact ⟨rfl, by omega⟩
theorem Fl.rd {G : GH} {b R w : Nat} {f : Int → Int → Int} (h : Fl G b R w f) {i j : Nat} (hi : i < R) (hj : j < w) : rd G (some ⟨b, ((i : Int) * w + j).toNat, none⟩) = some (.int .i64 (f i j)) := by
  obtain ⟨g, rs, h1, h2⟩ := h
  simp only [Gh.rd, h1, Option.bind_some]
  have := fcells_get (b := g) (rest := rs) (flat_nn i j w) (flat_lt hi hj)
  rwa [h2 i j hi hj] at this
theorem Fl.st {G : GH} {b R w : Nat} {f : Int → Int → Int} (h : Fl G b R w f) {i j : Nat} (hi : i < R) (hj : j < w) {x : Int} {K : Value → GH → Prop} (hk : ∀ G', Fl G' b R w (upd2 f i j x) → Keep b G G' → K undef G') : gSt 1 (.pointer (some ⟨b, ((i : Int) * w + j).toNat, none⟩)) (.int .i64 x) G K := by
  obtain ⟨g, rs, h1, h2⟩ := h
  have hl := flat_lt hi hj
  have hn := flat_nn i j w
  refine st_one h1 (by rw [List.length_append, fcells_len]; omega) rfl (hk _ ⟨fun v => if v = (i : Int) * w + j then x else g v, rs, ?_, fun i' j' hi' hj' => ?_⟩ fun y hy => put_ne _ _ hy)
  · rw [put_same, fcells_set hn hl]
  · dsimp only
    unfold upd2
    by_cases e : (i' : Int) * w + j' = (i : Int) * w + j
    · obtain ⟨rfl, rfl⟩ := flat_inj hj' hj e
      rw [if_pos rfl, if_pos ⟨rfl, rfl⟩]
    · rw [if_neg e, if_neg (by rintro ⟨e1, e2⟩; exact e (by rw [e1, e2])), h2 i' j' hi' hj']
theorem Fl.cong {G : GH} {b R w : Nat} {f g : Int → Int → Int} (h : Fl G b R w f) (e : ∀ i j : Nat, i < R → j < w → f i j = g i j) : Fl G b R w g := by
  obtain ⟨k, rs, h1, h2⟩ := h
  exact ⟨k, rs, h1, fun i j hi hj => by rw [h2 i j hi hj, e i j hi hj]⟩
theorem red_eq {a p : Int} (hp : 0 < p) : (a.tmod p + p).tmod p = a % p := by
  have h1 := Int.mul_tdiv_add_tmod a p
  have h2 : -p < a.tmod p := by
    have := Int.lt_tmod_of_pos a hp; omega
  rw [Int.tmod_eq_emod_of_nonneg (by omega)]
  have e : a.tmod p + p = a + p * (1 - a.tdiv p) := by rw [Int.mul_sub, Int.mul_one]; omega
  rw [e, Int.add_mul_emod_self_left]
theorem red_bd {a p : Int} (hp : 0 < p) : -p < a.tmod p ∧ a.tmod p < p := ⟨Int.lt_tmod_of_pos a hp, Int.tmod_lt_of_pos a hp⟩
theorem impl_reduce_ok {a p : Int} (hp : 0 < p ∧ p ≤ 2 ^ 31) {G : GH} {K : Value → GH → Prop} (hk : K (.int .i64 (a % p)) G) : GC Tryz.prog 194 [.int .i64 a, .int .i64 p] G K := by
  refine kd9 (by simp) ?_
  have hb := red_bd (a := a) hp.1
  simp (maxSteps := 300000) (disch := omega) only [gws, ↓reduceIte, reduceEqDiff, reduceToNat, reduceMul, reduceAdd, Nat.reduceBEq, isLd, bin_rem .i64 a p (by omega), fun x : Int => bin_rem .i64 x p (by omega)]
  rw [red_eq hp.1]; exact hk
theorem impl_powerOf_ok {a p : Int} {n : Nat} (ha : 0 ≤ a ∧ a ≤ 2 ^ 31) (hp : 1 < p ∧ p ≤ 2 ^ 31) (hn : n < 2 ^ 40) {G : GH} {K : Value → GH → Prop} (hk : K (.int .i64 (pw a p n)) G) : GC Tryz.prog 214 [.int .i64 a, .int .i64 n, .int .i64 p] G K := by
  refine kci (by simp) ?_
  simp (maxSteps := 300000) (disch := omega) only [gws, ↓reduceIte, reduceEqDiff, reduceToNat, reduceMul, reduceAdd, Nat.reduceBEq, isLd]
  refine gLoop_intro (fun m T G' => ∃ (k : Nat) (b acc : Int), T 0 = .int .i64 b ∧ T 1 = .int .i64 k ∧ T 2 = .int .i64 p ∧ T 7 = .int .i64 acc ∧ m = k ∧ k < 2 ^ 40 ∧ G = G' ∧ (0 ≤ b ∧ b ≤ 2 ^ 31) ∧ (0 ≤ acc ∧ acc < p) ∧ acc * pw b p k % p = pw a p n % p)
    n ⟨n, a, 1, by simp (maxSteps := 300000) (disch := omega) only [gws, ↓reduceIte, reduceEqDiff, reduceToNat, reduceMul, reduceAdd, Nat.reduceBEq, isLd], by simp (maxSteps := 300000) (disch := omega) only [gws, ↓reduceIte, reduceEqDiff, reduceToNat, reduceMul, reduceAdd, Nat.reduceBEq, isLd], by simp (maxSteps := 300000) (disch := omega) only [gws, ↓reduceIte, reduceEqDiff, reduceToNat, reduceMul, reduceAdd, Nat.reduceBEq, isLd], by simp (maxSteps := 300000) (disch := omega) only [gws, ↓reduceIte, reduceEqDiff, reduceToNat, reduceMul, reduceAdd, Nat.reduceBEq, isLd], rfl, hn, rfl, ha, by omega, by rw [Int.one_mul]⟩ ?_
  rintro k T G' ⟨_, b, acc, e0, e1, e2, e7, rfl, hk2, rfl, hb, hacc, he⟩
  simp (maxSteps := 300000) (disch := omega) only [gws, ↓reduceIte, reduceEqDiff, reduceToNat, reduceMul, reduceAdd, Nat.reduceBEq, isLd, e0, e1, e2, e7]
  have hrem := fun x : Int => bin_rem .i64 x p (by omega)
  have hm1 := mulB (a := acc) (b := b) (A := 2 ^ 31) (B := 2 ^ 31) (by omega) (by omega)
  have hm2 := mulB (a := b) (b := b) (A := 2 ^ 31) (B := 2 ^ 31) (by omega) (by omega)
  have hn1 : 0 ≤ acc * b := Int.mul_nonneg hacc.1 hb.1
  have hn2 : 0 ≤ b * b := Int.mul_nonneg hb.1 hb.1
  have w1 := w64 (acc * b) (by omega) (by omega)
  have w2 := w64 (b * b) (by omega) (by omega)
  have r1 : (acc * b).tmod p = acc * b % p := Int.tmod_eq_emod_of_nonneg hn1
  have r2 : (b * b).tmod p = b * b % p := Int.tmod_eq_emod_of_nonneg hn2
  have q1 := Int.emod_nonneg (acc * b) (show p ≠ 0 by omega)
  have q2 := Int.emod_lt_of_pos (acc * b) (show 0 < p by omega)
  have q3 := Int.emod_nonneg (b * b) (show p ≠ 0 by omega)
  have q4 := Int.emod_lt_of_pos (b * b) (show 0 < p by omega)
  by_cases hk0 : (0 : Int) < k
  · have hh := pw_half acc b p k
    have d2 : ((k : Int)).tdiv 2 = ((k / 2 : Nat) : Int) := by rw [Int.tdiv_eq_ediv_of_nonneg (by omega)]; rfl
    have hq := w64 ((k / 2 : Nat) : Int) (by omega) (by omega)
    have hquo : binV .quo (.int .i64 (k : Int)) (.int .i64 2) = some (.int .i64 ((k / 2 : Nat) : Int)) := by
      rw [bin_quo _ _ _ (by omega), d2, hq]
    have hrem2 : binV .rem (.int .i64 (k : Int)) (.int .i64 2) = some (.int .i64 ((k % 2 : Nat) : Int)) := by
      rw [bin_rem _ _ _ (by omega), Int.tmod_eq_emod_of_nonneg (by omega)]; rfl
    simp (maxSteps := 300000) (disch := omega) only [gws, ↓reduceIte, reduceEqDiff, reduceToNat, reduceMul, reduceAdd, Nat.reduceBEq, isLd, e0, e1, e2, e7, hk0, hrem2]
    by_cases ho : k % 2 = 1
    · rw [if_pos ho] at hh
      simp (maxSteps := 300000) (disch := omega) only [gws, ↓reduceIte, reduceEqDiff, reduceToNat, reduceMul, reduceAdd, Nat.reduceBEq, isLd, e0, e1, e2, e7, show (((k % 2 : Nat) : Int) = 1) = True from eq_true (by omega), w1, w2, hrem, r1, r2, hquo]
      exact ⟨k / 2, by omega, G, Sub.refl _, k / 2, b * b % p, acc * b % p, rfl, rfl, rfl, rfl, by omega, rfl, ⟨by omega, by omega⟩, ⟨by omega, by omega⟩, hh.trans he⟩
    · rw [if_neg ho] at hh
      simp (maxSteps := 300000) (disch := omega) only [gws, ↓reduceIte, reduceEqDiff, reduceToNat, reduceMul, reduceAdd, Nat.reduceBEq, isLd, e0, e1, e2, e7, show (((k % 2 : Nat) : Int) = 1) = False from eq_false (by omega), w1, w2, hrem, r1, r2, hquo]
      exact ⟨k / 2, by omega, G, Sub.refl _, k / 2, b * b % p, acc, rfl, rfl, rfl, rfl, by omega, rfl, ⟨by omega, by omega⟩, ⟨by omega, by omega⟩, hh.trans he⟩
  · simp (maxSteps := 300000) (disch := omega) only [gws, ↓reduceIte, reduceEqDiff, reduceToNat, reduceMul, reduceAdd, Nat.reduceBEq, isLd, e0, e1, e2, e7, hk0]
    obtain rfl : k = 0 := by omega
    have hr := pw_rng (a := a) (p := p) hp.1 n
    have e : acc = pw a p n := by
      rw [show pw b p 0 = 1 from rfl, Int.mul_one, Int.emod_eq_of_lt hacc.1 hacc.2, Int.emod_eq_of_lt hr.1 hr.2] at he
      exact he
    rw [e]; exact hk
theorem impl_inverseOf_ok {a p : Int} (ha : 0 ≤ a ∧ a ≤ 2 ^ 31) (hp : 1 < p ∧ p ≤ 2 ^ 31) {G : GH} {K : Value → GH → Prop} (hk : K (.int .i64 (invF a p)) G) : GC Tryz.prog 195 [.int .i64 a, .int .i64 p] G K := by
  refine kb6 (by simp) ?_
  simp (maxSteps := 300000) (disch := omega) only [gws, ↓reduceIte, reduceEqDiff, reduceToNat, reduceMul, reduceAdd, Nat.reduceBEq, isLd]
  have e : p - 2 = ((p - 2).toNat : Int) := by omega
  rw [e]
  refine impl_powerOf_ok ha hp (by omega) ?_
  simp (maxSteps := 300000) (disch := omega) only [gws, ↓reduceIte, reduceEqDiff, reduceToNat, reduceMul, reduceAdd, Nat.reduceBEq, isLd]
  exact hk
theorem impl_addTimes_ok {G : GH} {A B : Option Addr} {ca cb C : Nat} {f g : Int → Int} {k p : Int} (h : IntS G A ca (rowL C f)) (h' : IntS G B cb (rowL C g)) (hp : 1 < p ∧ p ≤ 2 ^ 30) (hk0 : 0 ≤ k ∧ k ≤ p) (hf : ∀ j : Nat, j < C → 0 ≤ f j ∧ f j < p) (hg : ∀ j : Nat, j < C → 0 ≤ g j ∧ g j < p) (hC : C < 2 ^ 20) {K : Value → GH → Prop}
    (hk : ∀ G' A' c', New G G' A' c' ((rowL C fun j => (f j + k * g j) % p).map I64) 1 C → K (.slice A' C c') G') : GC Tryz.prog 128 [.slice A C ca, .slice B C cb, .int .i64 k, .int .i64 p] G K := by
  refine k4k (by simp) ?_
  simp (maxSteps := 300000) (disch := omega) only [gws, ↓reduceIte, reduceEqDiff, reduceToNat, reduceMul, reduceAdd, Nat.reduceBEq, isLd]
  refine gLoop_intro (fun m T G' => ∃ (j : Nat) (As : Option Addr) (cs : Nat), T 0 = .slice A C ca ∧ T 1 = .slice B C cb ∧ T 2 = .int .i64 k ∧ T 3 = .int .i64 p ∧ T 9 = .slice As j cs ∧ T 12 = .int .i64 C ∧ T 13 = .int .i64 j ∧ m + j = C ∧ j ≤ C ∧ New G G' As cs ((rowL j fun j => (f j + k * g j) % p).map I64) 1 j)
    C ⟨0, none, 0, by simp (maxSteps := 300000) (disch := omega) only [gws, ↓reduceIte, reduceEqDiff, reduceToNat, reduceMul, reduceAdd, Nat.reduceBEq, isLd], by simp (maxSteps := 300000) (disch := omega) only [gws, ↓reduceIte, reduceEqDiff, reduceToNat, reduceMul, reduceAdd, Nat.reduceBEq, isLd], by simp (maxSteps := 300000) (disch := omega) only [gws, ↓reduceIte, reduceEqDiff, reduceToNat, reduceMul, reduceAdd, Nat.reduceBEq, isLd], by simp (maxSteps := 300000) (disch := omega) only [gws, ↓reduceIte, reduceEqDiff, reduceToNat, reduceMul, reduceAdd, Nat.reduceBEq, isLd], by simp (maxSteps := 300000) (disch := omega) only [gws, ↓reduceIte, reduceEqDiff, reduceToNat, reduceMul, reduceAdd, Nat.reduceBEq, isLd], by simp (maxSteps := 300000) (disch := omega) only [gws, ↓reduceIte, reduceEqDiff, reduceToNat, reduceMul, reduceAdd, Nat.reduceBEq, isLd], by simp (maxSteps := 300000) (disch := omega) only [gws, ↓reduceIte, reduceEqDiff, reduceToNat, reduceMul, reduceAdd, Nat.reduceBEq, isLd] <;> rfl, by omega, by omega, New.nil _ _⟩ ?_
  rintro m T G' ⟨j, As, cs, e0, e1, e2, e3, e9, e12, e13, hm, hj, hN⟩
  simp (maxSteps := 300000) (disch := omega) only [gws, ↓reduceIte, reduceEqDiff, reduceToNat, reduceMul, reduceAdd, Nat.reduceBEq, isLd, e0, e1, e2, e3, e9, e12, e13]
  by_cases hjj : (j : Int) < C
  · have r1 := (h.sub hN.sub).rd j (by rw [rowL_len]; omega)
    have r2 := (h'.sub hN.sub).rd j (by rw [rowL_len]; omega)
    have sA := h.sn (by rw [rowL_len]; omega)
    have sB := h'.sn (by rw [rowL_len]; omega)
    rw [rowL_get _ (by omega)] at r1 r2
    have b1 := hf j (by omega)
    have b2 := hg j (by omega)
    have hmm := mulB (a := k) (b := g j) (A := 2 ^ 30) (B := 2 ^ 30) (by omega) (by omega)
    have hnn : 0 ≤ k * g j := Int.mul_nonneg hk0.1 b2.1
    have w1 := w64 (k * g j) (by omega) (by omega)
    have w2 := w64 (f j + k * g j) (by omega) (by omega)
    have hr : (f j + k * g j).tmod p = (f j + k * g j) % p := Int.tmod_eq_emod_of_nonneg (by omega)
    have q1 := Int.emod_nonneg (f j + k * g j) (show p ≠ 0 by omega)
    have hrem := fun x : Int => bin_rem .i64 x p (by omega)
    simp (maxSteps := 300000) (disch := omega) only [gws, ↓reduceIte, reduceEqDiff, reduceToNat, reduceMul, reduceAdd, Nat.reduceBEq, isLd, e0, e1, e2, e3, e9, e12, e13, hjj, r1, r2, w1, w2, hrem, hr, gBs]
    refine ⟨by intro v hv; simp at hv; subst hv; rfl, fun b hb => ?_⟩
    refine ⟨⟨rd_sub (Sub.put hb _) r2, rd_sub (Sub.put hb _) r1⟩, ?_⟩
    refine ap_new hN (Sub.put hb _) (cells_one [.int .i64 ((f j + k * g j) % p)] true) (by rfl) (by intro v hv; simp at hv; subst hv; rfl) rfl (by omega) (by omega) (by omega) fun G'' A' c' hN' => ?_
    simp (maxSteps := 300000) (disch := omega) only [gws, ↓reduceIte, reduceEqDiff, reduceToNat, reduceMul, reduceAdd, Nat.reduceBEq, isLd, e0, e1, e2, e3, e9, e12, e13]
    have r1' := (h.sub hN'.sub).rd j (by rw [rowL_len]; omega)
    have r2' := (h'.sub hN'.sub).rd j (by rw [rowL_len]; omega)
    rw [rowL_get _ (by omega)] at r1' r2'
    exact ⟨⟨r2', r1'⟩, m - 1, by omega, _, Sub.refl _, j + 1, A', c', rfl, rfl, by omega, by omega, hN'.cast (by rw [rowL_succ]; simp [I64]) rfl⟩
  · simp (maxSteps := 300000) (disch := omega) only [gws, ↓reduceIte, reduceEqDiff, reduceToNat, reduceMul, reduceAdd, Nat.reduceBEq, isLd, e0, e1, e2, e3, e9, e12, e13, hjj]
    obtain rfl : j = C := by omega
    exact hk _ _ _ hN
theorem slices_IndexFuncS_ok {H G : GH} {b : Nat} {A : Nat → Option Addr} {c : Nat → Nat} {R C : Nat} {f : Int → Int → Int} {rest : List Value} {Z : Option Addr} {F : Value} {Y : Option Addr} {t d : Nat} {col : Int} (h : Rw H G b A c R C f rest Z) (hY : t < R → Y = some ⟨b, t, none⟩) (ht : t ≤ R) (hR : R < 2 ^ 20)
    (hF : ∀ i, i < R → ∀ K : Value → GH → Prop, K (.bool (decide (f i col ≠ 0))) G → gCl Tryz.prog F [.slice (A i) C (c i)] G K) {K : Value → GH → Prop}
    (h0 : (∀ j : Nat, t ≤ j → j < R → f j col = 0) → K (.int .i64 (-1)) G) (h1 : ∀ i : Nat, t ≤ i → i < R → f i col ≠ 0 → (∀ j : Nat, t ≤ j → j < i → f j col = 0) → K (.int .i64 ((i - t : Nat) : Int)) G) :
    GC Tryz.prog 192 [.slice Y (R - t) d, F] G K := by
  refine ktj (by simp) ?_
  simp (maxSteps := 300000) (disch := omega) only [gws, ↓reduceIte, reduceEqDiff, reduceToNat, reduceMul, reduceAdd, Nat.reduceBEq, isLd]
  refine gLoop_intro (fun m T G' => ∃ k : Nat, T 0 = .slice Y (R - t) d ∧ T 1 = F ∧ T 7 = .int .i64 ((R - t : Nat) : Int) ∧ T 8 = .int .i64 k ∧ m + k = R - t ∧ k ≤ R - t ∧ G = G' ∧ ∀ j : Nat, t ≤ j → j < t + k → f j col = 0)
    (R - t) ⟨0, by simp (maxSteps := 300000) (disch := omega) only [gws, ↓reduceIte, reduceEqDiff, reduceToNat, reduceMul, reduceAdd, Nat.reduceBEq, isLd], by simp (maxSteps := 300000) (disch := omega) only [gws, ↓reduceIte, reduceEqDiff, reduceToNat, reduceMul, reduceAdd, Nat.reduceBEq, isLd], by simp (maxSteps := 300000) (disch := omega) only [gws, ↓reduceIte, reduceEqDiff, reduceToNat, reduceMul, reduceAdd, Nat.reduceBEq, isLd], by simp (maxSteps := 300000) (disch := omega) only [gws, ↓reduceIte, reduceEqDiff, reduceToNat, reduceMul, reduceAdd, Nat.reduceBEq, isLd] <;> rfl, by omega, by omega, rfl, fun j h1 h2 => by omega⟩ ?_
  rintro m T G' ⟨k, e0, e1, e7, e8, hm, hk, rfl, hz⟩
  simp (maxSteps := 300000) (disch := omega) only [gws, ↓reduceIte, reduceEqDiff, reduceToNat, reduceMul, reduceAdd, Nat.reduceBEq, isLd, e0, e1, e7, e8]
  by_cases hkk : (k : Int) < ((R - t : Nat) : Int)
  · have hr := h.get (i := t + k) (by omega)
    rw [hY (by omega)] at e0
    simp (maxSteps := 300000) (disch := omega) only [gws, ↓reduceIte, reduceEqDiff, reduceToNat, reduceMul, reduceAdd, Nat.reduceBEq, isLd, e0, e1, e7, e8, hkk, hr]
    refine hF (t + k) (by omega) _ ?_
    by_cases g : f ((t + k : Nat) : Int) col = 0
    · rw [decide_eq_false (fun x => x g)]
      simp (maxSteps := 300000) (disch := omega) only [gws, ↓reduceIte, reduceEqDiff, reduceToNat, reduceMul, reduceAdd, Nat.reduceBEq, isLd, e0, e1, e7, e8]
      exact ⟨m - 1, by omega, G, Sub.refl _, k + 1, by rw [hY (by omega)], rfl, by omega, by omega, rfl, fun j a1 a2 => by
        by_cases e : j = t + k
        · rw [e]; exact g
        · exact hz j a1 (by omega)⟩
    · rw [decide_eq_true g]
      simp (maxSteps := 300000) (disch := omega) only [gws, ↓reduceIte, reduceEqDiff, reduceToNat, reduceMul, reduceAdd, Nat.reduceBEq, isLd, e0, e1, e7, e8]
      have := h1 (t + k) (by omega) (by omega) g (fun j a1 a2 => hz j a1 a2)
      rwa [show t + k - t = k by omega] at this
  · simp (maxSteps := 300000) (disch := omega) only [gws, ↓reduceIte, reduceEqDiff, reduceToNat, reduceMul, reduceAdd, Nat.reduceBEq, isLd, e0, e1, e7, e8, hkk]
    exact h0 fun j a1 a2 => hz j a1 (by omega)
theorem setr_scl (f : Int → Int → Int) (t k p : Int) : scl f t k p = setr f t (fun j => (f t j * k) % p) := by
  funext i j; unfold scl setr; by_cases h : i = t
  · rw [if_pos h, if_pos h]
  · rw [if_neg h, if_neg h]
theorem sl_top {b R t cp : Nat} (ht : t ≤ R) (hR : R ≤ cp) : slV 1 (.slice (some ⟨b, 0, none⟩) R cp) (some (.int .i64 (t : Int))) none = some (if cp = t then .slice (some ⟨b, 0, none⟩) (R - t) (cp - t) else .slice (some ⟨b, t, none⟩) (R - t) (cp - t)) := by
  simp only [slV, onSl, bndV, onInt, Option.bind_some]
  rw [if_pos ⟨by omega, by omega⟩]
  simp only [Option.bind_some, Int.toNat_natCast]
  rw [if_pos ht]
  split <;> simp [pa_mk]
/-- some temporaries are as they were. -/
def SameE (T' T : Nat → Value) : Prop := ∀ t, t = 0 ∨ t = 1 ∨ t = 2 ∨ t = 8 ∨ t = 9 ∨ t = 10 ∨ t = 11 ∨ t = 16 ∨ t = 17 → T' t = T t
theorem SameE.upd {T' T : Nat → Value} (h : SameE T' T) {n : Nat} (v : Value) (hn : 17 < n ∨ n = 12 ∨ n = 13 ∨ n = 14 ∨ n = 15) : SameE (Gh.upd T' n v) T := fun t ht => by
  rw [upd_app, if_neg (by omega)]; exact h t ht
/-- the first rows are cleared. -/
def clrN (f : Int → Int → Int) (t k p : Int) (i : Nat) : Int → Int → Int := fun a => if a < i then clr f t k p a else f a
theorem clrN_t (f : Int → Int → Int) (t k p : Int) (i : Nat) : clrN f t k p i t = f t := by
  unfold clrN; split
  · funext j; unfold clr; rw [if_pos rfl]
  · rfl
theorem el_l0 {D G : GH} {b b10 cp t k : Nat} {A : Nat → Option Addr} {c : Nat → Nat} {R C : Nat} {h : Int → Int → Int} {rest : List Value} {Z : Option Addr} {p : Int} {T : Nat → Value} {Q : Cont} (hw : Rw D G b A c R C h rest Z) (hbz : ∀ a, Z = some a → a.block ≠ b) (hZ : ∀ a, Z = some a → ∃ e, D a.block = some e) (hR : R < 2 ^ 10) (hC : C < 2 ^ 10) (hr : Rng h p) (hp : 1 < p ∧ p ≤ 2 ^ 30)
    (ht : t < R) (hk : k < C) (k10 : rd D (some ⟨b10, 0, none⟩) = some (.int .i64 (k : Int)))
    (e0 : T 0 = .slice (some ⟨b, 0, none⟩) R cp) (e2 : T 2 = .int .i64 p) (e10 : T 10 = .pointer (some ⟨b10, 0, none⟩)) (e11 : T 11 = .int .i64 t) (e79 : T 79 = .slice (some ⟨b, 0, none⟩) R cp) (e80 : T 80 = .int .i64 R) (e81 : T 81 = .int .i64 0)
    (hQ : ∀ T' G' A' c', SameE T' T → Rw D G' b A' c' R C (clr h t k p) rest Z → Q (.ex 2) T' G') : gLoop (gW Tryz.prog k8l) Q T G := by
  refine gLoop_intro (fun m T' G' => ∃ (i : Nat) (A' : Nat → Option Addr) (c' : Nat → Nat), T' 79 = .slice (some ⟨b, 0, none⟩) R cp ∧ T' 80 = .int .i64 R ∧ T' 81 = .int .i64 i ∧ m + i = R ∧ i ≤ R ∧ Rw D G' b A' c' R C (clrN h t k p i) rest Z ∧ SameE T' T)
    R ⟨0, A, c, e79, e80, e81, by omega, by omega, hw.cong fun i j hi hj => by unfold clrN; rw [if_neg (by omega)], fun _ _ => rfl⟩ ?_
  clear e79 e80 e81 hw
  rintro m T' G' ⟨i, A', c', e79, e80, e81, hm, hi, hw, hT⟩
  have e0 : T' 0 = .slice (some ⟨b, 0, none⟩) R cp := (hT 0 (by omega)).trans e0
  have e2 : T' 2 = .int .i64 p := (hT 2 (by omega)).trans e2
  have e10 : T' 10 = .pointer (some ⟨b10, 0, none⟩) := (hT 10 (by omega)).trans e10
  have e11 : T' 11 = .int .i64 t := (hT 11 (by omega)).trans e11
  have q10 := rd_sub hw.sub k10
  simp (maxSteps := 300000) (disch := omega) only [gws, ↓reduceIte, reduceEqDiff, reduceToNat, reduceMul, reduceAdd, Nat.reduceBEq, isLd, e0, e2, e10, e11, e79, e80, e81]
  by_cases hii : (i : Int) < R
  rotate_left
  · simp (maxSteps := 300000) (disch := omega) only [gws, ↓reduceIte, reduceEqDiff, reduceToNat, reduceMul, reduceAdd, Nat.reduceBEq, isLd, e0, e2, e10, e11, e79, e80, e81, hii]
    refine hQ _ _ A' c' ?_ (hw.cong fun a j ha hj => by unfold clrN; rw [if_pos (by omega)])
    repeat (first | exact hT | refine SameE.upd ?_ _ (by omega))
  have hgi := hw.get (i := i) (by omega)
  have hgt := hw.get ht
  have hci := hw.cell (i := i) (by omega) hk
  have hri : clrN h t k p i i = h i := by unfold clrN; rw [if_neg (by omega)]
  rw [hri] at hci
  have hsi := hw.sn (i := i) (by omega) (by omega)
  have hst := hw.sn ht (by omega)
  have hbi := hr i k
  simp (maxSteps := 300000) (disch := omega) only [gws, ↓reduceIte, reduceEqDiff, reduceToNat, reduceMul, reduceAdd, Nat.reduceBEq, isLd, e0, e2, e10, e11, e79, e80, e81, hii, hgi]
  by_cases hit : i = t
  · subst hit
    simp (maxSteps := 300000) (disch := omega) only [gws, ↓reduceIte, reduceEqDiff, reduceToNat, reduceMul, reduceAdd, Nat.reduceBEq, isLd, e0, e2, e10, e11, e79, e80, e81, hgi]
    refine ⟨m - 1, by omega, G', Sub.refl _, i + 1, A', c', rfl, by omega, by omega, hw.cong fun a j ha hj => ?_, ?_⟩
    · unfold clrN
      by_cases e : a = i
      · subst e
        rw [if_neg (by omega), if_pos (by omega)]; unfold clr; rw [if_pos rfl]
      · by_cases e2 : a < i
        · rw [if_pos (by omega), if_pos (by omega)]
        · rw [if_neg (by omega), if_neg (by omega)]
    · repeat (first | exact hT | refine SameE.upd ?_ _ (by omega))
  simp (maxSteps := 300000) (disch := omega) only [gws, ↓reduceIte, reduceEqDiff, reduceToNat, reduceMul, reduceAdd, Nat.reduceBEq, isLd, e0, e2, e10, e11, e79, e80, e81, hgi, show ((i : Int) = t) = False from eq_false (by omega), q10, hci]
  by_cases hz : h i k = 0
  · simp (maxSteps := 300000) (disch := omega) only [gws, ↓reduceIte, reduceEqDiff, reduceToNat, reduceMul, reduceAdd, Nat.reduceBEq, isLd, e0, e2, e10, e11, e79, e80, e81, eq_true hz]
    refine ⟨m - 1, by omega, G', Sub.refl _, i + 1, A', c', rfl, by omega, by omega, hw.cong fun a j ha hj => ?_, ?_⟩
    · unfold clrN
      by_cases e : a = i
      · subst e
        rw [if_neg (by omega), if_pos (by omega)]; unfold clr
        rw [if_neg (by omega), hz, Int.sub_zero, Int.add_mul_emod_self_left, Int.emod_eq_of_lt (hr a j).1 (hr a j).2]
      · by_cases e2 : a < i
        · rw [if_pos (by omega), if_pos (by omega)]
        · rw [if_neg (by omega), if_neg (by omega)]
    · repeat (first | exact hT | refine SameE.upd ?_ _ (by omega))
  simp (maxSteps := 300000) (disch := omega) only [gws, ↓reduceIte, reduceEqDiff, reduceToNat, reduceMul, reduceAdd, Nat.reduceBEq, isLd, e0, e2, e10, e11, e79, e80, e81, eq_false hz, q10, hci, hgi, hgt]
  have hIi := hw.ints (i := i) (by omega)
  have hIt := hw.ints ht
  rw [hri] at hIi
  rw [clrN_t] at hIt
  refine impl_addTimes_ok (f := h i) (g := h t) hIi hIt hp ⟨by omega, by omega⟩ (fun j _ => hr i j) (fun j _ => hr t j) (by omega) fun G3 A3 c3 hN => ?_
  have hw3 := hw.up hN.sub
  have hrow := New.del (xs := rowL C fun j => (h i j + (p - h i k) * h t j) % p) (hN.cast rfl (rowL_len _ _).symm) hw.blk (Z := Z) (fun a ha => by obtain ⟨e, he⟩ := hZ a ha; exact ⟨e, hw.sub _ _ he⟩)
  simp (maxSteps := 300000) (disch := omega) only [gws, ↓reduceIte, reduceEqDiff, reduceToNat, reduceMul, reduceAdd, Nat.reduceBEq, isLd, e0, e2, e10, e11, e79, e80, e81]
  refine ⟨⟨rd_sub hN.sub hci, rd_sub hN.sub q10⟩, ?_⟩
  refine hw3.st (by omega) hbz hrow fun G4 hw4 _ _ => ?_
  simp (maxSteps := 300000) (disch := omega) only [gws, ↓reduceIte, reduceEqDiff, reduceToNat, reduceMul, reduceAdd, Nat.reduceBEq, isLd, e0, e2, e10, e11, e79, e80, e81]
  refine ⟨m - 1, by omega, G4, Sub.refl _, i + 1, _, _, rfl, by omega, by omega, hw4.cong fun a j ha hj => ?_, ?_⟩
  · unfold setr clrN
    by_cases e : a = i
    · subst e
      rw [if_pos rfl, if_pos (by omega)]; unfold clr
      rw [if_neg (by omega)]
    · rw [if_neg (by omega)]
      by_cases e2 : a < i
      · rw [if_pos (by omega), if_pos (by omega)]
      · rw [if_neg (by omega), if_neg (by omega)]
  · repeat (first | exact hT | refine SameE.upd ?_ _ (by omega))
abbrev elTail : GCode := .seq (.dreg k8c) (.seq (.reg k8d) (.seq (.dtree k8e) (.seq (.seq (.reg k8f) (.blk 2 (.loop k8l))) (.reg k8m))))
theorem el_tail {H G : GH} {b b10 cp cq t k : Nat} {A : Nat → Option Addr} {c : Nat → Nat} {Ap : Option Addr} {R C : Nat} {g : Int → Int → Int} {rest : List Value} {p det : Int} {piv : List Int} {T : Nat → Value} {Q : Cont} (h : Rw H G b A c R C g rest Ap) (hR : R < 2 ^ 10) (hC : C < 2 ^ 10) (hr : Rng g p) (hp : 1 < p ∧ p ≤ 2 ^ 30)
    (ht : t < R) (hk : k < C) (hd : 0 ≤ det ∧ det < p) (hl : g t k ≠ 0) (k10 : rd (del G b) (some ⟨b10, 0, none⟩) = some (.int .i64 (k : Int))) (hO : Own G Ap cq (piv.map I64) 1 piv.length) (hOf : Off H Ap) (hda : ∀ a, Ap = some a → a.block ≠ b) (hpl : piv.length < 2 ^ 10)
    (e0 : T 0 = .slice (some ⟨b, 0, none⟩) R cp) (e1 : T 1 = .int .i64 C) (e2 : T 2 = .int .i64 p) (e8 : T 8 = .slice Ap piv.length cq) (e9 : T 9 = .int .i64 det) (e10 : T 10 = .pointer (some ⟨b10, 0, none⟩)) (e11 : T 11 = .int .i64 t) (e16 : T 16 = .int .i64 C) (e17 : T 17 = .int .i64 k)
    (hQ : ∀ T' G' A' c' Ap' cq', T' 0 = .slice (some ⟨b, 0, none⟩) R cp → T' 1 = .int .i64 C → T' 2 = .int .i64 p → T' 8 = .slice Ap' (piv.length + 1) cq' → T' 9 = .int .i64 (det * g t k % p) → T' 16 = .int .i64 C → T' 17 = .int .i64 k →
      Rw H G' b A' c' R C (clr (scl g t (invF (g t k) p) p) t k p) rest Ap' → Own G' Ap' cq' ((piv ++ [(k : Int)]).map I64) 1 (piv.length + 1) → Off H Ap' → (∀ a, Ap' = some a → a.block ≠ b) → Q .nrm T' G') : gW Tryz.prog elTail Q T G := by
  have q10 := rd_sub (Sub.del _ _) k10
  have hgt := h.get ht
  have hcl := h.cell ht hk
  have hsn := h.sn ht (by omega)
  have hb := hr t k
  have hmm := mulB (a := det) (b := g t k) (A := 2 ^ 30) (B := 2 ^ 30) (by omega) (by omega)
  have hnn : 0 ≤ det * g t k := Int.mul_nonneg hd.1 hb.1
  have w1 := w64 (det * g t k) (by omega) (by omega)
  have hrm : (det * g t k).tmod p = det * g t k % p := Int.tmod_eq_emod_of_nonneg hnn
  have hrem := fun x : Int => bin_rem .i64 x p (by omega)
  simp (maxSteps := 300000) (disch := omega) only [gws, ↓reduceIte, reduceEqDiff, reduceToNat, reduceMul, reduceAdd, Nat.reduceBEq, isLd, e0, e1, e2, e8, e9, e10, e11, e16, e17, hgt, hcl, q10, w1, hrem, hrm]
  have hz : zc [.int .i64 0] C = (rowL C fun _ => 0).map I64 := by rw [zc_one, rep_range]; unfold rowL; rw [List.map_map]; rfl
  have hgr := h.ints ht
  have hinvb := pw_rng (a := g t k) (p := p) hp.1 (p - 2).toNat
  have key : ∀ (G1 : GH) (bz : Nat), Sub G G1 → IntS G1 (some ⟨bz, 0, none⟩) C (rowL C fun _ => 0) → ∀ {K : Value → GH → Prop}, (∀ G' A' c', New G1 G' A' c' ((rowL C fun j => (g t j * invF (g t k) p) % p).map I64) 1 C → K (.slice A' C c') G') → GC Tryz.prog 128 [.slice (some ⟨bz, 0, none⟩) C C, .slice (A t) C (c t), .int .i64 (invF (g t k) p), .int .i64 p] G1 K := by
    intro G1 bz s1 hz1 K hK
    refine impl_addTimes_ok (f := fun _ => 0) (g := g t) hz1 (hgr.sub s1) hp ⟨by unfold invF; omega, by unfold invF; omega⟩ (fun j _ => by omega) (fun j _ => hr t j) (by omega) fun G' A' c' hN => hK G' A' c' (hN.cast ?_ rfl)
    congr 1
    exact rowL_congr fun j _ => by rw [Int.zero_add, Int.mul_comm]
  have fin : ∀ (G1 G2 : GH) (A3 : Option Addr) (c3 : Nat) (T' : Nat → Value) (Q' : Cont), Sub G G1 → New G1 G2 A3 c3 ((rowL C fun j => (g t j * invF (g t k) p) % p).map I64) 1 C → SameE T' T → True := fun _ _ _ _ _ _ _ _ _ => trivial
  clear fin
  refine ⟨?_, ?_⟩
  · refine ⟨C, C, rfl, rfl, Nat.le_refl _, by omega, by omega, fun bz hbz => ?_⟩
    rw [hz]
    have sz := Sub.put hbz ⟨(rowL C fun _ => 0).map I64, true⟩
    have hI0 : IntS (put G bz ⟨(rowL C fun _ => 0).map I64, true⟩) (some ⟨bz, 0, none⟩) C (rowL C fun _ => 0) := by
      have := blk_ints (xs := rowL C fun _ => 0) (put_same G bz ⟨(rowL C fun _ => 0).map I64, true⟩)
      rwa [rowL_len] at this
    have hw1 := h.up sz
    have hO1 := hO.sub sz
    have kd1 := rd_sub (sz.del2 b) k10
    have hgt1 := hw1.get ht
    revert sz hI0 hw1 hO1 kd1 hgt1
    generalize put G bz ⟨(rowL C fun _ => 0).map I64, true⟩ = G1
    intro sz hI0 hw1 hO1 kd1 hgt1
    simp (maxSteps := 300000) (disch := omega) only [gws, ↓reduceIte, reduceEqDiff, reduceToNat, reduceMul, reduceAdd, Nat.reduceBEq, isLd, hgt1]
    refine impl_inverseOf_ok ⟨by omega, by omega⟩ ⟨by omega, by omega⟩ ?_
    simp (maxSteps := 300000) (disch := omega) only [gws, ↓reduceIte, reduceEqDiff, reduceToNat, reduceMul, reduceAdd, Nat.reduceBEq, isLd, hgt1]
    refine key G1 bz sz hI0 fun G2 A3 c3 hN => ?_
    simp (maxSteps := 300000) (disch := omega) only [gws, ↓reduceIte, reduceEqDiff, reduceToNat, reduceMul, reduceAdd, Nat.reduceBEq, isLd, e0]
    have hO2 := hO1.sub hN.sub
    have hZ1 : ∀ a, Ap = some a → ∃ e, G1 a.block = some e := fun a ha => by
      rcases hO1 with ⟨h0, _⟩ | ⟨x, r, h0, h1, _⟩
      · rw [h0] at ha; cases ha
      · rw [h0] at ha; cases ha; exact ⟨_, h1⟩
    refine (hw1.up hN.sub).st ht hda (New.del (xs := rowL C fun j => (g t j * invF (g t k) p) % p) (hN.cast rfl (rowL_len _ _).symm) hw1.blk hZ1) fun G3 hw3 hdel _ => ?_
    rw [← setr_scl] at hw3
    have kd3 : rd (del G3 b) (some ⟨b10, 0, none⟩) = some (.int .i64 (k : Int)) := by rw [hdel]; exact rd_sub (hN.sub.del2 b) kd1
    have hO3 : Own G3 Ap cq (piv.map I64) 1 piv.length := (hO2.del hda).sub (by rw [← hdel]; exact Gh.Sub.del _ _)
    have hZ3 : ∀ a, Ap = some a → ∃ e, (del G3 b) a.block = some e := fun a ha => by
      rcases hO3 with ⟨h0, _⟩ | ⟨x, r, h0, h1, _⟩
      · rw [h0] at ha; cases ha
      · have := hda a ha
        rw [h0] at ha; cases ha; exact ⟨_, by rw [del_ne _ this]; exact h1⟩
    simp (maxSteps := 300000) (disch := omega) only [gws, ↓reduceIte, reduceEqDiff, reduceToNat, reduceMul, reduceAdd, Nat.reduceBEq, isLd, e0]
    refine el_l0 (D := del G3 b) (cp := cp) (h := scl g t (invF (g t k) p) p) (t := t) (k := k) hw3.all hda hZ3 hR hC (hr.scl (by omega) _ _) hp ht hk kd3 (by simp (maxSteps := 300000) (disch := omega) only [gws, ↓reduceIte, reduceEqDiff, reduceToNat, reduceMul, reduceAdd, Nat.reduceBEq, isLd, e0]) (by simp (maxSteps := 300000) (disch := omega) only [gws, ↓reduceIte, reduceEqDiff, reduceToNat, reduceMul, reduceAdd, Nat.reduceBEq, isLd, e2]) (by simp (maxSteps := 300000) (disch := omega) only [gws, ↓reduceIte, reduceEqDiff, reduceToNat, reduceMul, reduceAdd, Nat.reduceBEq, isLd, e10]) (by simp (maxSteps := 300000) (disch := omega) only [gws, ↓reduceIte, reduceEqDiff, reduceToNat, reduceMul, reduceAdd, Nat.reduceBEq, isLd, e11]) (by simp (maxSteps := 300000) (disch := omega) only [gws, ↓reduceIte, reduceEqDiff, reduceToNat, reduceMul, reduceAdd, Nat.reduceBEq, isLd, e0]) (by simp (maxSteps := 300000) (disch := omega) only [gws, ↓reduceIte, reduceEqDiff, reduceToNat, reduceMul, reduceAdd, Nat.reduceBEq, isLd]) (by simp (maxSteps := 300000) (disch := omega) only [gws, ↓reduceIte, reduceEqDiff, reduceToNat, reduceMul, reduceAdd, Nat.reduceBEq, isLd] <;> rfl) fun T' G4 A' c' hT hw4 => ?_
    have hO4 : Own G4 Ap cq (piv.map I64) 1 piv.length := (hO3.del hda).sub hw4.sub
    have q4 := rd_sub hw4.sub kd3
    have f0 : T' 0 = .slice (some ⟨b, 0, none⟩) R cp := (hT 0 (by omega)).trans (by simp (maxSteps := 300000) (disch := omega) only [gws, ↓reduceIte, reduceEqDiff, reduceToNat, reduceMul, reduceAdd, Nat.reduceBEq, isLd, e0])
    have f1 : T' 1 = .int .i64 C := (hT 1 (by omega)).trans (by simp (maxSteps := 300000) (disch := omega) only [gws, ↓reduceIte, reduceEqDiff, reduceToNat, reduceMul, reduceAdd, Nat.reduceBEq, isLd, e1])
    have f2 : T' 2 = .int .i64 p := (hT 2 (by omega)).trans (by simp (maxSteps := 300000) (disch := omega) only [gws, ↓reduceIte, reduceEqDiff, reduceToNat, reduceMul, reduceAdd, Nat.reduceBEq, isLd, e2])
    have f8 : T' 8 = .slice Ap piv.length cq := (hT 8 (by omega)).trans (by simp (maxSteps := 300000) (disch := omega) only [gws, ↓reduceIte, reduceEqDiff, reduceToNat, reduceMul, reduceAdd, Nat.reduceBEq, isLd, e8])
    have f9 : T' 9 = .int .i64 (det * g t k % p) := (hT 9 (by omega)).trans (by simp (maxSteps := 300000) (disch := omega) only [gws, ↓reduceIte, reduceEqDiff, reduceToNat, reduceMul, reduceAdd, Nat.reduceBEq, isLd])
    have f10 : T' 10 = .pointer (some ⟨b10, 0, none⟩) := (hT 10 (by omega)).trans (by simp (maxSteps := 300000) (disch := omega) only [gws, ↓reduceIte, reduceEqDiff, reduceToNat, reduceMul, reduceAdd, Nat.reduceBEq, isLd, e10])
    have f16 : T' 16 = .int .i64 C := (hT 16 (by omega)).trans (by simp (maxSteps := 300000) (disch := omega) only [gws, ↓reduceIte, reduceEqDiff, reduceToNat, reduceMul, reduceAdd, Nat.reduceBEq, isLd, e16])
    have f17 : T' 17 = .int .i64 k := (hT 17 (by omega)).trans (by simp (maxSteps := 300000) (disch := omega) only [gws, ↓reduceIte, reduceEqDiff, reduceToNat, reduceMul, reduceAdd, Nat.reduceBEq, isLd, e17])
    clear hT
    have hwH : Rw H G4 b A' c' R C (clr (scl g t (invF (g t k) p) p) t k p) rest Ap := ⟨(hw3.sub.in_del hw3.nb).trans hw4.sub, hw3.nb, hw4.blk, hw4.row⟩
    simp (maxSteps := 300000) (disch := omega) only [gws, ↓reduceIte, reduceEqDiff, reduceToNat, reduceMul, reduceAdd, Nat.reduceBEq, isLd, f0, f1, f2, f8, f9, f10, f16, f17, q4, gBs]
    refine ⟨by intro v hv; simp at hv; subst hv; rfl, fun b15 hb15 => ?_⟩
    refine ap_own (hO4.sub (Sub.put hb15 _)) (cells_one [.int .i64 (k : Int)] true) rfl (by intro v hv; simp at hv; subst hv; rfl) rfl (by omega) (by omega) (by omega) fun G5 A5 c5 hO5 keep => ?_
    obtain ⟨s5, o5⟩ := keep _ (Sub.wo _ _) (Off.wo _ _)
    obtain ⟨hw5, oH5, d5⟩ := (hwH.up (Sub.put hb15 _)).rez hda hOf s5 o5
    simp (maxSteps := 300000) (disch := omega) only [gws, ↓reduceIte, reduceEqDiff, reduceToNat, reduceMul, reduceAdd, Nat.reduceBEq, isLd, f0, f1, f2, f8, f9, f10, f16, f17]
    exact hQ _ _ A' c' A5 c5 (by simp (maxSteps := 300000) (disch := omega) only [gws, ↓reduceIte, reduceEqDiff, reduceToNat, reduceMul, reduceAdd, Nat.reduceBEq, isLd, f0]) (by simp (maxSteps := 300000) (disch := omega) only [gws, ↓reduceIte, reduceEqDiff, reduceToNat, reduceMul, reduceAdd, Nat.reduceBEq, isLd, f1]) (by simp (maxSteps := 300000) (disch := omega) only [gws, ↓reduceIte, reduceEqDiff, reduceToNat, reduceMul, reduceAdd, Nat.reduceBEq, isLd, f2]) (by simp (maxSteps := 300000) (disch := omega) only [gws, ↓reduceIte, reduceEqDiff, reduceToNat, reduceMul, reduceAdd, Nat.reduceBEq, isLd]) (by simp (maxSteps := 300000) (disch := omega) only [gws, ↓reduceIte, reduceEqDiff, reduceToNat, reduceMul, reduceAdd, Nat.reduceBEq, isLd, f9]) (by simp (maxSteps := 300000) (disch := omega) only [gws, ↓reduceIte, reduceEqDiff, reduceToNat, reduceMul, reduceAdd, Nat.reduceBEq, isLd, f16]) (by simp (maxSteps := 300000) (disch := omega) only [gws, ↓reduceIte, reduceEqDiff, reduceToNat, reduceMul, reduceAdd, Nat.reduceBEq, isLd, f17]) hw5 (hO5.cast (by simp [I64]) rfl) oH5 d5
  · refine impl_inverseOf_ok ⟨by omega, by omega⟩ ⟨by omega, by omega⟩ ?_
    simp (maxSteps := 300000) (disch := omega) only [gws, ↓reduceIte, reduceEqDiff, reduceToNat, reduceMul, reduceAdd, Nat.reduceBEq, isLd, hgt]
    refine ⟨C, C, rfl, rfl, Nat.le_refl _, by omega, by omega, fun bz hbz => ?_⟩
    rw [hz]
    have sz := Sub.put hbz ⟨(rowL C fun _ => 0).map I64, true⟩
    have hI0 : IntS (put G bz ⟨(rowL C fun _ => 0).map I64, true⟩) (some ⟨bz, 0, none⟩) C (rowL C fun _ => 0) := by
      have := blk_ints (xs := rowL C fun _ => 0) (put_same G bz ⟨(rowL C fun _ => 0).map I64, true⟩)
      rwa [rowL_len] at this
    have hw1 := h.up sz
    have hO1 := hO.sub sz
    have kd1 := rd_sub (sz.del2 b) k10
    have hgt1 := hw1.get ht
    revert sz hI0 hw1 hO1 kd1 hgt1
    generalize put G bz ⟨(rowL C fun _ => 0).map I64, true⟩ = G1
    intro sz hI0 hw1 hO1 kd1 hgt1
    simp (maxSteps := 300000) (disch := omega) only [gws, ↓reduceIte, reduceEqDiff, reduceToNat, reduceMul, reduceAdd, Nat.reduceBEq, isLd, hgt1]
    refine key G1 bz sz hI0 fun G2 A3 c3 hN => ?_
    simp (maxSteps := 300000) (disch := omega) only [gws, ↓reduceIte, reduceEqDiff, reduceToNat, reduceMul, reduceAdd, Nat.reduceBEq, isLd, e0]
    have hO2 := hO1.sub hN.sub
    have hZ1 : ∀ a, Ap = some a → ∃ e, G1 a.block = some e := fun a ha => by
      rcases hO1 with ⟨h0, _⟩ | ⟨x, r, h0, h1, _⟩
      · rw [h0] at ha; cases ha
      · rw [h0] at ha; cases ha; exact ⟨_, h1⟩
    refine (hw1.up hN.sub).st ht hda (New.del (xs := rowL C fun j => (g t j * invF (g t k) p) % p) (hN.cast rfl (rowL_len _ _).symm) hw1.blk hZ1) fun G3 hw3 hdel _ => ?_
    rw [← setr_scl] at hw3
    have kd3 : rd (del G3 b) (some ⟨b10, 0, none⟩) = some (.int .i64 (k : Int)) := by rw [hdel]; exact rd_sub (hN.sub.del2 b) kd1
    have hO3 : Own G3 Ap cq (piv.map I64) 1 piv.length := (hO2.del hda).sub (by rw [← hdel]; exact Gh.Sub.del _ _)
    have hZ3 : ∀ a, Ap = some a → ∃ e, (del G3 b) a.block = some e := fun a ha => by
      rcases hO3 with ⟨h0, _⟩ | ⟨x, r, h0, h1, _⟩
      · rw [h0] at ha; cases ha
      · have := hda a ha
        rw [h0] at ha; cases ha; exact ⟨_, by rw [del_ne _ this]; exact h1⟩
    simp (maxSteps := 300000) (disch := omega) only [gws, ↓reduceIte, reduceEqDiff, reduceToNat, reduceMul, reduceAdd, Nat.reduceBEq, isLd, e0]
    refine el_l0 (D := del G3 b) (cp := cp) (h := scl g t (invF (g t k) p) p) (t := t) (k := k) hw3.all hda hZ3 hR hC (hr.scl (by omega) _ _) hp ht hk kd3 (by simp (maxSteps := 300000) (disch := omega) only [gws, ↓reduceIte, reduceEqDiff, reduceToNat, reduceMul, reduceAdd, Nat.reduceBEq, isLd, e0]) (by simp (maxSteps := 300000) (disch := omega) only [gws, ↓reduceIte, reduceEqDiff, reduceToNat, reduceMul, reduceAdd, Nat.reduceBEq, isLd, e2]) (by simp (maxSteps := 300000) (disch := omega) only [gws, ↓reduceIte, reduceEqDiff, reduceToNat, reduceMul, reduceAdd, Nat.reduceBEq, isLd, e10]) (by simp (maxSteps := 300000) (disch := omega) only [gws, ↓reduceIte, reduceEqDiff, reduceToNat, reduceMul, reduceAdd, Nat.reduceBEq, isLd, e11]) (by simp (maxSteps := 300000) (disch := omega) only [gws, ↓reduceIte, reduceEqDiff, reduceToNat, reduceMul, reduceAdd, Nat.reduceBEq, isLd, e0]) (by simp (maxSteps := 300000) (disch := omega) only [gws, ↓reduceIte, reduceEqDiff, reduceToNat, reduceMul, reduceAdd, Nat.reduceBEq, isLd]) (by simp (maxSteps := 300000) (disch := omega) only [gws, ↓reduceIte, reduceEqDiff, reduceToNat, reduceMul, reduceAdd, Nat.reduceBEq, isLd] <;> rfl) fun T' G4 A' c' hT hw4 => ?_
    have hO4 : Own G4 Ap cq (piv.map I64) 1 piv.length := (hO3.del hda).sub hw4.sub
    have q4 := rd_sub hw4.sub kd3
    have f0 : T' 0 = .slice (some ⟨b, 0, none⟩) R cp := (hT 0 (by omega)).trans (by simp (maxSteps := 300000) (disch := omega) only [gws, ↓reduceIte, reduceEqDiff, reduceToNat, reduceMul, reduceAdd, Nat.reduceBEq, isLd, e0])
    have f1 : T' 1 = .int .i64 C := (hT 1 (by omega)).trans (by simp (maxSteps := 300000) (disch := omega) only [gws, ↓reduceIte, reduceEqDiff, reduceToNat, reduceMul, reduceAdd, Nat.reduceBEq, isLd, e1])
    have f2 : T' 2 = .int .i64 p := (hT 2 (by omega)).trans (by simp (maxSteps := 300000) (disch := omega) only [gws, ↓reduceIte, reduceEqDiff, reduceToNat, reduceMul, reduceAdd, Nat.reduceBEq, isLd, e2])
    have f8 : T' 8 = .slice Ap piv.length cq := (hT 8 (by omega)).trans (by simp (maxSteps := 300000) (disch := omega) only [gws, ↓reduceIte, reduceEqDiff, reduceToNat, reduceMul, reduceAdd, Nat.reduceBEq, isLd, e8])
    have f9 : T' 9 = .int .i64 (det * g t k % p) := (hT 9 (by omega)).trans (by simp (maxSteps := 300000) (disch := omega) only [gws, ↓reduceIte, reduceEqDiff, reduceToNat, reduceMul, reduceAdd, Nat.reduceBEq, isLd])
    have f10 : T' 10 = .pointer (some ⟨b10, 0, none⟩) := (hT 10 (by omega)).trans (by simp (maxSteps := 300000) (disch := omega) only [gws, ↓reduceIte, reduceEqDiff, reduceToNat, reduceMul, reduceAdd, Nat.reduceBEq, isLd, e10])
    have f16 : T' 16 = .int .i64 C := (hT 16 (by omega)).trans (by simp (maxSteps := 300000) (disch := omega) only [gws, ↓reduceIte, reduceEqDiff, reduceToNat, reduceMul, reduceAdd, Nat.reduceBEq, isLd, e16])
    have f17 : T' 17 = .int .i64 k := (hT 17 (by omega)).trans (by simp (maxSteps := 300000) (disch := omega) only [gws, ↓reduceIte, reduceEqDiff, reduceToNat, reduceMul, reduceAdd, Nat.reduceBEq, isLd, e17])
    clear hT
    have hwH : Rw H G4 b A' c' R C (clr (scl g t (invF (g t k) p) p) t k p) rest Ap := ⟨(hw3.sub.in_del hw3.nb).trans hw4.sub, hw3.nb, hw4.blk, hw4.row⟩
    simp (maxSteps := 300000) (disch := omega) only [gws, ↓reduceIte, reduceEqDiff, reduceToNat, reduceMul, reduceAdd, Nat.reduceBEq, isLd, f0, f1, f2, f8, f9, f10, f16, f17, q4, gBs]
    refine ⟨by intro v hv; simp at hv; subst hv; rfl, fun b15 hb15 => ?_⟩
    refine ap_own (hO4.sub (Sub.put hb15 _)) (cells_one [.int .i64 (k : Int)] true) rfl (by intro v hv; simp at hv; subst hv; rfl) rfl (by omega) (by omega) (by omega) fun G5 A5 c5 hO5 keep => ?_
    obtain ⟨s5, o5⟩ := keep _ (Sub.wo _ _) (Off.wo _ _)
    obtain ⟨hw5, oH5, d5⟩ := (hwH.up (Sub.put hb15 _)).rez hda hOf s5 o5
    simp (maxSteps := 300000) (disch := omega) only [gws, ↓reduceIte, reduceEqDiff, reduceToNat, reduceMul, reduceAdd, Nat.reduceBEq, isLd, f0, f1, f2, f8, f9, f10, f16, f17]
    exact hQ _ _ A' c' A5 c5 (by simp (maxSteps := 300000) (disch := omega) only [gws, ↓reduceIte, reduceEqDiff, reduceToNat, reduceMul, reduceAdd, Nat.reduceBEq, isLd, f0]) (by simp (maxSteps := 300000) (disch := omega) only [gws, ↓reduceIte, reduceEqDiff, reduceToNat, reduceMul, reduceAdd, Nat.reduceBEq, isLd, f1]) (by simp (maxSteps := 300000) (disch := omega) only [gws, ↓reduceIte, reduceEqDiff, reduceToNat, reduceMul, reduceAdd, Nat.reduceBEq, isLd, f2]) (by simp (maxSteps := 300000) (disch := omega) only [gws, ↓reduceIte, reduceEqDiff, reduceToNat, reduceMul, reduceAdd, Nat.reduceBEq, isLd]) (by simp (maxSteps := 300000) (disch := omega) only [gws, ↓reduceIte, reduceEqDiff, reduceToNat, reduceMul, reduceAdd, Nat.reduceBEq, isLd, f9]) (by simp (maxSteps := 300000) (disch := omega) only [gws, ↓reduceIte, reduceEqDiff, reduceToNat, reduceMul, reduceAdd, Nat.reduceBEq, isLd, f16]) (by simp (maxSteps := 300000) (disch := omega) only [gws, ↓reduceIte, reduceEqDiff, reduceToNat, reduceMul, reduceAdd, Nat.reduceBEq, isLd, f17]) hw5 (hO5.cast (by simp [I64]) rfl) oH5 d5
abbrev elSwap : GCode := .seq (.reg k89) (.cond (tt 30) (.seq (.dreg k8a) (.reg k8b)) .skip)
theorem el_swap {H G : GH} {b b10 cp cq t i k : Nat} {A : Nat → Option Addr} {c : Nat → Nat} {Ap : Option Addr} {R C n : Nat} {f : Int → Int → Int} {rest : List Value} {p det : Int} {cs : List Value} {T : Nat → Value} {Q : Cont} {X : GCode} (h : Rw H G b A c R C f rest Ap) (hR : R < 2 ^ 10) (hp : 1 < p ∧ p ≤ 2 ^ 30)
    (ht : t ≤ i) (hi : i < R) (hd : 0 ≤ det ∧ det < p) (k10 : rd (del G b) (some ⟨b10, 0, none⟩) = some (.int .i64 (k : Int))) (hO : Own G Ap cq cs 1 n) (hda : ∀ a, Ap = some a → a.block ≠ b)
    (e0 : T 0 = .slice (some ⟨b, 0, none⟩) R cp) (e1 : T 1 = .int .i64 C) (e2 : T 2 = .int .i64 p) (e8 : T 8 = .slice Ap n cq) (e9 : T 9 = .int .i64 det) (e10 : T 10 = .pointer (some ⟨b10, 0, none⟩)) (e11 : T 11 = .int .i64 t) (e12 : T 12 = .int .i64 ((i - t : Nat) : Int)) (e16 : T 16 = .int .i64 C) (e17 : T 17 = .int .i64 k)
    (hX : ∀ T' G' A' c', T' 0 = .slice (some ⟨b, 0, none⟩) R cp → T' 1 = .int .i64 C → T' 2 = .int .i64 p → T' 8 = .slice Ap n cq → T' 9 = .int .i64 (if i = t then det else (-det) % p) → T' 10 = .pointer (some ⟨b10, 0, none⟩) → T' 11 = .int .i64 t → T' 16 = .int .i64 C → T' 17 = .int .i64 k →
      Rw H G' b A' c' R C (swp f t i) rest Ap → Own G' Ap cq cs 1 n → rd (del G' b) (some ⟨b10, 0, none⟩) = some (.int .i64 (k : Int)) → gW Tryz.prog X Q T' G') : gW Tryz.prog (.seq elSwap X) Q T G := by
  simp (maxSteps := 300000) (disch := omega) only [gws, ↓reduceIte, reduceEqDiff, reduceToNat, reduceMul, reduceAdd, Nat.reduceBEq, isLd, e12]
  by_cases hit : i = t
  · subst hit
    simp (maxSteps := 300000) (disch := omega) only [gws, ↓reduceIte, reduceEqDiff, reduceToNat, reduceMul, reduceAdd, Nat.reduceBEq, isLd, show ((0 : Int) < ((i - i : Nat) : Int)) = False from eq_false (by omega)]
    exact hX _ G A c (by simp (maxSteps := 300000) (disch := omega) only [gws, ↓reduceIte, reduceEqDiff, reduceToNat, reduceMul, reduceAdd, Nat.reduceBEq, isLd, e0]) (by simp (maxSteps := 300000) (disch := omega) only [gws, ↓reduceIte, reduceEqDiff, reduceToNat, reduceMul, reduceAdd, Nat.reduceBEq, isLd, e1]) (by simp (maxSteps := 300000) (disch := omega) only [gws, ↓reduceIte, reduceEqDiff, reduceToNat, reduceMul, reduceAdd, Nat.reduceBEq, isLd, e2]) (by simp (maxSteps := 300000) (disch := omega) only [gws, ↓reduceIte, reduceEqDiff, reduceToNat, reduceMul, reduceAdd, Nat.reduceBEq, isLd, e8]) (by simp (maxSteps := 300000) (disch := omega) only [gws, ↓reduceIte, reduceEqDiff, reduceToNat, reduceMul, reduceAdd, Nat.reduceBEq, isLd, e9]) (by simp (maxSteps := 300000) (disch := omega) only [gws, ↓reduceIte, reduceEqDiff, reduceToNat, reduceMul, reduceAdd, Nat.reduceBEq, isLd, e10]) (by simp (maxSteps := 300000) (disch := omega) only [gws, ↓reduceIte, reduceEqDiff, reduceToNat, reduceMul, reduceAdd, Nat.reduceBEq, isLd, e11]) (by simp (maxSteps := 300000) (disch := omega) only [gws, ↓reduceIte, reduceEqDiff, reduceToNat, reduceMul, reduceAdd, Nat.reduceBEq, isLd, e16]) (by simp (maxSteps := 300000) (disch := omega) only [gws, ↓reduceIte, reduceEqDiff, reduceToNat, reduceMul, reduceAdd, Nat.reduceBEq, isLd, e17]) (h.cong fun a j _ _ => by unfold swp; by_cases e : (a : Int) = i <;> simp [e]) hO k10
  have hgt := h.get (show t < R by omega)
  have hgi := h.get hi
  have hti : (t : Int) + ((i - t : Nat) : Int) = i := by omega
  simp (maxSteps := 300000) (disch := omega) only [gws, ↓reduceIte, reduceEqDiff, reduceToNat, reduceMul, reduceAdd, Nat.reduceBEq, isLd, show ((0 : Int) < ((i - t : Nat) : Int)) = True from eq_true (by omega), e0, e11, e12, hgt, hgi, hti]
  refine h.st (i := t) (by omega) hda (h.row i hi) fun G1 h1 hd1 hd2 => ?_
  simp (maxSteps := 300000) (disch := omega) only [gws, ↓reduceIte, reduceEqDiff, reduceToNat, reduceMul, reduceAdd, Nat.reduceBEq, isLd, e0, e11, e12, hti]
  refine h1.st hi hda (by rw [hd2]; exact h.row t (by omega)) fun G2 h2 hd3 _ => ?_
  have hO2 : Own G2 Ap cq cs 1 n := (hO.del hda).sub (by rw [← hd1, ← hd3]; exact Gh.Sub.del _ _)
  have k2 : rd (del G2 b) (some ⟨b10, 0, none⟩) = some (.int .i64 (k : Int)) := by rw [hd3, hd1]; exact k10
  simp (maxSteps := 300000) (disch := omega) only [gws, ↓reduceIte, reduceEqDiff, reduceToNat, reduceMul, reduceAdd, Nat.reduceBEq, isLd, e0, e1, e2, e8, e9, e10, e11, e16, e17]
  refine impl_reduce_ok ⟨by omega, by omega⟩ ?_
  simp (maxSteps := 300000) (disch := omega) only [gws, ↓reduceIte, reduceEqDiff, reduceToNat, reduceMul, reduceAdd, Nat.reduceBEq, isLd, e0, e1, e2, e8, e9, e10, e11, e16, e17]
  refine hX _ G2 _ _ (by simp (maxSteps := 300000) (disch := omega) only [gws, ↓reduceIte, reduceEqDiff, reduceToNat, reduceMul, reduceAdd, Nat.reduceBEq, isLd, e0]) (by simp (maxSteps := 300000) (disch := omega) only [gws, ↓reduceIte, reduceEqDiff, reduceToNat, reduceMul, reduceAdd, Nat.reduceBEq, isLd, e1]) (by simp (maxSteps := 300000) (disch := omega) only [gws, ↓reduceIte, reduceEqDiff, reduceToNat, reduceMul, reduceAdd, Nat.reduceBEq, isLd, e2]) (by simp (maxSteps := 300000) (disch := omega) only [gws, ↓reduceIte, reduceEqDiff, reduceToNat, reduceMul, reduceAdd, Nat.reduceBEq, isLd, e8]) (by simp (maxSteps := 300000) (disch := omega) only [gws, ↓reduceIte, reduceEqDiff, reduceToNat, reduceMul, reduceAdd, Nat.reduceBEq, isLd, if_neg hit]; rw [Int.zero_sub]) (by simp (maxSteps := 300000) (disch := omega) only [gws, ↓reduceIte, reduceEqDiff, reduceToNat, reduceMul, reduceAdd, Nat.reduceBEq, isLd, e10]) (by simp (maxSteps := 300000) (disch := omega) only [gws, ↓reduceIte, reduceEqDiff, reduceToNat, reduceMul, reduceAdd, Nat.reduceBEq, isLd, e11]) (by simp (maxSteps := 300000) (disch := omega) only [gws, ↓reduceIte, reduceEqDiff, reduceToNat, reduceMul, reduceAdd, Nat.reduceBEq, isLd, e16]) (by simp (maxSteps := 300000) (disch := omega) only [gws, ↓reduceIte, reduceEqDiff, reduceToNat, reduceMul, reduceAdd, Nat.reduceBEq, isLd, e17]) (h2.cong fun a j _ _ => ?_) hO2 k2
  unfold setr swp
  by_cases e1 : (a : Int) = i
  · rw [if_pos e1, if_neg (by omega), if_pos e1]
  · by_cases e2 : (a : Int) = t
    · rw [if_neg e1, if_pos e2, if_pos e2]
    · rw [if_neg e1, if_neg e2, if_neg e2, if_neg e1]
theorem impl_eliminate_ok {H G : GH} {b cp : Nat} {A : Nat → Option Addr} {c : Nat → Nat} {R C : Nat} {f : Int → Int → Int} {rest : List Value} {p : Int} (h : Rw H G b A c R C f rest none) (hcp : R ≤ cp) (hR : R < 2 ^ 10) (hC : C < 2 ^ 10) (hr : Rng f p) (hp : 1 < p ∧ p ≤ 2 ^ 30) {K : Value → GH → Prop}
    (hk : ∀ G' A' c' Ap cq, Rw H G' b A' c' R C (elF p R f C).f rest Ap → IntS G' Ap cq (elF p R f C).piv → K (.tuple [.slice Ap (elF p R f C).piv.length cq, .int .i64 (elF p R f C).det].toArray) G') :
    GC Tryz.prog 166 [.slice (some ⟨b, 0, none⟩) R cp, .int .i64 C, .int .i64 p] G K := by
  refine k8s (by simp) ?_
  simp (maxSteps := 300000) (disch := omega) only [gws, ↓reduceIte, reduceEqDiff, reduceToNat, reduceMul, reduceAdd, Nat.reduceBEq, isLd]
  refine gLoop_intro (fun m T G' => ∃ (k : Nat) (A' : Nat → Option Addr) (c' : Nat → Nat) (Ap : Option Addr) (cq : Nat), T 0 = .slice (some ⟨b, 0, none⟩) R cp ∧ T 1 = .int .i64 C ∧ T 2 = .int .i64 p ∧ T 8 = .slice Ap (elF p R f k).piv.length cq ∧ T 9 = .int .i64 (elF p R f k).det ∧ T 16 = .int .i64 C ∧ T 17 = .int .i64 k ∧ m + k = C ∧ k ≤ C ∧
      Rw H G' b A' c' R C (elF p R f k).f rest Ap ∧ Own G' Ap cq ((elF p R f k).piv.map I64) 1 (elF p R f k).piv.length ∧ Off H Ap ∧ ∀ a, Ap = some a → a.block ≠ b)
    C ⟨0, A, c, none, 0, by simp (maxSteps := 300000) (disch := omega) only [gws, ↓reduceIte, reduceEqDiff, reduceToNat, reduceMul, reduceAdd, Nat.reduceBEq, isLd], by simp (maxSteps := 300000) (disch := omega) only [gws, ↓reduceIte, reduceEqDiff, reduceToNat, reduceMul, reduceAdd, Nat.reduceBEq, isLd], by simp (maxSteps := 300000) (disch := omega) only [gws, ↓reduceIte, reduceEqDiff, reduceToNat, reduceMul, reduceAdd, Nat.reduceBEq, isLd], by simp (maxSteps := 300000) (disch := omega) only [gws, ↓reduceIte, reduceEqDiff, reduceToNat, reduceMul, reduceAdd, Nat.reduceBEq, isLd] <;> rfl, by simp (maxSteps := 300000) (disch := omega) only [gws, ↓reduceIte, reduceEqDiff, reduceToNat, reduceMul, reduceAdd, Nat.reduceBEq, isLd] <;> rfl, by simp (maxSteps := 300000) (disch := omega) only [gws, ↓reduceIte, reduceEqDiff, reduceToNat, reduceMul, reduceAdd, Nat.reduceBEq, isLd], by simp (maxSteps := 300000) (disch := omega) only [gws, ↓reduceIte, reduceEqDiff, reduceToNat, reduceMul, reduceAdd, Nat.reduceBEq, isLd] <;> rfl, by omega, by omega, h, Own.nil _ _, Off.nil _, fun a ha => by cases ha⟩ ?_
  rintro m T G' ⟨k, A', c', Ap, cq, e0, e1, e2, e8, e9, e16, e17, hm, hkm, hw, hO, hOf, hda⟩
  have hrg := elF_rng (R := R) (by omega : 0 < p) hr k
  have hln := elF_len p R f k
  have hdt := elF_det hp.1 R f k
  have hstep : elF p R f (k + 1) = elS p R (elF p R f k) k := rfl
  simp (maxSteps := 300000) (disch := omega) only [gws, ↓reduceIte, reduceEqDiff, reduceToNat, reduceMul, reduceAdd, Nat.reduceBEq, isLd, e0, e1, e2, e8, e9, e16, e17]
  by_cases hkk : (k : Int) < C
  rotate_left
  · simp (maxSteps := 300000) (disch := omega) only [gws, ↓reduceIte, reduceEqDiff, reduceToNat, reduceMul, reduceAdd, Nat.reduceBEq, isLd, e0, e1, e2, e8, e9, e16, e17, hkk]
    obtain rfl : k = C := by omega
    exact hk _ _ _ _ _ hw hO.ints
  generalize elF p R f k = S at *
  simp (maxSteps := 300000) (disch := omega) only [gws, ↓reduceIte, reduceEqDiff, reduceToNat, reduceMul, reduceAdd, Nat.reduceBEq, isLd, e0, e1, e2, e8, e9, e16, e17, hkk]
  intro b10 hb10
  simp (maxSteps := 300000) (disch := omega) only [gws, ↓reduceIte, reduceEqDiff, reduceToNat, reduceMul, reduceAdd, Nat.reduceBEq, isLd, e0, e1, e2, e8, e9, e16, e17]
  refine st_one (put_same _ _ _) (by simp) rfl ?_
  rw [put_put', show List.set [Value.int .i64 0] 0 (.int .i64 (k : Int)) = [.int .i64 (k : Int)] from rfl]
  have s10 := Sub.put hb10 ⟨[.int .i64 (k : Int)], true⟩
  have k10 : rd (put G' b10 ⟨[.int .i64 (k : Int)], true⟩) (some ⟨b10, 0, none⟩) = some (.int .i64 (k : Int)) := rd_box _ _ _ 0 _ rfl
  have n10 : b10 ≠ b := (blk_ne hw.blk hb10).symm
  have hw := hw.up s10
  have hO := hO.sub s10
  have kd : rd (del (put G' b10 ⟨[.int .i64 (k : Int)], true⟩) b) (some ⟨b10, 0, none⟩) = some (.int .i64 (k : Int)) := by
    simp only [rd]; rw [del_ne _ n10, put_same]; rfl
  revert k10 hw hO kd
  generalize put G' b10 ⟨[.int .i64 (k : Int)], true⟩ = G2
  intro k10 hw hO kd
  simp (maxSteps := 300000) (disch := omega) only [gws, ↓reduceIte, reduceEqDiff, reduceToNat, reduceMul, reduceAdd, Nat.reduceBEq, isLd, e0, e1, e2, e8, e9, e16, e17, k10, Option.map_none, sl_top hln.1 hcp]
  obtain ⟨Y, d', hY, hYe⟩ : ∃ Y d', (if cp = S.piv.length then Value.slice (some ⟨b, 0, none⟩) (R - S.piv.length) (cp - S.piv.length) else Value.slice (some ⟨b, S.piv.length, none⟩) (R - S.piv.length) (cp - S.piv.length)) = .slice Y (R - S.piv.length) d' ∧ (S.piv.length < R → Y = some ⟨b, S.piv.length, none⟩) := by
    by_cases e : cp = S.piv.length
    · exact ⟨_, _, if_pos e, fun x => by omega⟩
    · exact ⟨_, _, if_neg e, fun _ => rfl⟩
  rw [hY]
  refine slices_IndexFuncS_ok (col := (k : Int)) hw hYe hln.1 (by omega) (fun i hi K' hK' => ?_) (fun hno => ?_) fun i hi1 hi2 hi3 hi4 => ?_
  · simp (maxSteps := 300000) (disch := omega) only [gws, ↓reduceIte, reduceEqDiff, reduceToNat, reduceMul, reduceAdd, Nat.reduceBEq, isLd]
    refine k8x (by simp) ?_
    have hc := hw.cell hi (j := k) (by omega)
    have hs := hw.sn hi (by omega)
    simp (maxSteps := 300000) (disch := omega) only [gws, ↓reduceIte, reduceEqDiff, reduceToNat, reduceMul, reduceAdd, Nat.reduceBEq, isLd, k10, hc]
    exact hK'
  · simp (maxSteps := 300000) (disch := omega) only [gws, ↓reduceIte, reduceEqDiff, reduceToNat, reduceMul, reduceAdd, Nat.reduceBEq, isLd, e0, e1, e2, e8, e9, e16, e17, show ((-1 : Int) < 0) = True from eq_true (by omega)]
    have hS : elS p R S k = ⟨S.f, S.piv, 0⟩ := by unfold elS; rw [fstRow_none hno]
    rw [hS] at hstep
    refine ⟨m - 1, by omega, G2, Sub.refl _, k + 1, A', c', Ap, cq, by rw [hstep], by rw [hstep], rfl, by omega, by omega, by rw [hstep]; exact hw, by rw [hstep]; exact hO, hOf, hda⟩
  · have hS : elS p R S k = ⟨clr (scl (swp S.f S.piv.length i) S.piv.length (invF (swp S.f S.piv.length i S.piv.length k) p) p) S.piv.length k p, S.piv ++ [(k : Int)], (if i = S.piv.length then S.det else (-S.det) % p) * swp S.f S.piv.length i S.piv.length k % p⟩ := by unfold elS; rw [fstRow_some hi1 hi2 hi3 hi4]
    rw [hS] at hstep
    have hsw : swp S.f S.piv.length i S.piv.length = S.f i := by unfold swp; rw [if_pos rfl]
    simp (maxSteps := 300000) (disch := omega) only [gws, ↓reduceIte, reduceEqDiff, reduceToNat, reduceMul, reduceAdd, Nat.reduceBEq, isLd, e0, e1, e2, e8, e9, e16, e17]
    rw [decide_eq_false (show ¬ ((i - S.piv.length : Nat) : Int) < 0 by omega)]
    refine el_swap (X := elTail) (cp := cp) (k := k) (t := S.piv.length) (i := i) hw hR hp hi1 hi2 hdt kd hO hda (by simp (maxSteps := 300000) (disch := omega) only [gws, ↓reduceIte, reduceEqDiff, reduceToNat, reduceMul, reduceAdd, Nat.reduceBEq, isLd, e0]) (by simp (maxSteps := 300000) (disch := omega) only [gws, ↓reduceIte, reduceEqDiff, reduceToNat, reduceMul, reduceAdd, Nat.reduceBEq, isLd, e1]) (by simp (maxSteps := 300000) (disch := omega) only [gws, ↓reduceIte, reduceEqDiff, reduceToNat, reduceMul, reduceAdd, Nat.reduceBEq, isLd, e2]) (by simp (maxSteps := 300000) (disch := omega) only [gws, ↓reduceIte, reduceEqDiff, reduceToNat, reduceMul, reduceAdd, Nat.reduceBEq, isLd, e8]) (by simp (maxSteps := 300000) (disch := omega) only [gws, ↓reduceIte, reduceEqDiff, reduceToNat, reduceMul, reduceAdd, Nat.reduceBEq, isLd, e9]) (by simp (maxSteps := 300000) (disch := omega) only [gws, ↓reduceIte, reduceEqDiff, reduceToNat, reduceMul, reduceAdd, Nat.reduceBEq, isLd]) (by simp (maxSteps := 300000) (disch := omega) only [gws, ↓reduceIte, reduceEqDiff, reduceToNat, reduceMul, reduceAdd, Nat.reduceBEq, isLd]) (by simp (maxSteps := 300000) (disch := omega) only [gws, ↓reduceIte, reduceEqDiff, reduceToNat, reduceMul, reduceAdd, Nat.reduceBEq, isLd]) (by simp (maxSteps := 300000) (disch := omega) only [gws, ↓reduceIte, reduceEqDiff, reduceToNat, reduceMul, reduceAdd, Nat.reduceBEq, isLd, e16]) (by simp (maxSteps := 300000) (disch := omega) only [gws, ↓reduceIte, reduceEqDiff, reduceToNat, reduceMul, reduceAdd, Nat.reduceBEq, isLd, e17]) fun T2 G3 A3 c3 f0 f1 f2 f8 f9 f10 f11 f16 f17 hw3 hO3 kd3 => ?_
    have hd3 : 0 ≤ (if i = S.piv.length then S.det else (-S.det) % p) ∧ (if i = S.piv.length then S.det else (-S.det) % p) < p := by
      split
      · exact hdt
      · exact ⟨Int.emod_nonneg _ (by omega), Int.emod_lt_of_pos _ (by omega)⟩
    refine el_tail (cp := cp) (k := k) (t := S.piv.length) (g := swp S.f S.piv.length i) hw3 hR hC (hrg.swp _ _) hp (by omega) (by omega) hd3 (by rw [hsw]; exact hi3) kd3 hO3 hOf hda (by omega) f0 f1 f2 f8 f9 f10 f11 f16 f17 fun T4 G4 A4 c4 Ap4 cq4 g0 g1 g2 g8 g9 g16 g17 hw4 hO4 oH4 d4 => ?_
    simp (maxSteps := 300000) (disch := omega) only [gws, ↓reduceIte, reduceEqDiff, reduceToNat, reduceMul, reduceAdd, Nat.reduceBEq, isLd, g0, g1, g2, g8, g9, g16, g17]
    refine ⟨m - 1, by omega, G4, Sub.refl _, k + 1, A4, c4, Ap4, cq4, ?_, ?_, rfl, by omega, by omega, by rw [hstep]; exact hw4, ?_, oH4, d4⟩
    · rw [hstep]; simp
    · rw [hstep]
    · rw [hstep]; exact hO4.cast rfl (by simp)
theorem swp_self (f : Int → Int → Int) (a : Int) : swp f a a = f := by
  funext i; unfold swp
  by_cases h : i = a
  · rw [if_pos h, h]
  · rw [if_neg h, if_neg h]
def ch : Nat → Nat → Nat
  | _, 0 => 1
  | 0, _ + 1 => 0
  | n + 1, k + 1 => ch n k + ch n (k + 1)
theorem Own.ne {G : GH} {A : Option Addr} {c sz n x : Nat} {cs : List Value} (h : Own G A c cs sz n) (hx : G x = none) : ∀ a, A = some a → a.block ≠ x := fun a ha e => by
  rcases h with ⟨h1, _⟩ | ⟨y, r, h1, h2, _⟩
  · rw [h1] at ha; cases ha
  · rw [h1] at ha; cases ha
    dsimp only at e
    rw [e, hx] at h2; cases h2
theorem Own.put {G : GH} {A : Option Addr} {c sz n b : Nat} {cs : List Value} (h : Own G A c cs sz n) (hne : ∀ a, A = some a → a.block ≠ b) (e : Ent) : Own (Gh.put G b e) A c cs sz n := by
  rcases h with h | ⟨b', r, h1, h2, h3⟩
  · exact .inl h
  · exact .inr ⟨b', r, h1, by rw [put_ne _ _ (hne _ h1)]; exact h2, h3⟩
theorem flat3_app (L : List T3) (e : T3) : flat3 (L ++ [e]) = flat3 L ++ c3 e := by unfold flat3; rw [List.flatMap_append]; simp
/-- the nodes that are kept, and the rows and columns of these. -/
def keep (n : Nat) (om : List Int) : List Int := (iota n).filter fun v => !om.contains v
def sub (ks : List Int) (f : Int → Int → Int) : Int → Int → Int := fun i j => f (ks.getD i.toNat 0) (ks.getD j.toNat 0)
theorem New.wo {G G' : GH} {A Z : Option Addr} {c : Nat} {xs : List Int} (h : New G G' A c (xs.map I64) 1 xs.length) (hZ : ∀ a, Z = some a → ∃ e, G a.block = some e) : IntS (Gh.wo G' Z) A c xs := by
  have hi := h.ints
  rcases h with ⟨_, _, h0, _, _⟩ | ⟨x, r, rfl, hx, rfl, _⟩
  · exact ⟨hi.cap, fun i hlt => by omega⟩
  · have hnz : ∀ a, Z = some a → a.block ≠ x := fun a ha e' => by
      obtain ⟨e2, h2⟩ := hZ a ha
      rw [e', hx] at h2; cases h2
    refine ⟨hi.cap, fun i hlt => ?_⟩
    have := hi.rd i hlt
    simp only [pa_mk, rd] at this ⊢
    rw [wo_ne hnz]; exact this
theorem Own.isSome {G : GH} {A : Option Addr} {c sz n : Nat} {cs : List Value} (h : Own G A c cs sz n) : ∀ a, A = some a → ∃ e, G a.block = some e := fun a ha => by
  rcases h with ⟨h0, _⟩ | ⟨x, r, h0, h1, _⟩
  · rw [h0] at ha; cases ha
  · rw [h0] at ha; cases ha; exact ⟨_, h1⟩
theorem spec_l03Inverse_ok {a p : Int} (ha : 0 ≤ a ∧ a ≤ 2 ^ 20) (hp : 1 < p ∧ p ≤ 251) {G : GH} {K : Value → GH → Prop} (hk : K (.int .i64 (invF a p)) G) : GC Tryz.prog 191 [.int .i64 a, .int .i64 p] G K := by
  refine kwr (by simp) ?_
  simp (maxSteps := 300000) (disch := omega) only [gws, ↓reduceIte, reduceEqDiff, reduceToNat, reduceMul, reduceAdd, Nat.reduceBEq, isLd]
  refine gLoop_intro (fun m T G' => ∃ k : Nat, T 0 = .int .i64 a ∧ T 1 = .int .i64 p ∧ T 5 = .int .i64 (pw a p k) ∧ T 6 = .int .i64 (p - 2 - k) ∧ m + k = (p - 2).toNat ∧ k ≤ (p - 2).toNat ∧ G = G')
    (p - 2).toNat ⟨0, by simp (maxSteps := 300000) (disch := omega) only [gws, ↓reduceIte, reduceEqDiff, reduceToNat, reduceMul, reduceAdd, Nat.reduceBEq, isLd], by simp (maxSteps := 300000) (disch := omega) only [gws, ↓reduceIte, reduceEqDiff, reduceToNat, reduceMul, reduceAdd, Nat.reduceBEq, isLd], by simp (maxSteps := 300000) (disch := omega) only [gws, ↓reduceIte, reduceEqDiff, reduceToNat, reduceMul, reduceAdd, Nat.reduceBEq, isLd] <;> rfl, by simp (maxSteps := 300000) (disch := omega) only [gws, ↓reduceIte, reduceEqDiff, reduceToNat, reduceMul, reduceAdd, Nat.reduceBEq, isLd] <;> simp, by omega, by omega, rfl⟩ ?_
  rintro m T G' ⟨k, e0, e1, e5, e6, hm, hkm, rfl⟩
  have hb := pw_rng (a := a) (p := p) hp.1 k
  have hmm := mulB (a := pw a p k) (b := a) (A := 2 ^ 20) (B := 2 ^ 20) (by omega) (by omega)
  have hnn : 0 ≤ pw a p k * a := Int.mul_nonneg hb.1 ha.1
  have w1 := w64 (pw a p k * a) (by omega) (by omega)
  have hrm : (pw a p k * a).tmod p = pw a p k * a % p := Int.tmod_eq_emod_of_nonneg hnn
  simp (maxSteps := 300000) (disch := omega) only [gws, ↓reduceIte, reduceEqDiff, reduceToNat, reduceMul, reduceAdd, Nat.reduceBEq, isLd, e0, e1, e5, e6]
  by_cases hk0 : (0 : Int) < p - 2 - k
  · simp (maxSteps := 300000) (disch := omega) only [gws, ↓reduceIte, reduceEqDiff, reduceToNat, reduceMul, reduceAdd, Nat.reduceBEq, isLd, e0, e1, e5, e6, hk0, w1, fun x : Int => bin_rem .i64 x p (by omega), hrm]
    exact ⟨m - 1, by omega, G, Sub.refl _, k + 1, rfl, by congr 1; omega, by omega, by omega, rfl⟩
  · simp (maxSteps := 300000) (disch := omega) only [gws, ↓reduceIte, reduceEqDiff, reduceToNat, reduceMul, reduceAdd, Nat.reduceBEq, isLd, e0, e1, e5, e6, hk0]
    obtain rfl : k = (p - 2).toNat := by omega
    exact hk
theorem spec_l03Mod_ok {a p : Int} (hp : 0 < p ∧ p ≤ 2 ^ 31) {G : GH} {K : Value → GH → Prop} (hk : K (.int .i64 (a % p)) G) : GC Tryz.prog 121 [.int .i64 a, .int .i64 p] G K := by
  refine kx8 (by simp) ?_
  have hb := red_bd (a := a) hp.1
  simp (maxSteps := 300000) (disch := omega) only [gws, ↓reduceIte, reduceEqDiff, reduceToNat, reduceMul, reduceAdd, Nat.reduceBEq, isLd, bin_rem .i64 a p (by omega), fun x : Int => bin_rem .i64 x p (by omega)]
  rw [red_eq hp.1]; exact hk
/-- the cells of a matrix, row after row. -/
def flatL (R C : Nat) (f : Int → Int → Int) : List Int := (List.range (R * C)).map fun v : Nat => f ((v / C : Nat) : Int) ((v % C : Nat) : Int)
theorem flatL_len (R C : Nat) (f : Int → Int → Int) : (flatL R C f).length = R * C := by simp [flatL]
theorem flat_nat {i j R C : Nat} (hi : i < R) (hj : j < C) : i * C + j < R * C := by
  have : (i + 1) * C ≤ R * C := Nat.mul_le_mul_right C hi
  rw [Nat.add_mul, Nat.one_mul] at this
  omega
theorem flatL_get {R C : Nat} (f : Int → Int → Int) {i j : Nat} (hi : i < R) (hj : j < C) : (flatL R C f).getD (i * C + j) 0 = f i j := by
  have h := flat_nat hi hj
  have h1 : (i * C + j) / C = i := by rw [Nat.mul_comm, Nat.mul_add_div (by omega), Nat.div_eq_of_lt hj, Nat.add_zero]
  have h2 : (i * C + j) % C = j := by rw [Nat.mul_comm, Nat.mul_add_mod, Nat.mod_eq_of_lt hj]
  simp only [flatL, List.getD, List.getElem?_map]
  rw [List.getElem?_range h]
  show f (((i * C + j) / C : Nat) : Int) (((i * C + j) % C : Nat) : Int) = _
  rw [h1, h2]
def matC (p : Int) (R C : Nat) (A : Option Addr) (L c : Nat) : List Value := [.int .i64 p, .int .i64 R, .int .i64 C, .slice A L c]
abbrev matV (p : Int) (R C : Nat) (A : Option Addr) (L c : Nat) : Value := .agg (matC p R C A L c).toArray
/-- a row of a matrix, as a part of the cells. -/
theorem row_ints {G : GH} {A : Option Addr} {c R C : Nat} {f : Int → Int → Int} (h : IntS G A c (flatL R C f)) {i : Nat} (hi : i < R) : IntS G (pa A (i * C)) (c - i * C) (rowL C (f i)) := by
  have hc := h.cap
  rw [flatL_len] at hc
  refine ⟨?_, fun j hj => ?_⟩
  · rw [rowL_len]
    have : (i + 1) * C ≤ R * C := Nat.mul_le_mul_right C hi
    rw [Nat.add_mul, Nat.one_mul] at this
    omega
  · rw [rowL_len] at hj
    rw [pa_pa, rowL_get _ hj, ← flatL_get f hi hj]
    exact h.rd _ (by rw [flatL_len]; exact flat_nat hi hj)
theorem sl_row {A : Option Addr} {R C c i : Nat} (hi : i < R) (hC : 0 < C) (hc : R * C ≤ c) : slV 1 (.slice A (R * C) c) (some (.int .i64 ((i : Int) * C))) (some (.int .i64 (((i : Int) + 1) * C))) = some (.slice (pa A (i * C)) C (c - i * C)) := by
  have h1 : (i + 1) * C ≤ R * C := Nat.mul_le_mul_right C hi
  have h2 : (i + 1) * C = i * C + C := by rw [Nat.add_mul, Nat.one_mul]
  have e1 : ((i : Int) * C) = ((i * C : Nat) : Int) := by push_cast; rfl
  have e2 : (((i : Int) + 1) * C) = ((i * C + C : Nat) : Int) := by rw [← h2]; push_cast; rfl
  rw [e1, e2]
  simp only [slV, onSl, bndV, onInt]
  rw [if_pos ⟨by omega, by omega⟩]
  simp only [Option.bind_some, Int.toNat_natCast]
  rw [if_pos ⟨by omega, by omega⟩]
  simp only [Option.bind_some, Int.toNat_natCast]
  rw [if_pos (by omega), if_neg (by omega), Nat.mul_one, show i * C + C - i * C = C by omega]
def rowsA (A : Nat → Option Addr) (ln c : Nat → Nat) (R : Nat) : List Value := (List.range R).map fun i => .slice (A i) (ln i) (c i)
theorem rowsA_len (A : Nat → Option Addr) (ln c : Nat → Nat) (R : Nat) : (rowsA A ln c R).length = R := by simp [rowsA]
theorem rowsA_get {A : Nat → Option Addr} {ln c : Nat → Nat} {R i : Nat} (h : i < R) : (rowsA A ln c R)[i]? = some (.slice (A i) (ln i) (c i)) := by simp [rowsA, h]
theorem rowsA_set {A : Nat → Option Addr} {ln c : Nat → Nat} {R i : Nat} (A' : Option Addr) (l' c' : Nat) : (rowsA A ln c R).set i (.slice A' l' c') = rowsA (fun k => if k = i then A' else A k) (fun k => if k = i then l' else ln k) (fun k => if k = i then c' else c k) R := by
  unfold rowsA
  apply List.ext_getElem
  · simp
  · intro k h1 h2
    simp only [List.length_set, List.length_map, List.length_range] at h1
    by_cases e : i = k
    · subst e; simp
    · have e' : k ≠ i := fun x => e x.symm
      simp [List.getElem_set, e, e']
/-- rows of one's own, each of its own length. -/
structure Ao (H G : GH) (bO : Nat) (A : Nat → Option Addr) (ln c : Nat → Nat) (R : Nat) (F : Int → Int → Int) (ro : List Value) : Prop where
  sub : Sub H G
  nO : H bO = none
  o : G bO = some ⟨rowsA A ln c R ++ ro, true⟩
  row : ∀ i : Nat, i < R → Own (del G bO) (A i) (c i) ((rowL (ln i) (F i)).map I64) 1 (ln i)
  off : ∀ i, i < R → Off H (A i)
  apart : ∀ i j, i < R → j < R → i ≠ j → ∀ a b, A i = some a → A j = some b → a.block ≠ b.block
theorem Ao.get {H G : GH} {bO : Nat} {A : Nat → Option Addr} {ln c : Nat → Nat} {R : Nat} {F : Int → Int → Int} {ro : List Value} (h : Ao H G bO A ln c R F ro) {i : Nat} (hi : i < R) : rd G (some ⟨bO, i, none⟩) = some (.slice (A i) (ln i) (c i)) := by
  simp only [rd, h.o, Option.bind_some]
  rw [List.getElem?_append_left (by rw [rowsA_len]; exact hi), rowsA_get hi]
theorem Ao.up {H G G' : GH} {bO : Nat} {A : Nat → Option Addr} {ln c : Nat → Nat} {R : Nat} {F : Int → Int → Int} {ro : List Value} (h : Ao H G bO A ln c R F ro) (s : Sub G G') : Ao H G' bO A ln c R F ro := ⟨h.sub.trans s, h.nO, s _ _ h.o, fun i hi => (h.row i hi).sub (s.del2 bO), h.off, h.apart⟩
theorem wo_nil (G : GH) : wo G none = G := by funext x; unfold wo; rw [if_neg (by simp)]
/-- all rows as long: they can be eliminated. -/
theorem Ao.rw' {H G : GH} {bO : Nat} {A : Nat → Option Addr} {ln c : Nat → Nat} {R C : Nat} {F : Int → Int → Int} {ro : List Value} (h : Ao H G bO A ln c R F ro) (hl : ∀ i, i < R → ln i = C) : Rw H G bO A c R C F ro none := by
  refine ⟨h.sub, h.nO, ?_, fun i hi => ?_⟩
  · rw [h.o]
    refine congrArg (fun l => some (⟨l ++ ro, true⟩ : Ent)) ?_
    unfold rowsA rowsC
    exact List.map_congr_left fun i hi => by rw [hl i (List.mem_range.1 hi)]
  · rw [wo_nil]
    have := h.row i hi
    rw [hl i hi] at this
    exact this.ints' (rowL_len _ _).symm
theorem Own.wo {G : GH} {A Z : Option Addr} {c sz n : Nat} {cs : List Value} (h : Own G A c cs sz n) (hz : ∀ a, A = some a → ∀ z, Z = some z → z.block ≠ a.block) : Own (Gh.wo G Z) A c cs sz n := by
  rcases h with h | ⟨x, r, rfl, h2, h3⟩
  · exact .inl h
  · exact .inr ⟨x, r, rfl, by rw [wo_ne fun a ha => hz _ rfl a ha]; exact h2, h3⟩
/-- a number is appended to a row, and the row is laid again. -/
theorem Ao.push {H G : GH} {bO : Nat} {A : Nat → Option Addr} {ln c : Nat → Nat} {R : Nat} {F : Int → Int → Int} {ro : List Value} (h : Ao H G bO A ln c R F ro) {k : Nat} (hk : k < R) (hl : ln k < 2 ^ 20) {Bn : Option Addr} {dn : Nat} (hn : Cells G Bn [.int .i64 (F k (ln k))]) {K : Value → GH → Prop}
    (hK : ∀ G' A' c', Sub H G' → (∀ K' : Value → GH → Prop, (∀ G'', Ao H G'' bO (fun i => if i = k then A' else A i) (fun i => if i = k then ln k + 1 else ln i) (fun i => if i = k then c' else c i) R F ro → K' undef G'') → gSt 1 (.pointer (some ⟨bO, k, none⟩)) (.slice A' (ln k + 1) c') G' K') → K (.slice A' (ln k + 1) c') G') :
    gAp 1 8 [.int .i64 0] (.slice (A k) (ln k) (c k)) (.slice Bn 1 dn) G K := by
  have hOk := (h.row k hk).sub (Sub.del G bO)
  have hkb : ∀ a, A k = some a → a.block ≠ bO := fun a ha e => by
    obtain ⟨e2, h2⟩ := (h.row k hk).isSome a ha
    rw [e, del_none] at h2; cases h2
  refine ap_own hOk hn rfl (by intro v hv; simp at hv; subst hv; rfl) rfl (by omega) (by omega) (by omega) fun G' A' c' hO keep => ?_
  obtain ⟨sk, ok⟩ := keep _ (Sub.wo _ _) (Off.wo _ _)
  have hwb : wo G (A k) bO = some ⟨rowsA A ln c R ++ ro, true⟩ := by rw [wo_ne hkb]; exact h.o
  have hb' := sk _ _ hwb
  have s0 : Sub H (wo G (A k)) := fun x e hx => by
    rw [wo_ne fun a ha e' => by have := h.off k hk a ha; rw [e', hx] at this; cases this]
    exact h.sub _ _ hx
  have da' : ∀ a, A' = some a → a.block ≠ bO := fun a ha e => by have := ok a ha; rw [e, hwb] at this; cases this
  refine hK G' A' c' (s0.trans sk) fun K' hK' => ?_
  refine st_src hb' rfl (by rw [List.length_append, rowsA_len]; omega) fun G'' hKp hb2 => hK' G'' ?_
  have hd : del G'' bO = del G' bO := by
    funext x; unfold del
    by_cases e : x = bO
    · rw [if_pos e, if_pos e]
    · rw [if_neg e, if_neg e, hKp x e]
  have hother : ∀ i, i < R → i ≠ k → Own (wo (del G bO) (A k)) (A i) (c i) ((rowL (ln i) (F i)).map I64) 1 (ln i) := fun i hi hik => (h.row i hi).wo fun a ha z hz => fun e => h.apart k i hk hi (fun x => hik x.symm) z a hz ha e
  have hsub : Sub (wo (del G bO) (A k)) (del G' bO) := fun x e hx => by
    unfold wo at hx
    split at hx
    · cases hx
    · rename_i hne
      have hxb : x ≠ bO := fun e' => by rw [e', del_none] at hx; cases hx
      rw [del_ne _ hxb] at hx ⊢
      exact sk _ _ (by unfold wo; rw [if_neg hne]; exact hx)
  refine ⟨sub_keep hKp h.nO (s0.trans sk), h.nO, ?_, fun i hi => ?_, fun i hi => ?_, fun i j hi hj hij a b ha hb => ?_⟩
  · rw [hb2, List.set_append_left _ _ (by rw [rowsA_len]; exact hk), rowsA_set]
  · rw [hd]
    by_cases e : i = k
    · subst e
      simp only [if_true]
      exact (hO.cast (by rw [rowL_succ]; simp [I64]) rfl).del da'
    · simp only [if_neg e]
      exact (hother i hi e).sub hsub
  · by_cases e : i = k
    · simp only [if_pos e]; exact ok.mono s0
    · simp only [if_neg e]; exact h.off i hi
  · have key : ∀ i, i < R → i ≠ k → ∀ a b, A' = some a → A i = some b → a.block ≠ b.block := fun i hi hik a b ha hb e => by
      obtain ⟨e2, h2⟩ := (hother i hi hik).isSome b hb
      have h3 : wo G (A k) b.block = some e2 := by
        unfold wo at h2 ⊢
        split at h2
        · cases h2
        · rename_i hne
          rw [if_neg hne]; exact Sub.del _ _ _ _ h2
      have := ok a ha
      rw [e, h3] at this; cases this
    by_cases e1 : i = k
    · by_cases e2 : j = k
      · omega
      · simp only [if_pos e1] at ha; simp only [if_neg e2] at hb; exact key j hj e2 a b ha hb
    · by_cases e2 : j = k
      · simp only [if_neg e1] at ha; simp only [if_pos e2] at hb; exact (key i hi e1 b a hb ha).symm
      · simp only [if_neg e1] at ha; simp only [if_neg e2] at hb; exact h.apart i j hi hj hij a b ha hb
/-- the solution, after some pivots. -/
noncomputable def solX (S : ElS) (C : Int) : Nat → Int → Int
  | 0 => fun _ => 0
  | k + 1 => updAt (solX S C k) (S.piv.getD k 0) (S.f k C)
theorem elF_piv (p : Int) (R : Nat) (f : Int → Int → Int) : ∀ c m, m < (elF p R f c).piv.length → 0 ≤ (elF p R f c).piv.getD m 0 ∧ (elF p R f c).piv.getD m 0 < c
  | 0, m, hm => by simp [elF] at hm
  | c + 1, m, hm => by
    have ih := elF_piv p R f c m
    show 0 ≤ (elS p R (elF p R f c) c).piv.getD m 0 ∧ (elS p R (elF p R f c) c).piv.getD m 0 < ((c + 1 : Nat) : Int)
    have hm : m < (elS p R (elF p R f c) c).piv.length := hm
    unfold elS at hm ⊢
    split at hm
    · have := ih hm
      exact ⟨this.1, show (elF p R f c).piv.getD m 0 < _ by omega⟩
    · rw [List.length_append, List.length_singleton] at hm
      by_cases e : m < (elF p R f c).piv.length
      · have := ih e
        have e2 : ((elF p R f c).piv ++ [(c : Int)]).getD m 0 = (elF p R f c).piv.getD m 0 := by simp only [List.getD]; rw [List.getElem?_append_left e]
        dsimp only
        rw [e2]; omega
      · obtain rfl : m = (elF p R f c).piv.length := by omega
        have e2 : ((elF p R f c).piv ++ [(c : Int)]).getD (elF p R f c).piv.length 0 = c := by simp [List.getD]
        dsimp only
        rw [e2]; omega
theorem Own.keep {G G' : GH} {A : Option Addr} {b c sz n : Nat} {cs : List Value} (h : Own G A c cs sz n) (hK : Keep b G G') (hb : ∀ a, A = some a → a.block ≠ b) : Own G' A c cs sz n := by
  rcases h with h1 | ⟨x, r, h1, h2, h3⟩
  · exact .inl h1
  · exact .inr ⟨x, r, h1, by rw [hK x (hb _ h1)]; exact h2, h3⟩
theorem New.offs {H G G' : GH} {A : Option Addr} {c sz n : Nat} {cs : List Value} (h : New G G' A c cs sz n) (s : Sub H G) : Off H A := fun a ha => by
  rcases h with ⟨h1, _⟩ | ⟨b, r, h1, h2, _⟩
  · rw [h1] at ha; cases ha
  · rw [h1] at ha; cases ha; exact s.none h2
theorem New.nb {G G' : GH} {A : Option Addr} {b c sz n : Nat} {cs : List Value} {e : Ent} (h : New G G' A c cs sz n) (hb : G b = some e) : ∀ a, A = some a → a.block ≠ b := fun a ha hx => by
  rcases h with ⟨h1, _⟩ | ⟨x, r, h1, h2, _⟩
  · rw [h1] at ha; cases ha
  · rw [h1] at ha; cases ha
    simp only at hx
    rw [hx, hb] at h2; cases h2
/-- bytes that came in. -/
def BytesV (G : GH) (v : Value) (L : Nat) : Prop := ∃ A c, v = .slice A L c ∧ BytS G A L c ∧ L ≤ 2 ^ 63 - 1
theorem open_bytes' {H : Type} {enc : TypeId × Value → H} {P : Program} {W : World} {t e : TypeId} (ht : P.underlying t = some (.slice e)) (he : P.underlying e = some (.int .u8)) (hs : P.cellsOf e = 1) {v : Value} {d : DataW H} {ps : List MemPlace} {r : Reach} {base : Nat}
    (hv : Value.okWide P W r base t v) (h : DataW.Trod enc P W 0 (fun _ => true) true t v d ps) : ∃ L, BytesV (G0 W) v L := by
  obtain ⟨A, n, c, rfl⟩ := Go.WideShapes.okWide_slice ht hv
  obtain ⟨fuel, hf⟩ := h
  obtain ⟨hc, hc2, hx⟩ := trod_sl ht hf
  rw [hs] at hx
  refine ⟨n, A, c, rfl, ⟨hc, fun i hi => ?_⟩, by omega⟩
  obtain ⟨cs, f', x', h1, h2, h3⟩ := hx i hi
  obtain ⟨z, rfl, _, hwf⟩ := DataW.trod_int he h3
  simp only [Lit.wf, Bool.and_eq_true, decide_eq_true_eq, IntKind.min, IntKind.max, IntKind.signed, IntKind.bits] at hwf
  have hb : 0 ≤ z ∧ z ≤ 255 := by simpa using hwf
  exact ⟨z, hb.1, hb.2, by simpa using h2 0 _ rfl⟩
/-- a cell of one's own list is written. -/
theorem Own.store {G : GH} {A : Option Addr} {c n : Nat} {cs : List Value} (h : Own G A c cs 1 n) {k : Nat} {v : Value} {K : Value → GH → Prop} (hk : k < n) (hv : oneB v = true) (hK : ∀ G', Own G' A c (cs.set k v) 1 n → (∀ H, Sub H G → Off H A → Sub H G') → K undef G') : gSt 1 (.pointer (pa A k)) v G K := by
  rcases h with ⟨_, _, h0, _⟩ | ⟨b, r, rfl, h2, h3, h4, h5⟩
  · omega
  · rw [pa_mk, Nat.zero_add]
    refine st_one h2 (by rw [h4]; omega) hv ?_
    rw [List.set_append_left _ _ (by omega)]
    exact hK _ (.inr ⟨b, r, rfl, put_same _ _ _, by simpa using h3, by simpa using h4, h5⟩) fun H s o => s.skip (o _ rfl)
theorem flatL_succ (k C : Nat) (f : Int → Int → Int) : flatL (k + 1) C f = flatL k C f ++ rowL C (f k) := by
  unfold flatL rowL
  rw [Nat.add_mul, Nat.one_mul, List.range_add, List.map_append, List.map_map]
  congr 1
  refine List.map_congr_left fun j hj => ?_
  have hj := List.mem_range.1 hj
  have h1 : (k * C + j) / C = k := by rw [Nat.mul_comm, Nat.mul_add_div (by omega), Nat.div_eq_of_lt hj, Nat.add_zero]
  have h2 : (k * C + j) % C = j := by rw [Nat.mul_comm, Nat.mul_add_mod, Nat.mod_eq_of_lt hj]
  show f (((k * C + j) / C : Nat) : Int) (((k * C + j) % C : Nat) : Int) = _
  rw [h1, h2]
theorem flatL_zero (C : Nat) (f : Int → Int → Int) : flatL 0 C f = [] := by simp [flatL]
theorem Off.put {H : GH} {b : Nat} {e e' : Ent} {A : Option Addr} (h : Off (Gh.put H b e) A) : Off (Gh.put H b e') A := fun a ha => by
  have := h a ha
  by_cases x : a.block = b
  · rw [x, put_same] at this; cases this
  · rw [put_ne _ _ x] at this ⊢; exact this
theorem Off.pne {H : GH} {b : Nat} {e : Ent} {A : Option Addr} (h : Off (Gh.put H b e) A) : ∀ a, A = some a → a.block ≠ b := fun a ha x => by
  have := h a ha
  rw [x, put_same] at this; cases this
theorem Sub.swap {H G G' : GH} {b : Nat} {e e' : Ent} (s : Sub (Gh.put H b e) G) (k : Keep b G G') (hb : G' b = some e') : Sub (Gh.put H b e') G' := fun x y hx => by
  by_cases c : x = b
  · subst c; rw [put_same] at hx; rw [hb]; exact hx
  · rw [put_ne _ _ c] at hx
    rw [k x c]
    exact s x y (by rw [put_ne _ _ c]; exact hx)
theorem sub_box {H G' : GH} {b : Nat} {e : Ent} (hS : Sub (put H b e) G') (hb : H b = none) : Sub H G' := fun x f hx => hS x f (by rw [put_ne _ _ (fun y => by rw [y, hb] at hx; cases hx)]; exact hx)
/-- a matrix by its cells. -/
def mtF (p : Int) (R C : Nat) (f : Int → Int → Int) : Mt := ⟨p, R, C, flatL R C f⟩
def fM (M : Mt) : Int → Int → Int := fun i j => M.m.getD (i.toNat * M.c.toNat + j.toNat) 0
theorem mt_flat {M : Mt} (h : MtOk M) : M = mtF M.p M.r.toNat M.c.toNat (fM M) := by
  obtain ⟨p, r, c, m⟩ := M
  have hr := h.r
  have hc := h.c
  have hn := h.n
  dsimp only at hr hc hn
  obtain ⟨R, rfl⟩ : ∃ R : Nat, r = R := ⟨r.toNat, by omega⟩
  obtain ⟨C, rfl⟩ : ∃ C : Nat, c = C := ⟨c.toNat, by omega⟩
  unfold mtF fM
  dsimp only
  rw [Int.toNat_natCast, Int.toNat_natCast]
  have hm : m.length = R * C := by have : ((R * C : Nat) : Int) = (R : Int) * C := Int.natCast_mul _ _; omega
  congr 1
  refine List.ext_getElem (by rw [flatL_len, hm]) fun v h1 h2 => ?_
  have hC : 0 < C := by
    rcases Nat.eq_zero_or_pos C with e | e
    · subst e; rw [hm, Nat.mul_zero] at h1; omega
    · exact e
  simp only [flatL, List.getElem_map, List.getElem_range, Int.toNat_natCast]
  rw [show v / C * C + v % C = v by rw [Nat.mul_comm]; exact Nat.div_add_mod v C]
  simp [List.getD, h1]
theorem fM_bd {M : Mt} (h : MtOk M) (i j : Int) : 0 ≤ fM M i j ∧ fM M i j ≤ 250 := by
  unfold fM
  generalize i.toNat * M.c.toNat + j.toNat = q
  have hp := h.p.2.1
  by_cases hq : q < M.m.length
  · have := h.b q hq; omega
  · simp [List.getD, List.getElem?_eq_none (Nat.le_of_not_lt hq)]
/-- sums of products. -/
def dsum (u v : Int → Int) : Nat → Int
  | 0 => 0
  | t + 1 => dsum u v t + u t * v t
theorem uv_bd {a b : Int} (ha : 0 ≤ a ∧ a ≤ 250) (hb : 0 ≤ b ∧ b ≤ 250) : 0 ≤ a * b ∧ a * b ≤ 62500 := by
  have h1 : a * b ≤ 250 * 250 := Int.mul_le_mul ha.2 hb.2 hb.1 (by omega)
  exact ⟨Int.mul_nonneg ha.1 hb.1, by omega⟩
theorem dsum_bd {u v : Int → Int} {n : Nat} (hu : ∀ t : Nat, t < n → 0 ≤ u t ∧ u t ≤ 250) (hv : ∀ t : Nat, t < n → 0 ≤ v t ∧ v t ≤ 250) : ∀ k, k ≤ n → 0 ≤ dsum u v k ∧ dsum u v k ≤ 62500 * k
  | 0, _ => by simp [dsum]
  | k + 1, h => by
    have := dsum_bd hu hv k (by omega)
    have := uv_bd (hu k (by omega)) (hv k (by omega))
    simp only [dsum]; push_cast; omega
theorem sl_row2 {A : Option Addr} {R C c i : Nat} (hi : i < R) (hc : R * C ≤ c) : slV 1 (.slice A (R * C) c) (some (.int .i64 ((i : Int) * C))) (some (.int .i64 (((i : Int) + 1) * C))) = some (.slice (if c = i * C then A else pa A (i * C)) C (c - i * C)) := by
  have h1 : (i + 1) * C ≤ R * C := Nat.mul_le_mul_right C hi
  have h2 : (i + 1) * C = i * C + C := by rw [Nat.add_mul, Nat.one_mul]
  have e1 : ((i : Int) * C) = ((i * C : Nat) : Int) := by push_cast; rfl
  have e2 : (((i : Int) + 1) * C) = ((i * C + C : Nat) : Int) := by rw [← h2]; push_cast; rfl
  rw [e1, e2]
  simp only [slV, onSl, bndV, onInt]
  rw [if_pos ⟨by omega, by omega⟩]
  simp only [Option.bind_some, Int.toNat_natCast]
  rw [if_pos ⟨by omega, by omega⟩]
  simp only [Option.bind_some, Int.toNat_natCast]
  rw [if_pos (by omega), Nat.mul_one, show i * C + C - i * C = C by omega]
theorem row_ints2 {G : GH} {A : Option Addr} {c R C : Nat} {f : Int → Int → Int} (h : IntS G A c (flatL R C f)) {i : Nat} (hi : i < R) : IntS G (if c = i * C then A else pa A (i * C)) (c - i * C) (rowL C (f i)) := by
  by_cases e : c = i * C
  · rw [if_pos e]
    have hc := h.cap
    rw [flatL_len] at hc
    have h1 : (i + 1) * C ≤ R * C := Nat.mul_le_mul_right C hi
    rw [Nat.add_mul, Nat.one_mul] at h1
    obtain rfl : C = 0 := by omega
    exact IntS.nil _ _ _
  · rw [if_neg e]; exact row_ints h hi
theorem rowL_bd {G : GH} {A : Option Addr} {c n : Nat} {u : Int → Int} (h : IntS G A c (rowL n u)) {t : Nat} (ht : t < n) : rd G (pa A t) = some (.int .i64 (u t)) := by
  have := h.rd t (by rw [rowL_len]; exact ht)
  rwa [rowL_get _ ht] at this
theorem impl_dotU_ok {G : GH} {A B : Option Addr} {c d n n' : Nat} {u v : Int → Int} {p : Int} (h : IntS G A c (rowL n u)) (h' : IntS G B d (rowL n' v)) (hn : n ≤ n') (hn2 : n ≤ 2 ^ 10) (hp : 2 ≤ p ∧ p ≤ 251) (hu : ∀ t : Nat, t < n → 0 ≤ u t ∧ u t ≤ 250) (hv : ∀ t : Nat, t < n → 0 ≤ v t ∧ v t ≤ 250) {K : Value → GH → Prop}
    (hk : K (.int .i64 (dsum u v n % p)) G) : GC Tryz.prog 156 [.slice A n c, .slice B n' d, .int .i64 p] G K := by
  refine k7y (by simp) ?_
  have hsn := h.sn
  have hsn' := h'.sn
  rw [rowL_len] at hsn hsn'
  simp (maxSteps := 300000) (disch := omega) only [gws, ↓reduceIte, reduceEqDiff, reduceToNat, reduceMul, reduceAdd, Nat.reduceBEq, isLd]
  refine gLoop_intro (fun m T G' => ∃ k : Nat, T 0 = .slice A n c ∧ T 1 = .slice B n' d ∧ T 2 = .int .i64 p ∧ T 7 = .int .i64 (dsum u v k % p) ∧ T 10 = .int .i64 n ∧ T 11 = .int .i64 k ∧ m + k = n ∧ k ≤ n ∧ G = G') n
    ⟨0, by simp (maxSteps := 300000) (disch := omega) only [gws, ↓reduceIte, reduceEqDiff, reduceToNat, reduceMul, reduceAdd, Nat.reduceBEq, isLd], by simp (maxSteps := 300000) (disch := omega) only [gws, ↓reduceIte, reduceEqDiff, reduceToNat, reduceMul, reduceAdd, Nat.reduceBEq, isLd], by simp (maxSteps := 300000) (disch := omega) only [gws, ↓reduceIte, reduceEqDiff, reduceToNat, reduceMul, reduceAdd, Nat.reduceBEq, isLd], by simp (maxSteps := 300000) (disch := omega) only [gws, ↓reduceIte, reduceEqDiff, reduceToNat, reduceMul, reduceAdd, Nat.reduceBEq, isLd] <;> simp [dsum], by simp (maxSteps := 300000) (disch := omega) only [gws, ↓reduceIte, reduceEqDiff, reduceToNat, reduceMul, reduceAdd, Nat.reduceBEq, isLd], by simp (maxSteps := 300000) (disch := omega) only [gws, ↓reduceIte, reduceEqDiff, reduceToNat, reduceMul, reduceAdd, Nat.reduceBEq, isLd] <;> rfl, by omega, by omega, rfl⟩ ?_
  rintro m T G' ⟨k, e0, e1, e2, e7, e10, e11, hm, hkl, rfl⟩
  simp (maxSteps := 300000) (disch := omega) only [gws, ↓reduceIte, reduceEqDiff, reduceToNat, reduceMul, reduceAdd, Nat.reduceBEq, isLd, e0, e1, e2, e7, e10, e11]
  by_cases hkk : (k : Int) < n
  · have r1 := rowL_bd h (show k < n by omega)
    have r2 := rowL_bd h' (show k < n' by omega)
    have huv := uv_bd (hu k (by omega)) (hv k (by omega))
    have hs0 := Int.emod_nonneg (dsum u v k) (show p ≠ 0 by omega)
    have hs1 := Int.emod_lt_of_pos (dsum u v k) (show 0 < p by omega)
    have w1 := w64 (u k * v k) (by omega) (by omega)
    have w2 := w64 (dsum u v k % p + u k * v k) (by omega) (by omega)
    have hrem := bin_rem .i64 (dsum u v k % p + u k * v k) p (by omega)
    have hem : (dsum u v k % p + u k * v k).tmod p = dsum u v (k + 1) % p := by
      rw [Int.tmod_eq_emod_of_nonneg (by omega), Int.emod_add_emod]; rfl
    rw [hem] at hrem
    simp (maxSteps := 300000) (disch := omega) only [gws, ↓reduceIte, reduceEqDiff, reduceToNat, reduceMul, reduceAdd, Nat.reduceBEq, isLd, e0, e1, e2, e7, e10, e11, hkk, r1, r2, w1, w2, hrem]
    exact ⟨m - 1, by omega, _, Sub.refl _, k + 1, rfl, rfl, by omega, by omega, rfl⟩
  · simp (maxSteps := 300000) (disch := omega) only [gws, ↓reduceIte, reduceEqDiff, reduceToNat, reduceMul, reduceAdd, Nat.reduceBEq, isLd, e0, e1, e2, e7, e10, e11, hkk]
    obtain rfl : k = n := by omega
    exact hk
theorem impl_row2_ok {G : GH} {p : Int} {A : Option Addr} {R C c i : Nat} {f : Int → Int → Int} (h : IntS G A c (flatL R C f)) (hi : i < R) (hC : C ≤ 2 ^ 20) (hR : R ≤ 2 ^ 20) {K : Value → GH → Prop} (hk : ∀ B d, IntS G B d (rowL C (f i)) → K (.slice B C d) G) : GC Tryz.prog 157 [matV p R C A (R * C) c, .int .i64 (i : Int)] G K := by
  refine GC_drop (k22 (by simp) ?_)
  have hc := h.cap
  rw [flatL_len] at hc
  unfold matV matC
  simp (maxSteps := 300000) (disch := omega) only [gws, ↓reduceIte, reduceEqDiff, reduceToNat, reduceMul, reduceAdd, Nat.reduceBEq, isLd]
  intro b2 hb2
  have s2 := Sub.put hb2 ⟨[.int .i64 p, .int .i64 R, .int .i64 C, .slice A (R * C) c], true⟩
  have r2 : rd (put G b2 ⟨[.int .i64 p, .int .i64 R, .int .i64 C, .slice A (R * C) c], true⟩) (some ⟨b2, 2, none⟩) = some (.int .i64 C) := rd_box _ _ _ 2 _ rfl
  have r3 : rd (put G b2 ⟨[.int .i64 p, .int .i64 R, .int .i64 C, .slice A (R * C) c], true⟩) (some ⟨b2, 3, none⟩) = some (.slice A (R * C) c) := rd_box _ _ _ 3 _ rfl
  revert s2 r2 r3
  generalize put G b2 ⟨[.int .i64 p, .int .i64 R, .int .i64 C, .slice A (R * C) c], true⟩ = G1
  intro s2 r2 r3
  have m1 := mulB (a := (i : Int)) (b := (C : Int)) (A := 2 ^ 21) (B := 2 ^ 21) (by omega) (by omega)
  have m2 := mulB (a := (i : Int) + 1) (b := (C : Int)) (A := 2 ^ 21) (B := 2 ^ 21) (by omega) (by omega)
  have w1 := w64 ((i : Int) * C) (by omega) (by omega)
  have w2 := w64 (((i : Int) + 1) * C) (by omega) (by omega)
  simp (maxSteps := 300000) (disch := omega) only [gws, ↓reduceIte, reduceEqDiff, reduceToNat, reduceMul, reduceAdd, Nat.reduceBEq, isLd, r2, r3, w1, w2, sl_row2 hi hc]
  exact ⟨G, s2, hk _ _ (row_ints2 h hi)⟩
theorem impl_rowsOf2_ok {G : GH} {p : Int} {A : Option Addr} {R C c : Nat} {f : Int → Int → Int} (h : IntS G A c (flatL R C f)) (hC : C ≤ 2 ^ 10) (hR : R ≤ 2 ^ 10) {K : Value → GH → Prop}
    (hk : ∀ G' Y y hs, Sub G G' → RowS G' Y y hs ((List.range R).map fun i : Nat => rowL C (f i)) → K (.slice Y R y) G') : GC Tryz.prog 165 [matV p R C A (R * C) c] G K := by
  refine kel (by simp) ?_
  unfold matV matC
  simp (maxSteps := 300000) (disch := omega) only [gws, ↓reduceIte, reduceEqDiff, reduceToNat, reduceMul, reduceAdd, Nat.reduceBEq, isLd]
  intro b1 hb1
  have s1 := Sub.put hb1 ⟨[.int .i64 p, .int .i64 R, .int .i64 C, .slice A (R * C) c], true⟩
  have r0 : rd (put G b1 ⟨[.int .i64 p, .int .i64 R, .int .i64 C, .slice A (R * C) c], true⟩) (some ⟨b1, 0, none⟩) = some (.int .i64 p) := rd_box _ _ _ 0 _ rfl
  have r1 : rd (put G b1 ⟨[.int .i64 p, .int .i64 R, .int .i64 C, .slice A (R * C) c], true⟩) (some ⟨b1, 1, none⟩) = some (.int .i64 R) := rd_box _ _ _ 1 _ rfl
  have r2 : rd (put G b1 ⟨[.int .i64 p, .int .i64 R, .int .i64 C, .slice A (R * C) c], true⟩) (some ⟨b1, 2, none⟩) = some (.int .i64 C) := rd_box _ _ _ 2 _ rfl
  have r3 : rd (put G b1 ⟨[.int .i64 p, .int .i64 R, .int .i64 C, .slice A (R * C) c], true⟩) (some ⟨b1, 3, none⟩) = some (.slice A (R * C) c) := rd_box _ _ _ 3 _ rfl
  have h1 := h.sub s1
  revert s1 r0 r1 r2 r3 h1
  generalize put G b1 ⟨[.int .i64 p, .int .i64 R, .int .i64 C, .slice A (R * C) c], true⟩ = G1
  intro s1 r0 r1 r2 r3 h1
  simp (maxSteps := 300000) (disch := omega) only [gws, ↓reduceIte, reduceEqDiff, reduceToNat, reduceMul, reduceAdd, Nat.reduceBEq, isLd, r1]
  refine gLoop_intro (fun m T G' => ∃ (i : Nat) (Z : Option Addr) (z : Nat) (hs : Nat → Option Addr × Nat), T 1 = .pointer (some ⟨b1, 0, none⟩) ∧ T 3 = .slice Z i z ∧ T 6 = .int .i64 R ∧ T 7 = .int .i64 i ∧ m + i = R ∧ i ≤ R ∧ RB G1 G' Z z hs ((List.range i).map fun i : Nat => rowL C (f i)))
    R ⟨0, none, 0, fun _ => (none, 0), by simp (maxSteps := 300000) (disch := omega) only [gws, ↓reduceIte, reduceEqDiff, reduceToNat, reduceMul, reduceAdd, Nat.reduceBEq, isLd], by simp (maxSteps := 300000) (disch := omega) only [gws, ↓reduceIte, reduceEqDiff, reduceToNat, reduceMul, reduceAdd, Nat.reduceBEq, isLd], by simp (maxSteps := 300000) (disch := omega) only [gws, ↓reduceIte, reduceEqDiff, reduceToNat, reduceMul, reduceAdd, Nat.reduceBEq, isLd], by simp (maxSteps := 300000) (disch := omega) only [gws, ↓reduceIte, reduceEqDiff, reduceToNat, reduceMul, reduceAdd, Nat.reduceBEq, isLd] <;> rfl, by omega, by omega, RB.nil _ _⟩ ?_
  rintro m T G' ⟨i, Z, z, hs, e1, e3, e6, e7, hm, hi, hB⟩
  simp (maxSteps := 300000) (disch := omega) only [gws, ↓reduceIte, reduceEqDiff, reduceToNat, reduceMul, reduceAdd, Nat.reduceBEq, isLd, e1, e3, e6, e7]
  by_cases hii : (i : Int) < R
  · have q0 := rd_sub hB.sub r0
    have q1 := rd_sub hB.sub r1
    have q2 := rd_sub hB.sub r2
    have q3 := rd_sub hB.sub r3
    simp (maxSteps := 300000) (disch := omega) only [gws, ↓reduceIte, reduceEqDiff, reduceToNat, reduceMul, reduceAdd, Nat.reduceBEq, isLd, e1, e3, e6, e7, hii, q0, q1, q2, q3]
    refine impl_row2_ok (p := p) (R := R) (C := C) (A := A) (c := c) (i := i) (f := f) (h1.sub hB.sub) (by omega) (by omega) (by omega) fun B d hI => ?_
    simp (maxSteps := 300000) (disch := omega) only [gws, ↓reduceIte, reduceEqDiff, reduceToNat, reduceMul, reduceAdd, Nat.reduceBEq, isLd, e1, e3, e6, e7]
    have key := fun K => slices_Clone_ok hI (by rw [rowL_len]; omega) (K := K)
    rw [rowL_len] at key
    refine key _ fun G2 D e hN => ?_
    simp (maxSteps := 300000) (disch := omega) only [gws, ↓reduceIte, reduceEqDiff, reduceToNat, reduceMul, reduceAdd, Nat.reduceBEq, isLd, gBs]
    refine ⟨fun v hv => (by simp at hv; subst hv; rfl), fun b2 hb2 => ?_⟩
    have s2 := Sub.put hb2 ⟨[.slice D (rowL C (f i)).length e], true⟩
    have hr : IntS (wz G2 Z) D e (rowL C (f i)) := (hN.own.ints' (by rw [rowL_len])).sub fun q f hq => by
      obtain ⟨h1, h3⟩ := rest_some.1 hq
      rw [wz_ne fun a ha e' => ?_]
      · exact h3
      · exact own_ne hB.out a ha (by rw [e']; exact h1)
    have key2 := fun K => ((hB.up hN.sub).up s2).add (K := K) (hr.sub (Sub.wz_mono s2)) (put_same _ _ _) (by simp; omega)
    rw [rowL_len, List.length_map, List.length_range] at key2
    refine key2 _ fun G4 Z' z' hs' hB4 => ?_
    simp (maxSteps := 300000) (disch := omega) only [gws, ↓reduceIte, reduceEqDiff, reduceToNat, reduceMul, reduceAdd, Nat.reduceBEq, isLd, e1, e3, e6, e7]
    exact ⟨m - 1, by omega, G4, Sub.refl _, i + 1, Z', z', hs', rfl, rfl, by omega, by omega, by rw [List.range_succ, List.map_append]; exact hB4⟩
  · simp (maxSteps := 300000) (disch := omega) only [gws, ↓reduceIte, reduceEqDiff, reduceToNat, reduceMul, reduceAdd, Nat.reduceBEq, isLd, e1, e3, e6, e7, hii]
    obtain rfl : i = R := by omega
    exact hk G' Z z hs (s1.trans hB.sub) hB.rows
theorem impl_filledF_ok {G : GH} {p : Int} {R C : Nat} {F : Value} {dl : Int → Int → Int} (hR : R ≤ 2 ^ 10) (hC : C ≤ 2 ^ 10) (hf : ∀ G', Sub G G' → ∀ i j : Nat, i < R → j < C → ∀ K : Value → GH → Prop, K (.int .i64 (dl i j)) G' → gCl Tryz.prog F [.int .i64 (i : Int), .int .i64 (j : Int)] G' K) {K : Value → GH → Prop} (hk : ∀ G' A c, Sub G G' → Off G A → Own G' A c ((flatL R C dl).map I64) 1 (R * C) → K (matV p R C A (R * C) c) G') :
    GC Tryz.prog 124 [.int .i64 p, .int .i64 R, .int .i64 C, F] G K := by
  refine ka3 (by simp) ?_
  simp (maxSteps := 300000) (disch := omega) only [gws, ↓reduceIte, reduceEqDiff, reduceToNat, reduceMul, reduceAdd, Nat.reduceBEq, isLd]
  intro b8 hb8
  simp (maxSteps := 300000) (disch := omega) only [gws, ↓reduceIte, reduceEqDiff, reduceToNat, reduceMul, reduceAdd, Nat.reduceBEq, isLd]
  intro b9 hb9
  have s8 := Sub.put hb8 ⟨[.int .i64 0, .int .i64 0, .int .i64 0, .slice none 0 0], true⟩
  have g8 : put G b8 ⟨[.int .i64 0, .int .i64 0, .int .i64 0, .slice none 0 0], true⟩ b8 = some ⟨[.int .i64 0, .int .i64 0, .int .i64 0, .slice none 0 0], true⟩ := put_same _ _ _
  revert hb9 s8 g8
  generalize put G b8 ⟨[.int .i64 0, .int .i64 0, .int .i64 0, .slice none 0 0], true⟩ = H
  intro hb9 s8 g8
  have s8' := s8
  simp (maxSteps := 300000) (disch := omega) only [gws, ↓reduceIte, reduceEqDiff, reduceToNat, reduceMul, reduceAdd, Nat.reduceBEq, isLd]
  refine st_many (vs := matC p R C none 0 0) rfl (put_same _ _ _) rfl (by simp) (by intro v hv; simp [matC] at hv; rcases hv with rfl | rfl | rfl | rfl <;> rfl) ?_
  rw [put_put']
  simp (maxSteps := 300000) (disch := omega) only [gws, ↓reduceIte, reduceEqDiff, reduceToNat, reduceMul, reduceAdd, Nat.reduceBEq, isLd, over, matC]
  refine gLoop_intro (fun m T G' => ∃ (i : Nat) (B : Option Addr) (c : Nat), T 1 = .int .i64 R ∧ T 2 = .int .i64 C ∧ T 3 = F ∧ T 8 = .pointer (some ⟨b8, 0, none⟩) ∧ T 9 = .pointer (some ⟨b9, 0, none⟩) ∧ T 16 = .int .i64 R ∧ T 17 = .int .i64 i ∧ m + i = R ∧ i ≤ R ∧
      Sub (put H b9 ⟨matC p R C B (i * C) c, true⟩) G' ∧ Off (put H b9 ⟨matC p R C B (i * C) c, true⟩) B ∧ Own G' B c ((flatL i C dl).map I64) 1 (i * C)) R
    ⟨0, none, 0, by simp (maxSteps := 300000) (disch := omega) only [gws, ↓reduceIte, reduceEqDiff, reduceToNat, reduceMul, reduceAdd, Nat.reduceBEq, isLd], by simp (maxSteps := 300000) (disch := omega) only [gws, ↓reduceIte, reduceEqDiff, reduceToNat, reduceMul, reduceAdd, Nat.reduceBEq, isLd], by simp (maxSteps := 300000) (disch := omega) only [gws, ↓reduceIte, reduceEqDiff, reduceToNat, reduceMul, reduceAdd, Nat.reduceBEq, isLd], by simp (maxSteps := 300000) (disch := omega) only [gws, ↓reduceIte, reduceEqDiff, reduceToNat, reduceMul, reduceAdd, Nat.reduceBEq, isLd], by simp (maxSteps := 300000) (disch := omega) only [gws, ↓reduceIte, reduceEqDiff, reduceToNat, reduceMul, reduceAdd, Nat.reduceBEq, isLd], by simp (maxSteps := 300000) (disch := omega) only [gws, ↓reduceIte, reduceEqDiff, reduceToNat, reduceMul, reduceAdd, Nat.reduceBEq, isLd], by simp (maxSteps := 300000) (disch := omega) only [gws, ↓reduceIte, reduceEqDiff, reduceToNat, reduceMul, reduceAdd, Nat.reduceBEq, isLd] <;> rfl, by omega, by omega, by rw [Nat.zero_mul]; exact Sub.refl _, Off.nil _, by rw [Nat.zero_mul, flatL_zero]; exact Own.nil _ _⟩ ?_
  rintro m T G' ⟨i, B, c, e1, e2, e3, e8, e9, e16, e17, hm, hi, hS, hO, hW⟩
  simp (maxSteps := 300000) (disch := omega) only [gws, ↓reduceIte, reduceEqDiff, reduceToNat, reduceMul, reduceAdd, Nat.reduceBEq, isLd, e1, e2, e3, e8, e9, e16, e17]
  by_cases hii : (i : Int) < R
  · simp (maxSteps := 300000) (disch := omega) only [gws, ↓reduceIte, reduceEqDiff, reduceToNat, reduceMul, reduceAdd, Nat.reduceBEq, isLd, e1, e2, e3, e8, e9, e16, e17, hii]
    refine gLoop_intro (fun m' T' G' => ∃ (j : Nat) (B : Option Addr) (c : Nat), T' 1 = .int .i64 R ∧ T' 2 = .int .i64 C ∧ T' 3 = F ∧ T' 8 = .pointer (some ⟨b8, 0, none⟩) ∧ T' 9 = .pointer (some ⟨b9, 0, none⟩) ∧ T' 10 = .int .i64 i ∧ T' 16 = .int .i64 R ∧ T' 17 = .int .i64 i ∧ T' 20 = .int .i64 C ∧ T' 21 = .int .i64 j ∧ m' + j = C ∧ j ≤ C ∧
        Sub (put H b9 ⟨matC p R C B (i * C + j) c, true⟩) G' ∧ Off (put H b9 ⟨matC p R C B (i * C + j) c, true⟩) B ∧ Own G' B c ((flatL i C dl ++ rowL j (dl i)).map I64) 1 (i * C + j)) C
      ⟨0, B, c, by simp (maxSteps := 300000) (disch := omega) only [gws, ↓reduceIte, reduceEqDiff, reduceToNat, reduceMul, reduceAdd, Nat.reduceBEq, isLd, e1], by simp (maxSteps := 300000) (disch := omega) only [gws, ↓reduceIte, reduceEqDiff, reduceToNat, reduceMul, reduceAdd, Nat.reduceBEq, isLd, e2], by simp (maxSteps := 300000) (disch := omega) only [gws, ↓reduceIte, reduceEqDiff, reduceToNat, reduceMul, reduceAdd, Nat.reduceBEq, isLd, e3], by simp (maxSteps := 300000) (disch := omega) only [gws, ↓reduceIte, reduceEqDiff, reduceToNat, reduceMul, reduceAdd, Nat.reduceBEq, isLd, e8], by simp (maxSteps := 300000) (disch := omega) only [gws, ↓reduceIte, reduceEqDiff, reduceToNat, reduceMul, reduceAdd, Nat.reduceBEq, isLd, e9], by simp (maxSteps := 300000) (disch := omega) only [gws, ↓reduceIte, reduceEqDiff, reduceToNat, reduceMul, reduceAdd, Nat.reduceBEq, isLd], by simp (maxSteps := 300000) (disch := omega) only [gws, ↓reduceIte, reduceEqDiff, reduceToNat, reduceMul, reduceAdd, Nat.reduceBEq, isLd, e16], by simp (maxSteps := 300000) (disch := omega) only [gws, ↓reduceIte, reduceEqDiff, reduceToNat, reduceMul, reduceAdd, Nat.reduceBEq, isLd, e17], by simp (maxSteps := 300000) (disch := omega) only [gws, ↓reduceIte, reduceEqDiff, reduceToNat, reduceMul, reduceAdd, Nat.reduceBEq, isLd], by simp (maxSteps := 300000) (disch := omega) only [gws, ↓reduceIte, reduceEqDiff, reduceToNat, reduceMul, reduceAdd, Nat.reduceBEq, isLd] <;> rfl, by omega, by omega, hS, hO, by rw [show rowL 0 (dl i) = [] from rfl, List.append_nil]; exact hW⟩ ?_
    clear e1 e2 e3 e8 e9 e16 e17 hS hO hW B c G'
    rintro m' T' G' ⟨j, B, c, e1, e2, e3, e8, e9, e10, e16, e17, e20, e21, hm', hj, hS, hO, hW⟩
    simp (maxSteps := 300000) (disch := omega) only [gws, ↓reduceIte, reduceEqDiff, reduceToNat, reduceMul, reduceAdd, Nat.reduceBEq, isLd, e1, e2, e3, e8, e9, e10, e16, e17, e20, e21]
    by_cases hjj : (j : Int) < C
    · have r3 : rd G' (some ⟨b9, 3, none⟩) = some (.slice B (i * C + j) c) := rd_sub hS (rd_box _ _ _ 3 _ rfl)
      have hin : i * C ≤ 2 ^ 10 * 2 ^ 10 := Nat.mul_le_mul (by omega) hC
      simp (maxSteps := 300000) (disch := omega) only [gws, ↓reduceIte, reduceEqDiff, reduceToNat, reduceMul, reduceAdd, Nat.reduceBEq, isLd, e1, e2, e3, e8, e9, e10, e16, e17, e20, e21, hjj, r3]
      refine hf G' (s8'.trans (sub_box hS hb9)) i j (by omega) (by omega) _ ?_
      simp (maxSteps := 300000) (disch := omega) only [gws, ↓reduceIte, reduceEqDiff, reduceToNat, reduceMul, reduceAdd, Nat.reduceBEq, isLd, e1, e2, e3, e8, e9, e10, e16, e17, e20, e21, r3, gBs]
      refine ⟨by intro v hv; simp at hv; subst hv; rfl, fun b15 hb15 => ?_⟩
      have s15 := Sub.put hb15 ⟨[.int .i64 (dl i j)], true⟩
      refine ⟨rd_sub s15 r3, ?_⟩
      refine ap_own (hW.sub s15) (news := [I64 (dl i j)]) (m := 1) (cells_one _ true) rfl (by intro v hv; simp at hv; subst hv; rfl) rfl (by omega) (by omega) (by omega) fun G3 A3 c3' hW3 keep => ?_
      obtain ⟨hS3, hO3⟩ := keep _ (hS.trans s15) hO
      simp (maxSteps := 300000) (disch := omega) only [gws, ↓reduceIte, reduceEqDiff, reduceToNat, reduceMul, reduceAdd, Nat.reduceBEq, isLd, e1, e2, e3, e8, e9, e10, e16, e17, e20, e21]
      refine st_src (hS3 _ _ (put_same _ _ _)) rfl (by simp [matC]) fun G4 k4 g4 => ?_
      simp (maxSteps := 300000) (disch := omega) only [gws, ↓reduceIte, reduceEqDiff, reduceToNat, reduceMul, reduceAdd, Nat.reduceBEq, isLd, e1, e2, e3, e8, e9, e10, e16, e17, e20, e21]
      refine ⟨m' - 1, by omega, G4, Sub.refl _, j + 1, A3, c3', rfl, by omega, by omega, hS3.swap k4 g4, hO3.put, ?_⟩
      rw [rowL_succ, ← List.append_assoc, List.map_append]
      exact hW3.keep k4 hO3.pne
    · simp (maxSteps := 300000) (disch := omega) only [gws, ↓reduceIte, reduceEqDiff, reduceToNat, reduceMul, reduceAdd, Nat.reduceBEq, isLd, e1, e2, e3, e8, e9, e10, e16, e17, e20, e21, hjj]
      obtain rfl : j = C := by omega
      refine ⟨m - 1, by omega, G', Sub.refl _, i + 1, B, c, rfl, by omega, by omega, ?_⟩
      rw [flatL_succ, Nat.add_mul, Nat.one_mul]
      exact ⟨hS, hO, hW⟩
  · simp (maxSteps := 300000) (disch := omega) only [gws, ↓reduceIte, reduceEqDiff, reduceToNat, reduceMul, reduceAdd, Nat.reduceBEq, isLd, e1, e2, e3, e8, e9, e16, e17, hii]
    obtain rfl : i = R := by omega
    have r0 : rd G' (some ⟨b9, 0, none⟩) = some (.int .i64 p) := rd_sub hS (rd_box _ _ _ 0 _ rfl)
    have r1 : rd G' (some ⟨b9, 1, none⟩) = some (.int .i64 i) := rd_sub hS (rd_box _ _ _ 1 _ rfl)
    have r2 : rd G' (some ⟨b9, 2, none⟩) = some (.int .i64 C) := rd_sub hS (rd_box _ _ _ 2 _ rfl)
    have r3 : rd G' (some ⟨b9, 3, none⟩) = some (.slice B (i * C) c) := rd_sub hS (rd_box _ _ _ 3 _ rfl)
    have n89 : b8 ≠ b9 := fun x => by rw [x, hb9] at g8; cases g8
    have sH : Sub H G' := fun x e hx => hS x e (by rw [put_ne _ _ (fun y => by rw [y, hb9] at hx; cases hx)]; exact hx)
    simp (maxSteps := 300000) (disch := omega) only [gws, ↓reduceIte, reduceEqDiff, reduceToNat, reduceMul, reduceAdd, Nat.reduceBEq, isLd, e8, e9, r0, r1, r2, r3]
    refine st_many (vs := matC p i C B (i * C) c) rfl (sH _ _ g8) rfl (by simp) (by intro v hv; simp [matC] at hv; rcases hv with rfl | rfl | rfl | rfl <;> rfl) ?_
    simp (maxSteps := 300000) (disch := omega) only [gws, ↓reduceIte, reduceEqDiff, reduceToNat, reduceMul, reduceAdd, Nat.reduceBEq, isLd, over, matC, e8]
    have oH : Off H B := fun a ha => by
      have := hO a ha
      rwa [put_ne _ _ (hO.pne a ha)] at this
    have nb : ∀ a, B = some a → a.block ≠ b8 := fun a ha x => by
      have := oH a ha
      rw [x, g8] at this; cases this
    exact hk _ _ _ ((s8.trans sH).skip hb8) (oH.mono s8) (hW.put nb _)
/-- the cells of a product. -/
def prodF (p : Int) (n : Nat) (f g : Int → Int → Int) : Int → Int → Int := fun i j => dsum (f i) (fun t => g t j) n % p
def mat4 (p : Int) (R C : Nat) (A : Option Addr) (c : Nat) : List Value := [.int .i64 p, .int .i64 R, .int .i64 C, .slice A (R * C) c]
/-- a matrix that stands in a box. -/
structure MB (G : GH) (b : Nat) (p : Int) (R C : Nat) (A : Option Addr) (c : Nat) (f : Int → Int → Int) : Prop where
  f0 : rd G (some ⟨b, 0, none⟩) = some (.int .i64 p)
  f1 : rd G (some ⟨b, 1, none⟩) = some (.int .i64 R)
  f2 : rd G (some ⟨b, 2, none⟩) = some (.int .i64 C)
  f3 : rd G (some ⟨b, 3, none⟩) = some (.slice A (R * C) c)
  m : IntS G A c (flatL R C f)
theorem MB.sub {G G' : GH} {b : Nat} {p : Int} {R C : Nat} {A : Option Addr} {c : Nat} {f : Int → Int → Int} (h : MB G b p R C A c f) (s : Sub G G') : MB G' b p R C A c f := ⟨rd_sub s h.f0, rd_sub s h.f1, rd_sub s h.f2, rd_sub s h.f3, h.m.sub s⟩
theorem MB.mk' {G : GH} {b : Nat} {p : Int} {R C : Nat} {A : Option Addr} {c : Nat} {f : Int → Int → Int} (hb : G b = none) (h : IntS G A c (flatL R C f)) : MB (put G b ⟨mat4 p R C A c, true⟩) b p R C A c f :=
  ⟨rd_box _ _ _ 0 _ rfl, rd_box _ _ _ 1 _ rfl, rd_box _ _ _ 2 _ rfl, rd_box _ _ _ 3 _ rfl, h.sub (Sub.put hb _)⟩
theorem impl_at_ok {G : GH} {p : Int} {A : Option Addr} {R C c i j : Nat} {f : Int → Int → Int} (h : IntS G A c (flatL R C f)) (hi : i < R) (hj : j < C) (hC : C ≤ 2 ^ 20) (hR : R ≤ 2 ^ 20) {K : Value → GH → Prop} (hk : K (.int .i64 (f i j)) G) : GC Tryz.prog 126 [matV p R C A (R * C) c, .int .i64 (i : Int), .int .i64 (j : Int)] G K := by
  refine GC_drop (k1x (by simp) ?_)
  unfold matV matC
  simp (maxSteps := 300000) (disch := omega) only [gws, ↓reduceIte, reduceEqDiff, reduceToNat, reduceMul, reduceAdd, Nat.reduceBEq, isLd]
  intro b2 hb2
  have s2 := Sub.put hb2 ⟨mat4 p R C A c, true⟩
  have hB := MB.mk' (p := p) hb2 h
  unfold mat4 at s2 hB
  revert s2 hB
  generalize put G b2 ⟨[.int .i64 p, .int .i64 R, .int .i64 C, .slice A (R * C) c], true⟩ = G1
  intro s2 hB
  have m1 := mulB (a := (i : Int)) (b := (C : Int)) (A := 2 ^ 21) (B := 2 ^ 21) (by omega) (by omega)
  have w1 := w64 ((i : Int) * C) (by omega) (by omega)
  have w2 := w64 ((i : Int) * C + j) (by omega) (by omega)
  have e1 : (i : Int) * C + j = ((i * C + j : Nat) : Int) := by push_cast; rfl
  have hlt := flat_nat hi hj
  have hr := hB.m.rd (i * C + j) (by rw [flatL_len]; exact hlt)
  rw [flatL_get f hi hj] at hr
  have hsn := hB.m.sn (by rw [flatL_len]; omega)
  simp (maxSteps := 300000) (disch := omega) only [gws, ↓reduceIte, reduceEqDiff, reduceToNat, reduceMul, reduceAdd, Nat.reduceBEq, isLd, hB.f2, hB.f3, w1, w2, e1, hr]
  exact ⟨G, s2, hk⟩
theorem impl_transpose_ok {G : GH} {p : Int} {A : Option Addr} {R C c : Nat} {f : Int → Int → Int} (h : IntS G A c (flatL R C f)) (hC : C ≤ 2 ^ 10) (hR : R ≤ 2 ^ 10) {K : Value → GH → Prop}
    (hk : ∀ G' B d, Sub G G' → IntS G' B d (flatL C R fun i j => f j i) → K (matV p C R B (C * R) d) G') : GC Tryz.prog 218 [matV p R C A (R * C) c] G K := by
  refine kgb (by simp) ?_
  unfold matV matC
  simp (maxSteps := 300000) (disch := omega) only [gws, ↓reduceIte, reduceEqDiff, reduceToNat, reduceMul, reduceAdd, Nat.reduceBEq, isLd]
  intro b1 hb1
  simp (maxSteps := 300000) (disch := omega) only [gws, ↓reduceIte, reduceEqDiff, reduceToNat, reduceMul, reduceAdd, Nat.reduceBEq, isLd]
  intro b2 hb2
  have s1 := Sub.put hb1 ⟨mat4 p R C A c, true⟩
  have hB := MB.mk' (p := p) hb1 h
  have s2 := Sub.put (show put G b1 ⟨mat4 p R C A c, true⟩ b2 = none from hb2) ⟨[.int .i64 0, .int .i64 0, .int .i64 0, .slice none 0 0], true⟩
  have g2 := put_same (put G b1 ⟨mat4 p R C A c, true⟩) b2 ⟨[.int .i64 0, .int .i64 0, .int .i64 0, .slice none 0 0], true⟩
  have n2 : G b2 = none := (put_none.1 hb2).2
  have hB := hB.sub s2
  have s := s1.trans s2
  clear s1 s2
  unfold mat4 at s hB g2
  revert s hB g2
  generalize put (put G b1 ⟨[.int .i64 p, .int .i64 R, .int .i64 C, .slice A (R * C) c], true⟩) b2 ⟨[.int .i64 0, .int .i64 0, .int .i64 0, .slice none 0 0], true⟩ = G1
  intro g2 hB s
  simp (maxSteps := 300000) (disch := omega) only [gws, ↓reduceIte, reduceEqDiff, reduceToNat, reduceMul, reduceAdd, Nat.reduceBEq, isLd, hB.f0, hB.f1, hB.f2]
  refine impl_filledF_ok (R := C) (C := R) (dl := fun i j => f j i) hC hR (fun G' s' i j hi hj K' hK' => ?_) fun G2 B d s3 oB hW => ?_
  · have hB' := hB.sub s'
    simp (maxSteps := 300000) (disch := omega) only [gws, ↓reduceIte, reduceEqDiff, reduceToNat, reduceMul, reduceAdd, Nat.reduceBEq, isLd]
    refine kgg (by simp) ?_
    simp (maxSteps := 300000) (disch := omega) only [gws, ↓reduceIte, reduceEqDiff, reduceToNat, reduceMul, reduceAdd, Nat.reduceBEq, isLd, hB'.f0, hB'.f1, hB'.f2, hB'.f3]
    refine impl_at_ok (p := p) (R := R) (C := C) hB'.m hj hi (by omega) (by omega) ?_
    simp (maxSteps := 300000) (disch := omega) only [gws, ↓reduceIte, reduceEqDiff, reduceToNat, reduceMul, reduceAdd, Nat.reduceBEq, isLd]
    exact hK'
  · have g3 := s3 _ _ g2
    unfold matV matC
    simp (maxSteps := 300000) (disch := omega) only [gws, ↓reduceIte, reduceEqDiff, reduceToNat, reduceMul, reduceAdd, Nat.reduceBEq, isLd]
    refine st_many (vs := [.int .i64 p, .int .i64 C, .int .i64 R, .slice B (C * R) d]) rfl g3 rfl (by simp) (by intro v hv; simp at hv; rcases hv with rfl | rfl | rfl | rfl <;> rfl) ?_
    have nb : ∀ a, B = some a → a.block ≠ b2 := fun a ha e => by have := oB a ha; rw [e, g2] at this; cases this
    have hI : IntS (put G2 b2 ⟨[.int .i64 p, .int .i64 C, .int .i64 R, .slice B (C * R) d], true⟩) B d (flatL C R fun i j => f j i) := (hW.put nb _).ints' (by rw [flatL_len])
    simp (maxSteps := 300000) (disch := omega) only [gws, ↓reduceIte, reduceEqDiff, reduceToNat, reduceMul, reduceAdd, Nat.reduceBEq, isLd, over]
    exact hk _ _ _ ((s.trans s3).skip n2) hI
theorem impl_columnsOf_ok {G : GH} {p : Int} {A : Option Addr} {R C c : Nat} {f : Int → Int → Int} (h : IntS G A c (flatL R C f)) (hC : C ≤ 2 ^ 10) (hR : R ≤ 2 ^ 10) {K : Value → GH → Prop}
    (hk : ∀ G' Y y hs, Sub G G' → RowS G' Y y hs ((List.range C).map fun j : Nat => rowL R fun t => f t j) → K (.slice Y C y) G') : GC Tryz.prog 207 [matV p R C A (R * C) c] G K := by
  refine k7c (by simp) ?_
  unfold matV matC
  simp (maxSteps := 300000) (disch := omega) only [gws, ↓reduceIte, reduceEqDiff, reduceToNat, reduceMul, reduceAdd, Nat.reduceBEq, isLd]
  intro b1 hb1
  have s1 := Sub.put hb1 ⟨mat4 p R C A c, true⟩
  have hB := MB.mk' (p := p) hb1 h
  unfold mat4 at s1 hB
  revert s1 hB
  generalize put G b1 ⟨[.int .i64 p, .int .i64 R, .int .i64 C, .slice A (R * C) c], true⟩ = G1
  intro s1 hB
  simp (maxSteps := 300000) (disch := omega) only [gws, ↓reduceIte, reduceEqDiff, reduceToNat, reduceMul, reduceAdd, Nat.reduceBEq, isLd, hB.f0, hB.f1, hB.f2, hB.f3]
  refine impl_transpose_ok (p := p) (R := R) (C := C) hB.m hC hR fun G2 B d s2 hI => ?_
  simp (maxSteps := 300000) (disch := omega) only [gws, ↓reduceIte, reduceEqDiff, reduceToNat, reduceMul, reduceAdd, Nat.reduceBEq, isLd]
  refine impl_rowsOf2_ok (p := p) (R := C) (C := R) hI hR hC fun G3 Y y hs s3 hR => ?_
  simp (maxSteps := 300000) (disch := omega) only [gws, ↓reduceIte, reduceEqDiff, reduceToNat, reduceMul, reduceAdd, Nat.reduceBEq, isLd]
  exact hk G3 Y y hs ((s1.trans s2).trans s3) hR
theorem impl_product_ok {G : GH} {p p' : Int} {A B : Option Addr} {R n C c d : Nat} {f g : Int → Int → Int} (h : IntS G A c (flatL R n f)) (h' : IntS G B d (flatL n C g)) (hR : R ≤ 2 ^ 10) (hn : n ≤ 2 ^ 10) (hC : C ≤ 2 ^ 10) (hp : 2 ≤ p ∧ p ≤ 251) (hf : ∀ i j, 0 ≤ f i j ∧ f i j ≤ 250) (hg : ∀ i j, 0 ≤ g i j ∧ g i j ≤ 250) {K : Value → GH → Prop}
    (hk : ∀ G' D e, Sub G G' → Off G D → IntS G' D e (flatL R C (prodF p n f g)) → K (matV p R C D (R * C) e) G') : GC Tryz.prog 184 [matV p R n A (R * n) c, matV p' n C B (n * C) d] G K := by
  refine kco (by simp) ?_
  unfold matV matC
  simp (maxSteps := 300000) (disch := omega) only [gws, ↓reduceIte, reduceEqDiff, reduceToNat, reduceMul, reduceAdd, Nat.reduceBEq, isLd]
  intro b2 hb2
  simp (maxSteps := 300000) (disch := omega) only [gws, ↓reduceIte, reduceEqDiff, reduceToNat, reduceMul, reduceAdd, Nat.reduceBEq, isLd]
  intro b3 hb3
  simp (maxSteps := 300000) (disch := omega) only [gws, ↓reduceIte, reduceEqDiff, reduceToNat, reduceMul, reduceAdd, Nat.reduceBEq, isLd]
  intro b4 hb4
  have s2 := Sub.put hb2 ⟨mat4 p R n A c, true⟩
  have hB2 := MB.mk' (p := p) hb2 h
  have s3 := Sub.put (show put G b2 ⟨mat4 p R n A c, true⟩ b3 = none from hb3) ⟨mat4 p' n C B d, true⟩
  have hB3 := MB.mk' (p := p') (show put G b2 ⟨mat4 p R n A c, true⟩ b3 = none from hb3) (h'.sub s2)
  have s4 := Sub.put (show put (put G b2 ⟨mat4 p R n A c, true⟩) b3 ⟨mat4 p' n C B d, true⟩ b4 = none from hb4) ⟨[.int .i64 0, .int .i64 0, .int .i64 0, .slice none 0 0], true⟩
  have g4 := put_same (put (put G b2 ⟨mat4 p R n A c, true⟩) b3 ⟨mat4 p' n C B d, true⟩) b4 ⟨[.int .i64 0, .int .i64 0, .int .i64 0, .slice none 0 0], true⟩
  have n4 : G b4 = none := (s2.trans s3).none hb4
  have hB2 := (hB2.sub s3).sub s4
  have hB3 := hB3.sub s4
  have s := (s2.trans s3).trans s4
  clear s2 s3 s4
  unfold mat4 at s hB2 hB3 g4
  revert s hB2 hB3 g4
  generalize put (put (put G b2 ⟨[.int .i64 p, .int .i64 R, .int .i64 n, .slice A (R * n) c], true⟩) b3 ⟨[.int .i64 p', .int .i64 n, .int .i64 C, .slice B (n * C) d], true⟩) b4 ⟨[.int .i64 0, .int .i64 0, .int .i64 0, .slice none 0 0], true⟩ = G1
  intro g4 hB2 hB3 s
  simp (maxSteps := 300000) (disch := omega) only [gws, ↓reduceIte, reduceEqDiff, reduceToNat, reduceMul, reduceAdd, Nat.reduceBEq, isLd, hB3.f0, hB3.f1, hB3.f2, hB3.f3]
  refine impl_columnsOf_ok (p := p') (R := n) (C := C) hB3.m hC hn fun G2 Y y hs s2 hRw => ?_
  simp (maxSteps := 300000) (disch := omega) only [gws, ↓reduceIte, reduceEqDiff, reduceToNat, reduceMul, reduceAdd, Nat.reduceBEq, isLd]
  intro b5 hb5
  simp (maxSteps := 300000) (disch := omega) only [gws, ↓reduceIte, reduceEqDiff, reduceToNat, reduceMul, reduceAdd, Nat.reduceBEq, isLd]
  refine st_one (put_same _ _ _) (by simp) rfl ?_
  rw [put_put', show List.set [Value.slice none 0 0] 0 (.slice Y C y) = [.slice Y C y] from rfl]
  have s5 := Sub.put hb5 ⟨[.slice Y C y], true⟩
  have f5 : rd (put G2 b5 ⟨[.slice Y C y], true⟩) (some ⟨b5, 0, none⟩) = some (.slice Y C y) := rd_box _ _ _ 0 _ rfl
  have hRw := hRw.sub s5
  have ss := s2.trans s5
  clear s5 s2
  revert f5 hRw ss
  generalize put G2 b5 ⟨[.slice Y C y], true⟩ = G3
  intro f5 hRw ss
  have hB2 := hB2.sub ss
  have hB3 := hB3.sub ss
  have g4 := ss _ _ g4
  have s := s.trans ss
  simp (maxSteps := 300000) (disch := omega) only [gws, ↓reduceIte, reduceEqDiff, reduceToNat, reduceMul, reduceAdd, Nat.reduceBEq, isLd, hB2.f0, hB2.f1, hB3.f2]
  refine impl_filledF_ok (R := R) (C := C) (dl := prodF p n f g) hR hC (fun G' s' i j hi hj K' hK' => ?_) fun G4 D e s4 oD hW => ?_
  · have hB2 := hB2.sub s'
    have f5 := rd_sub s' f5
    have hRw := hRw.sub s'
    have hL : ((List.range C).map fun j : Nat => rowL n fun t => g t j).length = C := by simp
    have hrj := hRw.r j (by rw [hL]; exact hj)
    have hrow := hRw.row j (by rw [hL]; exact hj)
    have hgj : ((List.range C).map fun j : Nat => rowL n fun t => g t j).getD j [] = rowL n fun t => g t j := by simp [List.getD, hj]
    rw [hgj] at hrj hrow
    rw [rowL_len] at hrj
    have hsn := hRw.sn (by rw [hL]; omega)
    simp (maxSteps := 300000) (disch := omega) only [gws, ↓reduceIte, reduceEqDiff, reduceToNat, reduceMul, reduceAdd, Nat.reduceBEq, isLd]
    refine kct (by simp) ?_
    simp (maxSteps := 300000) (disch := omega) only [gws, ↓reduceIte, reduceEqDiff, reduceToNat, reduceMul, reduceAdd, Nat.reduceBEq, isLd, hB2.f0, hB2.f1, hB2.f2, hB2.f3, f5, hrj]
    refine impl_row2_ok (p := p) (R := R) (C := n) (A := A) (c := c) (i := i) (f := f) hB2.m hi (by omega) (by omega) fun B' d' hI => ?_
    simp (maxSteps := 300000) (disch := omega) only [gws, ↓reduceIte, reduceEqDiff, reduceToNat, reduceMul, reduceAdd, Nat.reduceBEq, isLd, hB2.f0, hB2.f1, hB2.f2, hB2.f3, f5, hrj]
    refine impl_dotU_ok hI hrow (Nat.le_refl _) hn hp (fun t _ => hf i t) (fun t _ => hg t j) ?_
    simp (maxSteps := 300000) (disch := omega) only [gws, ↓reduceIte, reduceEqDiff, reduceToNat, reduceMul, reduceAdd, Nat.reduceBEq, isLd, hB2.f0, hB2.f1, hB2.f2, hB2.f3, f5, hrj]
    exact hK'
  · have g4' := s4 _ _ g4
    unfold matV matC
    simp (maxSteps := 300000) (disch := omega) only [gws, ↓reduceIte, reduceEqDiff, reduceToNat, reduceMul, reduceAdd, Nat.reduceBEq, isLd]
    refine st_many (vs := [.int .i64 p, .int .i64 R, .int .i64 C, .slice D (R * C) e]) rfl g4' rfl (by simp) (by intro v hv; simp at hv; rcases hv with rfl | rfl | rfl | rfl <;> rfl) ?_
    have nb : ∀ a, D = some a → a.block ≠ b4 := fun a ha e => by have := oD a ha; rw [e, g4] at this; cases this
    have hI : IntS (put G4 b4 ⟨[.int .i64 p, .int .i64 R, .int .i64 C, .slice D (R * C) e], true⟩) D e (flatL R C (prodF p n f g)) := (hW.put nb _).ints' (by rw [flatL_len])
    simp (maxSteps := 300000) (disch := omega) only [gws, ↓reduceIte, reduceEqDiff, reduceToNat, reduceMul, reduceAdd, Nat.reduceBEq, isLd, over]
    exact hk _ _ _ ((s.trans s4).skip n4) (oD.mono s) hI
/-- a matrix that a pointer leads to. -/
structure MQ (G : GH) (q : Option Addr) (p : Int) (R C : Nat) (A : Option Addr) (c : Nat) (f : Int → Int → Int) : Prop where
  f0 : rd G q = some (.int .i64 p)
  f1 : rd G (pa q 1) = some (.int .i64 R)
  f2 : rd G (pa q 2) = some (.int .i64 C)
  f3 : rd G (pa q 3) = some (.slice A (R * C) c)
  m : IntS G A c (flatL R C f)
theorem MQ.sub {G G' : GH} {q : Option Addr} {p : Int} {R C : Nat} {A : Option Addr} {c : Nat} {f : Int → Int → Int} (h : MQ G q p R C A c f) (s : Sub G G') : MQ G' q p R C A c f := ⟨rd_sub s h.f0, rd_sub s h.f1, rd_sub s h.f2, rd_sub s h.f3, h.m.sub s⟩
theorem MQ.cell {G : GH} {q : Option Addr} {p : Int} {R C : Nat} {A : Option Addr} {c : Nat} {f : Int → Int → Int} (h : MQ G q p R C A c f) {i j : Nat} (hi : i < R) (hj : j < C) : rd G (pa A (i * C + j)) = some (.int .i64 (f i j)) := by
  have := h.m.rd (i * C + j) (by rw [flatL_len]; exact flat_nat hi hj)
  rwa [flatL_get f hi hj] at this
theorem Fl.ints {G : GH} {b R w : Nat} {f : Int → Int → Int} (h : Fl G b R w f) : IntS G (some ⟨b, 0, none⟩) (R * w) (flatL R w f) := by
  refine ⟨by rw [flatL_len]; omega, fun v hv => ?_⟩
  rw [flatL_len] at hv
  have hw : 0 < w := by
    rcases Nat.eq_zero_or_pos w with e | e
    · subst e; omega
    · exact e
  have hi : v / w < R := (Nat.div_lt_iff_lt_mul hw).2 hv
  have hj : v % w < w := Nat.mod_lt _ hw
  have e : v / w * w + v % w = v := by rw [Nat.mul_comm]; exact Nat.div_add_mod v w
  have h1 := h.rd hi hj
  have h2 := flatL_get f hi hj
  rw [e] at h2
  rw [h2, pa_mk, Nat.zero_add]
  rwa [show (((v / w : Nat) : Int) * w + ((v % w : Nat) : Int)).toNat = v by rw [show (((v / w : Nat) : Int) * w + ((v % w : Nat) : Int)) = ((v / w * w + v % w : Nat) : Int) by push_cast; rfl, e]; rfl] at h1
theorem Fl.zero {G : GH} {b R w : Nat} (h : G b = some ⟨zc [.int .i64 0] (R * w), true⟩) : Fl G b R w (fun _ _ => 0) := by
  refine ⟨fun _ => 0, [], ?_, fun i j _ _ => rfl⟩
  rw [h]
  congr 2
  rw [show [Value.int .i64 0] = List.replicate 1 (.int .i64 0) from rfl, zc_rep, Nat.mul_one, List.append_nil]
  refine List.ext_getElem (by simp [fcells_len]) fun i h1 h2 => ?_
  simp [fcells, I64]
theorem Fl.st' {G : GH} {b R w : Nat} {f : Int → Int → Int} (h : Fl G b R w f) {i j : Nat} (hi : i < R) (hj : j < w) {x : Int} {K : Value → GH → Prop} (hk : ∀ G', Fl G' b R w (upd2 f i j x) → Keep b G G' → K undef G') : gSt 1 (.pointer (some ⟨b, i * w + j, none⟩)) (.int .i64 x) G K := by
  have := h.st hi hj (x := x) hk
  rwa [show ((i : Int) * w + j).toNat = i * w + j by rw [show ((i : Int) * w + j) = ((i * w + j : Nat) : Int) by push_cast; rfl]; rfl] at this
theorem spec_l03Zero_ok {G : GH} {p : Int} {R C : Nat} (hR : R ≤ 2 ^ 10) (hC : C ≤ 2 ^ 10) {K : Value → GH → Prop} (hk : ∀ bz, G bz = none → K (matV p R C (some ⟨bz, 0, none⟩) (R * C) (R * C)) (put G bz ⟨zc [.int .i64 0] (R * C), true⟩)) : GC Tryz.prog 120 [.int .i64 p, .int .i64 R, .int .i64 C] G K := by
  refine GC_drop (k10a (by simp) ?_)
  have hRC : R * C ≤ 2 ^ 10 * 2 ^ 10 := Nat.mul_le_mul hR hC
  have e1 : (R : Int) * C = ((R * C : Nat) : Int) := by push_cast; rfl
  have w1 := w64 ((R * C : Nat) : Int) (by omega) (by omega)
  simp (maxSteps := 300000) (disch := omega) only [gws, ↓reduceIte, reduceEqDiff, reduceToNat, reduceMul, reduceAdd, Nat.reduceBEq, isLd]
  intro b6 hb6
  have g6 := put_same G b6 ⟨[.int .i64 0, .int .i64 0, .int .i64 0, .slice none 0 0], true⟩
  simp (maxSteps := 300000) (disch := omega) only [gws, ↓reduceIte, reduceEqDiff, reduceToNat, reduceMul, reduceAdd, Nat.reduceBEq, isLd, e1, w1]
  refine ⟨R * C, R * C, rfl, rfl, Nat.le_refl _, by omega, by omega, fun bz hbz => ?_⟩
  have hbl : bldV [Value.int .i64 0, .int .i64 0, .int .i64 0, .slice none 0 0] [(0, 1, .int .i64 p), (1, 1, .int .i64 R), (2, 1, .int .i64 C), (3, 1, .slice (some ⟨bz, 0, none⟩) (R * C) (R * C))] = some [.int .i64 p, .int .i64 R, .int .i64 C, .slice (some ⟨bz, 0, none⟩) (R * C) (R * C)] := rfl
  simp (maxSteps := 300000) (disch := omega) only [gws, ↓reduceIte, reduceEqDiff, reduceToNat, reduceMul, reduceAdd, Nat.reduceBEq, isLd, hbl]
  have nz : bz ≠ b6 := (put_none.1 hbz).1
  have gz : G bz = none := (put_none.1 hbz).2
  refine st_many (vs := [.int .i64 p, .int .i64 R, .int .i64 C, .slice (some ⟨bz, 0, none⟩) (R * C) (R * C)]) rfl (by rw [put_ne _ _ (Ne.symm nz)]; exact g6) rfl (by simp) (by intro v hv; simp at hv; rcases hv with rfl | rfl | rfl | rfl <;> rfl) ?_
  simp (maxSteps := 300000) (disch := omega) only [gws, ↓reduceIte, reduceEqDiff, reduceToNat, reduceMul, reduceAdd, Nat.reduceBEq, isLd, over]
  refine ⟨put G bz ⟨zc [.int .i64 0] (R * C), true⟩, fun x e hx => ?_, hk bz gz⟩
  by_cases c6 : x = b6
  · subst c6
    rw [put_ne _ _ (Ne.symm nz), hb6] at hx; cases hx
  · rw [put_ne _ _ c6]
    by_cases cz : x = bz
    · subst cz; rw [put_same] at hx ⊢; exact hx
    · rw [put_ne _ _ cz] at hx ⊢; rw [put_ne _ _ c6]; exact hx
theorem lt_tree {G : GH} {qa qb A B : Option Addr} {p p' : Int} {R n n' C c d : Nat} {f g : Int → Int → Int} {T : Nat → Value} {K : (Nat → Value) → GH → Prop} (t0 : T 0 = .pointer qa) (t1 : T 1 = .pointer qb) (ha : MQ G qa p R n A c f) (hb : MQ G qb p' n' C B d g) (hR : R ≤ 2 ^ 10) (hC : C ≤ 2 ^ 10)
    (hK : ∀ T' G' b5 bz, Sub G G' → G bz = none → b5 ≠ bz → (∀ i, i < 5 → T' i = T i) → T' 5 = .pointer (some ⟨b5, 0, none⟩) → G' b5 = some ⟨[.int .i64 p, .int .i64 R, .int .i64 C, .slice (some ⟨bz, 0, none⟩) (R * C) (R * C)], true⟩ → G' bz = some ⟨zc [.int .i64 0] (R * C), true⟩ → K T' G') : gT Tryz.prog kzm [] K T G := by
  have f0 := ha.f0
  have f1 := ha.f1
  have f2 := hb.f2
  have hqa := rd_some f0
  have hqb : 0 < sn qb := rd_some hb.f0
  simp (maxSteps := 300000) (disch := omega) only [gws, ↓reduceIte, reduceEqDiff, reduceToNat, reduceMul, reduceAdd, Nat.reduceBEq, isLd, t0, t1, f0, f1, f2]
  refine ⟨spec_l03Zero_ok hR hC fun bz hbz => ?_, fun b5 hb5 => ?_⟩
  · have sz := Sub.put hbz ⟨zc [.int .i64 0] (R * C), true⟩
    unfold matV matC
    simp (maxSteps := 300000) (disch := omega) only [gws, ↓reduceIte, reduceEqDiff, reduceToNat, reduceMul, reduceAdd, Nat.reduceBEq, isLd]
    intro b5 hb5
    have nz : b5 ≠ bz := (put_none.1 hb5).1
    have s5 := Sub.put hb5 ⟨[.int .i64 p, .int .i64 R, .int .i64 C, .slice (some ⟨bz, 0, none⟩) (R * C) (R * C)], true⟩
    have s5z := Sub.put hb5 ⟨[.int .i64 0, .int .i64 0, .int .i64 0, .slice none 0 0], true⟩
    refine ⟨⟨rd_sub s5z (rd_sub sz f2), rd_sub s5z (rd_sub sz f1), rd_sub s5z (rd_sub sz f0), trivial⟩, ?_⟩
    simp (maxSteps := 300000) (disch := omega) only [gws, ↓reduceIte, reduceEqDiff, reduceToNat, reduceMul, reduceAdd, Nat.reduceBEq, isLd]
    refine st_fresh (vs := [.int .i64 p, .int .i64 R, .int .i64 C, .slice (some ⟨bz, 0, none⟩) (R * C) (R * C)]) rfl rfl rfl (by intro v hv; simp at hv; rcases hv with rfl | rfl | rfl | rfl <;> rfl) ?_
    simp (maxSteps := 300000) (disch := omega) only [gws, ↓reduceIte, reduceEqDiff, reduceToNat, reduceMul, reduceAdd, Nat.reduceBEq, isLd]
    exact hK _ _ b5 bz (sz.trans s5) hbz nz (fun i hi => by repeat rw [upd_app, if_neg (by omega)]) (by simp (maxSteps := 300000) (disch := omega) only [gws, ↓reduceIte, reduceEqDiff, reduceToNat, reduceMul, reduceAdd, Nat.reduceBEq, isLd]) (put_same _ _ _) (s5 _ _ (put_same _ _ _))
  · have s5 := Sub.put hb5 ⟨[.int .i64 0, .int .i64 0, .int .i64 0, .slice none 0 0], true⟩
    refine ⟨⟨rd_sub s5 f2, rd_sub s5 f1, rd_sub s5 f0, trivial⟩, ?_⟩
    simp (maxSteps := 300000) (disch := omega) only [gws, ↓reduceIte, reduceEqDiff, reduceToNat, reduceMul, reduceAdd, Nat.reduceBEq, isLd]
    refine spec_l03Zero_ok hR hC fun bz hbz => ?_
    have nz : bz ≠ b5 := (put_none.1 hbz).1
    have gz : G bz = none := (put_none.1 hbz).2
    have sz := Sub.put hbz ⟨zc [.int .i64 0] (R * C), true⟩
    unfold matV matC
    simp (maxSteps := 300000) (disch := omega) only [gws, ↓reduceIte, reduceEqDiff, reduceToNat, reduceMul, reduceAdd, Nat.reduceBEq, isLd]
    refine st_many (vs := [.int .i64 p, .int .i64 R, .int .i64 C, .slice (some ⟨bz, 0, none⟩) (R * C) (R * C)]) rfl (sz _ _ (put_same _ _ _)) rfl (by simp) (by intro v hv; simp at hv; rcases hv with rfl | rfl | rfl | rfl <;> rfl) ?_
    simp (maxSteps := 300000) (disch := omega) only [gws, ↓reduceIte, reduceEqDiff, reduceToNat, reduceMul, reduceAdd, Nat.reduceBEq, isLd, over]
    exact hK _ _ b5 bz ((s5.trans sz).skip hb5) gz (Ne.symm nz) (fun i hi => by repeat rw [upd_app, if_neg (by omega)]) (by simp (maxSteps := 300000) (disch := omega) only [gws, ↓reduceIte, reduceEqDiff, reduceToNat, reduceMul, reduceAdd, Nat.reduceBEq, isLd]) (put_same _ _ _) (by rw [put_ne _ _ nz]; exact put_same _ _ _)
theorem lt_l0 {G : GH} {qa qb A B : Option Addr} {p p' : Int} {b5 R n C c d i k : Nat} {f g : Int → Int → Int} {T : Nat → Value} {Q : Cont} (t0 : T 0 = .pointer qa) (t1 : T 1 = .pointer qb) (t4 : ∃ b4, T 4 = .pointer (some ⟨b4, 0, none⟩)) (t5 : T 5 = .pointer (some ⟨b5, 0, none⟩)) (t6 : T 6 = .int .i64 i) (t7 : T 7 = .int .i64 k) (t8 : T 8 = .int .i64 0) (t9 : T 9 = .int .i64 0)
    (ha : MQ G qa p R n A c f) (hb : MQ G qb p' n C B d g) (hR : R ≤ 2 ^ 10) (hn : n ≤ 2 ^ 10) (hC : C ≤ 2 ^ 10) (hi : i < R) (hk : k < C) (hf : ∀ i j, 0 ≤ f i j ∧ f i j ≤ 250) (hg : ∀ i j, 0 ≤ g i j ∧ g i j ≤ 250)
    (hQ : ∀ T', T' 0 = .pointer qa → T' 1 = .pointer qb → T' 4 = T 4 → T' 5 = .pointer (some ⟨b5, 0, none⟩) → T' 6 = .int .i64 i → T' 7 = .int .i64 k → T' 8 = .int .i64 (dsum (f i) (fun t => g t k) n) → Q (.ex 4) T' G) : gLoop (gW Tryz.prog kzw) Q T G := by
  have hqa := rd_some ha.f0
  have hqb : 0 < sn qb := rd_some hb.f0
  obtain ⟨b4, t4⟩ := t4
  refine gLoop_intro (fun m T G' => ∃ j : Nat, T 0 = .pointer qa ∧ T 1 = .pointer qb ∧ T 4 = .pointer (some ⟨b4, 0, none⟩) ∧ T 5 = .pointer (some ⟨b5, 0, none⟩) ∧ T 6 = .int .i64 i ∧ T 7 = .int .i64 k ∧ T 8 = .int .i64 (dsum (f i) (fun t => g t k) j) ∧ T 9 = .int .i64 j ∧ m + j = n ∧ j ≤ n ∧ G = G') n
    ⟨0, t0, t1, t4, t5, t6, t7, t8, t9, by omega, by omega, rfl⟩ ?_
  have t4' := t4
  clear t0 t1 t4 t5 t6 t7 t8 t9
  rintro m T' G' ⟨j, t0, t1, t4, t5, t6, t7, t8, t9, hm, hjn, rfl⟩
  simp (maxSteps := 300000) (disch := omega) only [gws, ↓reduceIte, reduceEqDiff, reduceToNat, reduceMul, reduceAdd, Nat.reduceBEq, isLd, t0, t1, t4, t5, t6, t7, t8, t9, ha.f2]
  by_cases hj : (j : Int) < n
  · have hj' : j < n := by omega
    have r1 := ha.cell hi hj'
    have r2 := hb.cell hj' hk
    have huv := uv_bd (hf i j) (hg j k)
    have hds := dsum_bd (u := f i) (v := fun t => g t k) (n := n) (fun t _ => hf i t) (fun t _ => hg t k) j (by omega)
    have m1 := mulB (a := (i : Int)) (b := (n : Int)) (A := 2 ^ 10) (B := 2 ^ 10) (by omega) (by omega)
    have m2 := mulB (a := (j : Int)) (b := (C : Int)) (A := 2 ^ 10) (B := 2 ^ 10) (by omega) (by omega)
    have w1 := w64 ((i : Int) * n) (by omega) (by omega)
    have w2 := w64 ((i : Int) * n + j) (by omega) (by omega)
    have w3 := w64 ((j : Int) * C) (by omega) (by omega)
    have w4 := w64 ((j : Int) * C + k) (by omega) (by omega)
    have w5 := w64 (f i j * g j k) (by omega) (by omega)
    have e1 : (i : Int) * n + j = ((i * n + j : Nat) : Int) := by push_cast; rfl
    have e2 : (j : Int) * C + k = ((j * C + k : Nat) : Int) := by push_cast; rfl
    have l1 := flat_nat hi hj'
    have l2 := flat_nat hj' hk
    have s1 := ha.m.sn (by rw [flatL_len]; omega)
    have s2 := hb.m.sn (by rw [flatL_len]; omega)
    have w6 := w64 (dsum (f i) (fun t => g t k) j + f i j * g j k) (by omega) (by omega)
    simp (maxSteps := 300000) (disch := omega) only [gws, ↓reduceIte, reduceEqDiff, reduceToNat, reduceMul, reduceAdd, Nat.reduceBEq, isLd, t0, t1, t4, t5, t6, t7, t8, t9, hj, ha.f0, ha.f2, ha.f3, hb.f2, hb.f3, w1, w2, w3, w4, e1, e2, r1, r2, w5, w6]
    exact ⟨m - 1, by omega, _, Sub.refl _, j + 1, rfl, rfl, by omega, by omega, rfl⟩
  · obtain rfl : j = n := by omega
    simp (maxSteps := 300000) (disch := omega) only [gws, ↓reduceIte, reduceEqDiff, reduceToNat, reduceMul, reduceAdd, Nat.reduceBEq, isLd, t0, t1, t4, t5, t6, t7, t8, t9, hj]
    exact hQ _ (by simp (maxSteps := 300000) (disch := omega) only [gws, ↓reduceIte, reduceEqDiff, reduceToNat, reduceMul, reduceAdd, Nat.reduceBEq, isLd, t0]) (by simp (maxSteps := 300000) (disch := omega) only [gws, ↓reduceIte, reduceEqDiff, reduceToNat, reduceMul, reduceAdd, Nat.reduceBEq, isLd, t1]) (by simp (maxSteps := 300000) (disch := omega) only [gws, ↓reduceIte, reduceEqDiff, reduceToNat, reduceMul, reduceAdd, Nat.reduceBEq, isLd, t4, t4']) (by simp (maxSteps := 300000) (disch := omega) only [gws, ↓reduceIte, reduceEqDiff, reduceToNat, reduceMul, reduceAdd, Nat.reduceBEq, isLd, t5]) (by simp (maxSteps := 300000) (disch := omega) only [gws, ↓reduceIte, reduceEqDiff, reduceToNat, reduceMul, reduceAdd, Nat.reduceBEq, isLd, t6]) (by simp (maxSteps := 300000) (disch := omega) only [gws, ↓reduceIte, reduceEqDiff, reduceToNat, reduceMul, reduceAdd, Nat.reduceBEq, isLd, t7]) (by simp (maxSteps := 300000) (disch := omega) only [gws, ↓reduceIte, reduceEqDiff, reduceToNat, reduceMul, reduceAdd, Nat.reduceBEq, isLd, t8])
theorem spec_l03Times_ok {G : GH} {qa qb A B : Option Addr} {p p' : Int} {R n C c d : Nat} {f g : Int → Int → Int} (ha : MQ G qa p R n A c f) (hb : MQ G qb p' n C B d g) (hR : R ≤ 2 ^ 10) (hn : n ≤ 2 ^ 10) (hC : C ≤ 2 ^ 10) (hp : 2 ≤ p ∧ p ≤ 251) (hf : ∀ i j, 0 ≤ f i j ∧ f i j ≤ 250) (hg : ∀ i j, 0 ≤ g i j ∧ g i j ≤ 250) {K : Value → GH → Prop}
    (hk : ∀ G' D e, Sub G G' → Off G D → IntS G' D e (flatL R C (prodF p n f g)) → K (matV p R C D (R * C) e) G') : GC Tryz.prog 173 [.pointer qa, .pointer qb] G K := by
  refine k105 (by simp) ?_
  have hw := @lt_tree
  unfold k103
  generalize kzm = D1 at hw ⊢
  simp (maxSteps := 300000) (disch := omega) only [gws, ↓reduceIte, reduceEqDiff, reduceToNat, reduceMul, reduceAdd, Nat.reduceBEq, isLd]
  intro b4 hb4
  have s4 := Sub.put hb4 ⟨[.int .i64 0, .int .i64 0, .int .i64 0, .slice none 0 0], true⟩
  have g4 := put_same G b4 ⟨[.int .i64 0, .int .i64 0, .int .i64 0, .slice none 0 0], true⟩
  revert s4 g4
  generalize put G b4 ⟨[.int .i64 0, .int .i64 0, .int .i64 0, .slice none 0 0], true⟩ = G4
  intro s4 g4
  simp (maxSteps := 300000) (disch := omega) only [gws, ↓reduceIte, reduceEqDiff, reduceToNat, reduceMul, reduceAdd, Nat.reduceBEq, isLd]
  refine hw (by simp (maxSteps := 300000) (disch := omega) only [gws, ↓reduceIte, reduceEqDiff, reduceToNat, reduceMul, reduceAdd, Nat.reduceBEq, isLd]) (by simp (maxSteps := 300000) (disch := omega) only [gws, ↓reduceIte, reduceEqDiff, reduceToNat, reduceMul, reduceAdd, Nat.reduceBEq, isLd]) (ha.sub s4) (hb.sub s4) hR hC fun T1 G1 b5 bz s1 gz n5 hT t5 g5 gzz => ?_
  have t0 : T1 0 = .pointer qa := by rw [hT 0 (by omega)]; simp (maxSteps := 300000) (disch := omega) only [gws, ↓reduceIte, reduceEqDiff, reduceToNat, reduceMul, reduceAdd, Nat.reduceBEq, isLd]
  have t1 : T1 1 = .pointer qb := by rw [hT 1 (by omega)]; simp (maxSteps := 300000) (disch := omega) only [gws, ↓reduceIte, reduceEqDiff, reduceToNat, reduceMul, reduceAdd, Nat.reduceBEq, isLd]
  have t4 : T1 4 = .pointer (some ⟨b4, 0, none⟩) := by rw [hT 4 (by omega)]; simp (maxSteps := 300000) (disch := omega) only [gws, ↓reduceIte, reduceEqDiff, reduceToNat, reduceMul, reduceAdd, Nat.reduceBEq, isLd]
  clear hT
  have n4 : b4 ≠ bz := fun e => by rw [← e, g4] at gz; cases gz
  have sH : Sub G4 (del G1 bz) := s1.in_del gz
  have ha' := (ha.sub s4).sub sH
  have hb' := (hb.sub s4).sub sH
  have h5 : del G1 bz b5 = some ⟨[.int .i64 p, .int .i64 R, .int .i64 C, .slice (some ⟨bz, 0, none⟩) (R * C) (R * C)], true⟩ := by rw [del_ne _ n5]; exact g5
  have h4 := sH _ _ g4
  have hz : del G1 bz bz = none := del_none _ _
  have sG : Sub G (del G1 bz) := s4.trans sH
  have hF0 := Fl.zero gzz
  have gz0 : G bz = none := s4.none gz
  have hS0 : Sub (del G1 bz) G1 := Sub.del _ _
  clear ha hb g5 gzz sH s1 gz g4
  generalize del G1 bz = H at ha' hb' h5 h4 hz sG hS0
  have m5 : ∀ {G' : GH}, Sub H G' → rd G' (some ⟨b5, 0, none⟩) = some (.int .i64 p) ∧ rd G' (some ⟨b5, 1, none⟩) = some (.int .i64 R) ∧ rd G' (some ⟨b5, 2, none⟩) = some (.int .i64 C) ∧ rd G' (some ⟨b5, 3, none⟩) = some (.slice (some ⟨bz, 0, none⟩) (R * C) (R * C)) := fun s => by
    simp only [rd, s _ _ h5]; exact ⟨rfl, rfl, rfl, rfl⟩
  have hqa := rd_some ha'.f0
  have hqb : 0 < sn qb := rd_some hb'.f0
  simp (maxSteps := 300000) (disch := omega) only [gws, ↓reduceIte, reduceEqDiff, reduceToNat, reduceMul, reduceAdd, Nat.reduceBEq, isLd, t0, t1, t4, t5]
  refine gLoop_intro (fun m T G' => ∃ (i : Nat) (F : Int → Int → Int), T 0 = .pointer qa ∧ T 1 = .pointer qb ∧ T 4 = .pointer (some ⟨b4, 0, none⟩) ∧ T 5 = .pointer (some ⟨b5, 0, none⟩) ∧ T 6 = .int .i64 i ∧ m + i = R ∧ i ≤ R ∧ Sub H G' ∧ Fl G' bz R C F ∧ ∀ i' k' : Nat, i' < i → k' < C → F i' k' = prodF p n f g i' k') R
    ⟨0, _, by simp (maxSteps := 300000) (disch := omega) only [gws, ↓reduceIte, reduceEqDiff, reduceToNat, reduceMul, reduceAdd, Nat.reduceBEq, isLd, t0], by simp (maxSteps := 300000) (disch := omega) only [gws, ↓reduceIte, reduceEqDiff, reduceToNat, reduceMul, reduceAdd, Nat.reduceBEq, isLd, t1], by simp (maxSteps := 300000) (disch := omega) only [gws, ↓reduceIte, reduceEqDiff, reduceToNat, reduceMul, reduceAdd, Nat.reduceBEq, isLd, t4], by simp (maxSteps := 300000) (disch := omega) only [gws, ↓reduceIte, reduceEqDiff, reduceToNat, reduceMul, reduceAdd, Nat.reduceBEq, isLd, t5], by simp (maxSteps := 300000) (disch := omega) only [gws, ↓reduceIte, reduceEqDiff, reduceToNat, reduceMul, reduceAdd, Nat.reduceBEq, isLd] <;> rfl, by omega, by omega, hS0, hF0, fun i' k' h1 h2 => by omega⟩ ?_
  clear t0 t1 t4 t5 hF0 hS0
  rintro m T G2 ⟨i, F, t0, t1, t4, t5, t6, hm, hiR, hS, hF, hin⟩
  have ha2 := ha'.sub hS
  simp (maxSteps := 300000) (disch := omega) only [gws, ↓reduceIte, reduceEqDiff, reduceToNat, reduceMul, reduceAdd, Nat.reduceBEq, isLd, t0, t1, t4, t5, t6, ha2.f1]
  by_cases hi : (i : Int) < R
  · simp (maxSteps := 300000) (disch := omega) only [gws, ↓reduceIte, reduceEqDiff, reduceToNat, reduceMul, reduceAdd, Nat.reduceBEq, isLd, t0, t1, t4, t5, t6, hi]
    refine gLoop_intro (fun m' T G' => ∃ (k : Nat) (F : Int → Int → Int), T 0 = .pointer qa ∧ T 1 = .pointer qb ∧ T 4 = .pointer (some ⟨b4, 0, none⟩) ∧ T 5 = .pointer (some ⟨b5, 0, none⟩) ∧ T 6 = .int .i64 i ∧ T 7 = .int .i64 k ∧ m' + k = C ∧ k ≤ C ∧ Sub H G' ∧ Fl G' bz R C F ∧ ∀ i' k' : Nat, (i' < i ∨ (i' = i ∧ k' < k)) → k' < C → F i' k' = prodF p n f g i' k') C
      ⟨0, F, by simp (maxSteps := 300000) (disch := omega) only [gws, ↓reduceIte, reduceEqDiff, reduceToNat, reduceMul, reduceAdd, Nat.reduceBEq, isLd, t0], by simp (maxSteps := 300000) (disch := omega) only [gws, ↓reduceIte, reduceEqDiff, reduceToNat, reduceMul, reduceAdd, Nat.reduceBEq, isLd, t1], by simp (maxSteps := 300000) (disch := omega) only [gws, ↓reduceIte, reduceEqDiff, reduceToNat, reduceMul, reduceAdd, Nat.reduceBEq, isLd, t4], by simp (maxSteps := 300000) (disch := omega) only [gws, ↓reduceIte, reduceEqDiff, reduceToNat, reduceMul, reduceAdd, Nat.reduceBEq, isLd, t5], by simp (maxSteps := 300000) (disch := omega) only [gws, ↓reduceIte, reduceEqDiff, reduceToNat, reduceMul, reduceAdd, Nat.reduceBEq, isLd, t6], by simp (maxSteps := 300000) (disch := omega) only [gws, ↓reduceIte, reduceEqDiff, reduceToNat, reduceMul, reduceAdd, Nat.reduceBEq, isLd] <;> rfl, by omega, by omega, hS, hF, fun i' k' h1 h2 => hin i' k' (by omega) h2⟩ ?_
    clear t0 t1 t4 t5 t6 hS hF hin ha2 F
    rintro m' T G3 ⟨k, F, t0, t1, t4, t5, t6, t7, hm', hkC, hS, hF, hin⟩
    have ha3 := ha'.sub hS
    have hb3 := hb'.sub hS
    obtain ⟨q0, q1, q2, q3⟩ := m5 hS
    simp (maxSteps := 300000) (disch := omega) only [gws, ↓reduceIte, reduceEqDiff, reduceToNat, reduceMul, reduceAdd, Nat.reduceBEq, isLd, t0, t1, t4, t5, t6, t7, hb3.f2]
    by_cases hk' : (k : Int) < C
    · simp (maxSteps := 300000) (disch := omega) only [gws, ↓reduceIte, reduceEqDiff, reduceToNat, reduceMul, reduceAdd, Nat.reduceBEq, isLd, t0, t1, t4, t5, t6, t7, hk']
      refine lt_l0 (i := i) (k := k) (b5 := b5) (by simp (maxSteps := 300000) (disch := omega) only [gws, ↓reduceIte, reduceEqDiff, reduceToNat, reduceMul, reduceAdd, Nat.reduceBEq, isLd, t0]) (by simp (maxSteps := 300000) (disch := omega) only [gws, ↓reduceIte, reduceEqDiff, reduceToNat, reduceMul, reduceAdd, Nat.reduceBEq, isLd, t1]) ⟨b4, by simp (maxSteps := 300000) (disch := omega) only [gws, ↓reduceIte, reduceEqDiff, reduceToNat, reduceMul, reduceAdd, Nat.reduceBEq, isLd, t4]⟩ (by simp (maxSteps := 300000) (disch := omega) only [gws, ↓reduceIte, reduceEqDiff, reduceToNat, reduceMul, reduceAdd, Nat.reduceBEq, isLd, t5]) (by simp (maxSteps := 300000) (disch := omega) only [gws, ↓reduceIte, reduceEqDiff, reduceToNat, reduceMul, reduceAdd, Nat.reduceBEq, isLd, t6]) (by simp (maxSteps := 300000) (disch := omega) only [gws, ↓reduceIte, reduceEqDiff, reduceToNat, reduceMul, reduceAdd, Nat.reduceBEq, isLd, t7]) (by simp (maxSteps := 300000) (disch := omega) only [gws, ↓reduceIte, reduceEqDiff, reduceToNat, reduceMul, reduceAdd, Nat.reduceBEq, isLd]) (by simp (maxSteps := 300000) (disch := omega) only [gws, ↓reduceIte, reduceEqDiff, reduceToNat, reduceMul, reduceAdd, Nat.reduceBEq, isLd]) ha3 hb3 hR hn hC (by omega) (by omega) hf hg fun T' u0 u1 u4 u5 u6 u7 u8 => ?_
      have u4 : T' 4 = .pointer (some ⟨b4, 0, none⟩) := by rw [u4]; simp (maxSteps := 300000) (disch := omega) only [gws, ↓reduceIte, reduceEqDiff, reduceToNat, reduceMul, reduceAdd, Nat.reduceBEq, isLd, t4]
      have hds := dsum_bd (u := f i) (v := fun t => g t k) (n := n) (fun t _ => hf i t) (fun t _ => hg t k) n (Nat.le_refl _)
      have m1 := mulB (a := (i : Int)) (b := (C : Int)) (A := 2 ^ 10) (B := 2 ^ 10) (by omega) (by omega)
      have w1 := w64 ((i : Int) * C) (by omega) (by omega)
      have w2 := w64 ((i : Int) * C + k) (by omega) (by omega)
      have e1 : (i : Int) * C + k = ((i * C + k : Nat) : Int) := by push_cast; rfl
      have l1 := flat_nat (show i < R by omega) (show k < C by omega)
      have hrem := bin_rem .i64 (dsum (f i) (fun t => g t k) n) p (by omega)
      rw [show (dsum (f i) (fun t => g t k) n).tmod p = prodF p n f g i k from Int.tmod_eq_emod_of_nonneg hds.1] at hrem
      simp (maxSteps := 300000) (disch := omega) only [gws, ↓reduceIte, reduceEqDiff, reduceToNat, reduceMul, reduceAdd, Nat.reduceBEq, isLd, u0, u1, u4, u5, u6, u7, u8, ha3.f0, hb3.f2, q3, w1, w2, e1, hrem]
      refine hF.st' (show i < R by omega) (show k < C by omega) fun G4' hF4 k4 => ?_
      simp (maxSteps := 300000) (disch := omega) only [gws, ↓reduceIte, reduceEqDiff, reduceToNat, reduceMul, reduceAdd, Nat.reduceBEq, isLd, u0, u1, u4, u5, u6, u7, u8]
      refine ⟨m' - 1, by omega, G4', Sub.refl _, k + 1, _, rfl, by omega, by omega, sub_keep k4 hz hS, hF4, fun i' k' h1 h2 => ?_⟩
      unfold upd2
      by_cases c : i' = i ∧ k' = k
      · rw [if_pos ⟨by omega, by omega⟩, c.1, c.2]
      · rw [if_neg (by omega)]
        exact hin i' k' (by omega) h2
    · obtain rfl : k = C := by omega
      simp (maxSteps := 300000) (disch := omega) only [gws, ↓reduceIte, reduceEqDiff, reduceToNat, reduceMul, reduceAdd, Nat.reduceBEq, isLd, t0, t1, t4, t5, t6, t7, hk']
      exact ⟨m - 1, by omega, G3, Sub.refl _, i + 1, F, rfl, by omega, by omega, hS, hF, fun i' k' h1 h2 => hin i' k' (by omega) h2⟩
  · obtain rfl : i = R := by omega
    obtain ⟨q0, q1, q2, q3⟩ := m5 hS
    simp (maxSteps := 300000) (disch := omega) only [gws, ↓reduceIte, reduceEqDiff, reduceToNat, reduceMul, reduceAdd, Nat.reduceBEq, isLd, t0, t1, t4, t5, t6, hi, q0, q1, q2, q3]
    have g4 := hS _ _ h4
    refine st_many (vs := [.int .i64 p, .int .i64 i, .int .i64 C, .slice (some ⟨bz, 0, none⟩) (i * C) (i * C)]) rfl g4 rfl (by simp) (by intro v hv; simp at hv; rcases hv with rfl | rfl | rfl | rfl <;> rfl) ?_
    simp (maxSteps := 300000) (disch := omega) only [gws, ↓reduceIte, reduceEqDiff, reduceToNat, reduceMul, reduceAdd, Nat.reduceBEq, isLd, over, t4]
    have hI := (hF.cong fun i' k' h1 h2 => hin i' k' h1 h2).ints
    refine hk _ (some ⟨bz, 0, none⟩) (i * C) ?_ (fun a ha => by cases ha; exact gz0) ?_
    · exact (sG.trans hS).skip hb4
    · refine ⟨hI.cap, fun v hv => ?_⟩
      have := hI.rd v hv
      rw [pa_mk] at this ⊢
      simp only [rd] at this ⊢
      rw [put_ne _ _ (Ne.symm n4)]
      exact this
/-- how many arrows lie ahead of a simplex. -/
def fmap (xss : List (List Int)) : Nat → Nat
  | 0 => 0
  | k + 1 => fmap xss k + (facs (xss.getD k [])).length
theorem fmap_le {xss : List (List Int)} (h : ∀ i, i < xss.length → (xss.getD i []).length ≤ 4) : ∀ k, k ≤ xss.length → fmap xss k ≤ 4 * k
  | 0, _ => by simp [fmap]
  | k + 1, hk => by
    have := fmap_le h k (by omega)
    have h1 := facs_n (xss.getD k [])
    have h2 := h k (by omega)
    simp only [fmap]; omega
theorem fmap_mono (xss : List (List Int)) : ∀ {i j : Nat}, i ≤ j → fmap xss i ≤ fmap xss j := by
  intro i j h
  obtain ⟨e, rfl⟩ : ∃ e, j = i + e := ⟨j - i, by omega⟩
  clear h
  induction e with
  | zero => exact Nat.le_refl _
  | succ e ih => exact Nat.le_trans ih (Nat.le_add_right _ _)
theorem facs_two (s : List Int) : (facs s).length = if 1 < s.length then s.length else 0 := by
  unfold facs; split <;> simp
structure Shf where
  base : List (List Int)
  p : Int
  st : List Int
  ms : List Mt
def m0 : Mt := ⟨0, 0, 0, []⟩
structure MsS (G : GH) (M : Option Addr) (l : Nat) (Hm : Nat → Option Addr × Nat) (ms : List Mt) : Prop where
  cap : ms.length ≤ l
  r0 : ∀ i, i < ms.length → rd G (pa M (i * 4)) = some (.int .i64 (ms.getD i m0).p)
  r1 : ∀ i, i < ms.length → rd G (pa M (i * 4 + 1)) = some (.int .i64 (ms.getD i m0).r)
  r2 : ∀ i, i < ms.length → rd G (pa M (i * 4 + 2)) = some (.int .i64 (ms.getD i m0).c)
  r3 : ∀ i, i < ms.length → rd G (pa M (i * 4 + 3)) = some (.slice (Hm i).1 (ms.getD i m0).m.length (Hm i).2)
  m : ∀ i, i < ms.length → IntS G (Hm i).1 (Hm i).2 (ms.getD i m0).m
theorem MsS.sub {G G' : GH} {M : Option Addr} {l : Nat} {Hm : Nat → Option Addr × Nat} {ms : List Mt} (h : MsS G M l Hm ms) (s : Sub G G') : MsS G' M l Hm ms :=
  ⟨h.cap, fun i hi => rd_sub s (h.r0 i hi), fun i hi => rd_sub s (h.r1 i hi), fun i hi => rd_sub s (h.r2 i hi), fun i hi => rd_sub s (h.r3 i hi), fun i hi => (h.m i hi).sub s⟩
theorem MsS.sn {G : GH} {M : Option Addr} {l : Nat} {Hm : Nat → Option Addr × Nat} {ms : List Mt} (h : MsS G M l Hm ms) : 0 < ms.length → 0 < sn M := fun hl => by
  have := h.r0 0 hl
  rw [Nat.zero_mul, pa_zero] at this
  exact rd_some this
theorem MsS.at' {G : GH} {M : Option Addr} {l : Nat} {Hm : Nat → Option Addr × Nat} {ms : List Mt} (h : MsS G M l Hm ms) {i : Nat} (hi : i < ms.length) : MtP G (pa M (i * 4)) (ms.getD i m0) (Hm i).1 (Hm i).2 :=
  ⟨h.r0 i hi, by rw [pa_pa]; exact h.r1 i hi, by rw [pa_pa]; exact h.r2 i hi, by rw [pa_pa]; exact h.r3 i hi, h.m i hi⟩
/-- a sheaf in memory: its lists. -/
structure ShM where
  A : Option Addr
  c : Nat
  hs : Nat → Option Addr × Nat
  S : Option Addr
  e : Nat
  M : Option Addr
  l : Nat
  Hm : Nat → Option Addr × Nat
structure ShG (G : GH) (m : ShM) (s : Shf) : Prop where
  rows : RowS G m.A m.c m.hs s.base
  st : IntS G m.S m.e s.st
  ms : MsS G m.M m.l m.Hm s.ms
theorem ShG.sub {G G' : GH} {m : ShM} {s : Shf} (h : ShG G m s) (u : Sub G G') : ShG G' m s := ⟨h.rows.sub u, h.st.sub u, h.ms.sub u⟩
def shC (m : ShM) (s : Shf) : List Value := [.slice m.A s.base.length m.c, .int .i64 s.p, .slice m.S s.st.length m.e, .slice m.M s.ms.length m.l]
def shV (m : ShM) (s : Shf) : Value := .agg (shC m s).toArray
/-- a sheaf that a pointer leads to. -/
structure ShP (G : GH) (q : Option Addr) (m : ShM) (s : Shf) : Prop where
  f0 : rd G q = some (.slice m.A s.base.length m.c)
  f1 : rd G (pa q 1) = some (.int .i64 s.p)
  f2 : rd G (pa q 2) = some (.slice m.S s.st.length m.e)
  f3 : rd G (pa q 3) = some (.slice m.M s.ms.length m.l)
  g : ShG G m s
theorem ShP.sub {G G' : GH} {q : Option Addr} {m : ShM} {s : Shf} (h : ShP G q m s) (u : Sub G G') : ShP G' q m s := ⟨rd_sub u h.f0, rd_sub u h.f1, rd_sub u h.f2, rd_sub u h.f3, h.g.sub u⟩
theorem ShP.cx {G : GH} {q : Option Addr} {m : ShM} {s : Shf} (h : ShP G q m s) : CxP G q m.A m.c m.hs s.base := ⟨h.f0, h.g.rows⟩
theorem ShP.box {G : GH} {b : Nat} {m : ShM} {s : Shf} (hb : G b = none) (h : ShG G m s) : ShP (put G b ⟨shC m s, true⟩) (some ⟨b, 0, none⟩) m s :=
  ⟨rd_box _ _ _ 0 _ rfl, by rw [pa_mk]; exact rd_box _ _ _ 1 _ rfl, by rw [pa_mk]; exact rd_box _ _ _ 2 _ rfl, by rw [pa_mk]; exact rd_box _ _ _ 3 _ rfl, h.sub (Sub.put hb _)⟩
theorem ShP.b {G : GH} {b : Nat} {m : ShM} {s : Shf} (h : ShP G (some ⟨b, 0, none⟩) m s) : rd G (some ⟨b, 0, none⟩) = some (.slice m.A s.base.length m.c) ∧ rd G (some ⟨b, 1, none⟩) = some (.int .i64 s.p) ∧ rd G (some ⟨b, 2, none⟩) = some (.slice m.S s.st.length m.e) ∧ rd G (some ⟨b, 3, none⟩) = some (.slice m.M s.ms.length m.l) := by
  have h1 := h.f1
  have h2 := h.f2
  have h3 := h.f3
  rw [pa_mk] at h1 h2 h3
  exact ⟨h.f0, h1, h2, h3⟩
theorem impl_firstMap_ok {G : GH} {m : ShM} {s : Shf} {k : Nat} (h : ShG G m s) (hx : CxOk s.base) (hk0 : k ≤ s.base.length) {K : Value → GH → Prop} (hk : K (.int .i64 (fmap s.base k)) G) : GC Tryz.prog 187 [shV m s, .int .i64 (k : Int)] G K := by
  refine GC_drop (kat (by simp) ?_)
  have hn := hx.n
  have h4 : ∀ i, i < s.base.length → (s.base.getD i []).length ≤ 4 := fun i hi => (hx.s i hi).1.2
  unfold shV shC
  simp (maxSteps := 300000) (disch := omega) only [gws, ↓reduceIte, reduceEqDiff, reduceToNat, reduceMul, reduceAdd, Nat.reduceBEq, isLd]
  intro b1 hb1
  have s1 := Sub.put hb1 ⟨shC m s, true⟩
  have hP := ShP.box hb1 h
  unfold shC at s1 hP
  revert s1 hP
  generalize put G b1 ⟨[.slice m.A s.base.length m.c, .int .i64 s.p, .slice m.S s.st.length m.e, .slice m.M s.ms.length m.l], true⟩ = G1
  intro s1 hP
  obtain ⟨f0, f1, f2, f3⟩ := hP.b
  have r := hP.g.rows.r
  have hsn := hP.g.rows.sn
  have w := sl_init (A := m.A) (n := s.base.length) (c := m.c) (i := k) hk0 hP.g.rows.cap
  simp (maxSteps := 300000) (disch := omega) only [gws, ↓reduceIte, reduceEqDiff, reduceToNat, reduceMul, reduceAdd, Nat.reduceBEq, isLd, f0, w, Option.map_none]
  refine gLoop_intro (fun mm T G' => ∃ j : Nat, T 5 = .int .i64 (fmap s.base j) ∧ T 12 = .slice m.A k m.c ∧ T 13 = .int .i64 k ∧ T 14 = .int .i64 j ∧ mm + j = k ∧ j ≤ k ∧ G1 = G') k
    ⟨0, by simp (maxSteps := 300000) (disch := omega) only [gws, ↓reduceIte, reduceEqDiff, reduceToNat, reduceMul, reduceAdd, Nat.reduceBEq, isLd] <;> rfl, by simp (maxSteps := 300000) (disch := omega) only [gws, ↓reduceIte, reduceEqDiff, reduceToNat, reduceMul, reduceAdd, Nat.reduceBEq, isLd], by simp (maxSteps := 300000) (disch := omega) only [gws, ↓reduceIte, reduceEqDiff, reduceToNat, reduceMul, reduceAdd, Nat.reduceBEq, isLd], by simp (maxSteps := 300000) (disch := omega) only [gws, ↓reduceIte, reduceEqDiff, reduceToNat, reduceMul, reduceAdd, Nat.reduceBEq, isLd] <;> rfl, by omega, by omega, rfl⟩ ?_
  rintro mm T G' ⟨j, e5, e12, e13, e14, hm, hjk, rfl⟩
  simp (maxSteps := 300000) (disch := omega) only [gws, ↓reduceIte, reduceEqDiff, reduceToNat, reduceMul, reduceAdd, Nat.reduceBEq, isLd, e5, e12, e13, e14]
  by_cases hj : (j : Int) < k
  · have hfl := facs_two (s.base.getD j [])
    have hle := fmap_le h4 j (by omega)
    have h4j := h4 j (by omega)
    have hfs : fmap s.base (j + 1) = fmap s.base j + (facs (s.base.getD j [])).length := rfl
    by_cases h1 : (1 : Int) < (s.base.getD j []).length
    · rw [if_pos (by omega)] at hfl
      simp (maxSteps := 300000) (disch := omega) only [gws, ↓reduceIte, reduceEqDiff, reduceToNat, reduceMul, reduceAdd, Nat.reduceBEq, isLd, e5, e12, e13, e14, hj, r, h1]
      refine kf8 (by simp) ?_
      simp (maxSteps := 300000) (disch := omega) only [gws, ↓reduceIte, reduceEqDiff, reduceToNat, reduceMul, reduceAdd, Nat.reduceBEq, isLd, e5, e12, e13, e14]
      exact ⟨mm - 1, by omega, _, Sub.refl _, j + 1, by rw [hfs, hfl]; push_cast; rfl, rfl, by omega, by omega, rfl⟩
    · rw [if_neg (by omega)] at hfl
      simp (maxSteps := 300000) (disch := omega) only [gws, ↓reduceIte, reduceEqDiff, reduceToNat, reduceMul, reduceAdd, Nat.reduceBEq, isLd, e5, e12, e13, e14, hj, r, h1]
      exact ⟨mm - 1, by omega, _, Sub.refl _, j + 1, by rw [hfs, hfl]; rfl, rfl, by omega, by omega, rfl⟩
  · simp (maxSteps := 300000) (disch := omega) only [gws, ↓reduceIte, reduceEqDiff, reduceToNat, reduceMul, reduceAdd, Nat.reduceBEq, isLd, e5, e12, e13, e14, hj]
    obtain rfl : j = k := by omega
    exact ⟨G, s1, hk⟩
theorem spec_l09Place_ok {G : GH} {q A : Option Addr} {c k i : Nat} {hs : Nat → Option Addr × Nat} {xss : List (List Int)} (h : CxP G q A c hs xss) (hx : CxOk xss) (hk0 : k ≤ xss.length) (hi : i ≤ 1000) {K : Value → GH → Prop} (hk : K (.int .i64 ((fmap xss k + i : Nat) : Int)) G) : GC Tryz.prog 146 [.pointer q, .int .i64 (k : Int), .int .i64 (i : Int)] G K := by
  refine k14a (by simp) ?_
  have hn := hx.n
  have h4 : ∀ i, i < xss.length → (xss.getD i []).length ≤ 4 := fun i hi => (hx.s i hi).1.2
  have hf := h.f
  have hq := rd_some hf
  have r := h.rows.r
  have hsn := h.rows.sn
  simp (maxSteps := 300000) (disch := omega) only [gws, ↓reduceIte, reduceEqDiff, reduceToNat, reduceMul, reduceAdd, Nat.reduceBEq, isLd]
  refine gLoop_intro (fun mm T G' => ∃ j : Nat, T 0 = .pointer q ∧ T 1 = .int .i64 k ∧ T 2 = .int .i64 i ∧ T 7 = .int .i64 (fmap xss j) ∧ T 8 = .int .i64 j ∧ mm + j = k ∧ j ≤ k ∧ G = G') k
    ⟨0, by simp (maxSteps := 300000) (disch := omega) only [gws, ↓reduceIte, reduceEqDiff, reduceToNat, reduceMul, reduceAdd, Nat.reduceBEq, isLd], by simp (maxSteps := 300000) (disch := omega) only [gws, ↓reduceIte, reduceEqDiff, reduceToNat, reduceMul, reduceAdd, Nat.reduceBEq, isLd], by simp (maxSteps := 300000) (disch := omega) only [gws, ↓reduceIte, reduceEqDiff, reduceToNat, reduceMul, reduceAdd, Nat.reduceBEq, isLd], by simp (maxSteps := 300000) (disch := omega) only [gws, ↓reduceIte, reduceEqDiff, reduceToNat, reduceMul, reduceAdd, Nat.reduceBEq, isLd] <;> rfl, by simp (maxSteps := 300000) (disch := omega) only [gws, ↓reduceIte, reduceEqDiff, reduceToNat, reduceMul, reduceAdd, Nat.reduceBEq, isLd] <;> rfl, by omega, by omega, rfl⟩ ?_
  rintro mm T G' ⟨j, e0, e1, e2, e7, e8, hm, hjk, rfl⟩
  have hle := fmap_le h4 j (by omega)
  simp (maxSteps := 300000) (disch := omega) only [gws, ↓reduceIte, reduceEqDiff, reduceToNat, reduceMul, reduceAdd, Nat.reduceBEq, isLd, e0, e1, e2, e7, e8]
  by_cases hj : (j : Int) < k
  · have hfl := facs_two (xss.getD j [])
    have h4j := h4 j (by omega)
    have hfs : fmap xss (j + 1) = fmap xss j + (facs (xss.getD j [])).length := rfl
    by_cases h1 : (1 : Int) < (xss.getD j []).length
    · rw [if_pos (by omega)] at hfl
      simp (maxSteps := 300000) (disch := omega) only [gws, ↓reduceIte, reduceEqDiff, reduceToNat, reduceMul, reduceAdd, Nat.reduceBEq, isLd, e0, e1, e2, e7, e8, hj, hf, r, h1]
      exact ⟨mm - 1, by omega, _, Sub.refl _, j + 1, by rw [hfs, hfl]; push_cast; rfl, rfl, by omega, by omega, rfl⟩
    · rw [if_neg (by omega)] at hfl
      simp (maxSteps := 300000) (disch := omega) only [gws, ↓reduceIte, reduceEqDiff, reduceToNat, reduceMul, reduceAdd, Nat.reduceBEq, isLd, e0, e1, e2, e7, e8, hj, hf, r, h1]
      exact ⟨mm - 1, by omega, _, Sub.refl _, j + 1, by rw [hfs, hfl]; rfl, rfl, by omega, by omega, rfl⟩
  · simp (maxSteps := 300000) (disch := omega) only [gws, ↓reduceIte, reduceEqDiff, reduceToNat, reduceMul, reduceAdd, Nat.reduceBEq, isLd, e0, e1, e2, e7, e8, hj]
    obtain rfl : j = k := by omega
    rwa [show (((fmap xss j + i : Nat)) : Int) = (fmap xss j : Int) + i by push_cast; rfl] at hk
theorem impl_direct_ok {G : GH} {m : ShM} {s : Shf} {k i : Nat} (h : ShG G m s) (hx : CxOk s.base) (hk0 : k ≤ s.base.length) (hi : fmap s.base k + i < s.ms.length) (hml : s.ms.length ≤ 2 ^ 20) {K : Value → GH → Prop}
    (hk : K (mtV (s.ms.getD (fmap s.base k + i) m0) (m.Hm (fmap s.base k + i)).1 (m.Hm (fmap s.base k + i)).2) G) : GC Tryz.prog 159 [shV m s, .int .i64 (k : Int), .int .i64 (i : Int)] G K := by
  refine GC_drop (k7m (by simp) ?_)
  unfold shV shC
  simp (maxSteps := 300000) (disch := omega) only [gws, ↓reduceIte, reduceEqDiff, reduceToNat, reduceMul, reduceAdd, Nat.reduceBEq, isLd]
  intro b1 hb1
  have s1 := Sub.put hb1 ⟨shC m s, true⟩
  have hP := ShP.box hb1 h
  unfold shC at s1 hP
  revert s1 hP
  generalize put G b1 ⟨[.slice m.A s.base.length m.c, .int .i64 s.p, .slice m.S s.st.length m.e, .slice m.M s.ms.length m.l], true⟩ = G1
  intro s1 hP
  simp (maxSteps := 300000) (disch := omega) only [gws, ↓reduceIte, reduceEqDiff, reduceToNat, reduceMul, reduceAdd, Nat.reduceBEq, isLd]
  intro b2 hb2
  have s2 := Sub.put hb2 ⟨[.int .i64 0, .int .i64 0, .int .i64 0, .slice none 0 0], true⟩
  have hP := hP.sub s2
  have g2 := put_same G1 b2 ⟨[.int .i64 0, .int .i64 0, .int .i64 0, .slice none 0 0], true⟩
  revert s2 hP g2
  generalize put G1 b2 ⟨[.int .i64 0, .int .i64 0, .int .i64 0, .slice none 0 0], true⟩ = G2
  intro s2 hP g2
  obtain ⟨f0, f1, f2, f3⟩ := hP.b
  simp (maxSteps := 300000) (disch := omega) only [gws, ↓reduceIte, reduceEqDiff, reduceToNat, reduceMul, reduceAdd, Nat.reduceBEq, isLd, f0, f1, f2, f3]
  refine impl_firstMap_ok (m := m) (s := s) (k := k) hP.g hx hk0 ?_
  have r0 := hP.g.ms.r0 _ hi
  have r1 := hP.g.ms.r1 _ hi
  have r2 := hP.g.ms.r2 _ hi
  have r3 := hP.g.ms.r3 _ hi
  have hsn := hP.g.ms.sn
  have e1 : (fmap s.base k : Int) + i = ((fmap s.base k + i : Nat) : Int) := by push_cast; rfl
  simp (maxSteps := 300000) (disch := omega) only [gws, ↓reduceIte, reduceEqDiff, reduceToNat, reduceMul, reduceAdd, Nat.reduceBEq, isLd, f0, f1, f2, f3, e1, r0, r1, r2, r3]
  refine st_many (vs := mtC (s.ms.getD (fmap s.base k + i) m0) (m.Hm (fmap s.base k + i)).1 (m.Hm (fmap s.base k + i)).2) rfl g2 rfl (by simp [mtC]) (by intro v hv; simp [mtC] at hv; rcases hv with rfl | rfl | rfl | rfl <;> rfl) ?_
  simp (maxSteps := 300000) (disch := omega) only [gws, ↓reduceIte, reduceEqDiff, reduceToNat, reduceMul, reduceAdd, Nat.reduceBEq, isLd, over, mtC]
  exact ⟨G, s1.trans (s2.skip hb2), hk⟩
theorem spec_l09Get_ok {G : GH} {q : Option Addr} {m : ShM} {s : Shf} {k i : Nat} (h : ShP G q m s) (hx : CxOk s.base) (hk0 : k ≤ s.base.length) (hi : fmap s.base k + i < s.ms.length) (hml : s.ms.length ≤ 2 ^ 20) (hi2 : i ≤ 1000) {K : Value → GH → Prop}
    (hk : K (.pointer (pa m.M ((fmap s.base k + i) * 4))) G) : GC Tryz.prog 150 [.pointer q, .int .i64 (k : Int), .int .i64 (i : Int)] G K := by
  refine k133 (by simp) ?_
  have f0 := h.f0
  have f3 := h.f3
  have hq := rd_some f0
  have hsn := h.g.ms.sn
  simp (maxSteps := 300000) (disch := omega) only [gws, ↓reduceIte, reduceEqDiff, reduceToNat, reduceMul, reduceAdd, Nat.reduceBEq, isLd, f3]
  refine spec_l09Place_ok (k := k) (i := i) h.cx hx hk0 hi2 ?_
  simp (maxSteps := 300000) (disch := omega) only [gws, ↓reduceIte, reduceEqDiff, reduceToNat, reduceMul, reduceAdd, Nat.reduceBEq, isLd, f3]
  exact hk
theorem impl_isBetween_ok {G : GH} {M : Mt} {A : Option Addr} {k : Nat} {p x y : Int} (h : IntS G A k M.m) (hl : M.m.length < 2 ^ 40) {K : Value → GH → Prop}
    (hk : ∀ z : Bool, (z = true ↔ MtOk M ∧ M.p = p ∧ M.r = y ∧ M.c = x) → K (.bool z) G) : GC Tryz.prog 183 [mtV M A k, .int .i64 p, .int .i64 x, .int .i64 y] G K := by
  refine GC_drop (kbb (by simp) ?_)
  unfold mtV mtC
  simp (maxSteps := 300000) (disch := omega) only [gws, ↓reduceIte, reduceEqDiff, reduceToNat, reduceMul, reduceAdd, Nat.reduceBEq, isLd]
  intro b1 hb1
  have s1 := Sub.put hb1 ⟨[.int .i64 M.p, .int .i64 M.r, .int .i64 M.c, .slice A M.m.length k], true⟩
  have f0 : rd (put G b1 ⟨[.int .i64 M.p, .int .i64 M.r, .int .i64 M.c, .slice A M.m.length k], true⟩) (some ⟨b1, 0, none⟩) = some (.int .i64 M.p) := rd_box _ _ _ 0 _ rfl
  have f1 : rd (put G b1 ⟨[.int .i64 M.p, .int .i64 M.r, .int .i64 M.c, .slice A M.m.length k], true⟩) (some ⟨b1, 1, none⟩) = some (.int .i64 M.r) := rd_box _ _ _ 1 _ rfl
  have f2 : rd (put G b1 ⟨[.int .i64 M.p, .int .i64 M.r, .int .i64 M.c, .slice A M.m.length k], true⟩) (some ⟨b1, 2, none⟩) = some (.int .i64 M.c) := rd_box _ _ _ 2 _ rfl
  have f3 : rd (put G b1 ⟨[.int .i64 M.p, .int .i64 M.r, .int .i64 M.c, .slice A M.m.length k], true⟩) (some ⟨b1, 3, none⟩) = some (.slice A M.m.length k) := rd_box _ _ _ 3 _ rfl
  have h1 := h.sub s1
  revert h1 f0 f1 f2 f3 s1
  generalize put G b1 ⟨[.int .i64 M.p, .int .i64 M.r, .int .i64 M.c, .slice A M.m.length k], true⟩ = G1
  intro s1 f0 f1 f2 f3 h1
  have fin : (¬ (MtOk M ∧ M.p = p ∧ M.r = y ∧ M.c = x)) → ∃ G'', Sub G'' G1 ∧ K (.bool false) G'' := fun hno => ⟨G, s1, hk false ⟨fun x => (by cases x), fun x => absurd x hno⟩⟩
  simp (maxSteps := 300000) (disch := omega) only [gws, ↓reduceIte, reduceEqDiff, reduceToNat, reduceMul, reduceAdd, Nat.reduceBEq, isLd, f0, f1, f2, f3]
  refine impl_ValidMatrix_ok (M := M) h1 hl fun z hz => ?_
  cases z
  · simp (maxSteps := 300000) (disch := omega) only [gws, ↓reduceIte, reduceEqDiff, reduceToNat, reduceMul, reduceAdd, Nat.reduceBEq, isLd, f0, f1, f2, f3]
    exact fin fun x => by have := hz.2 x.1; cases this
  · have hm := hz.1 rfl
    by_cases e0 : M.p = p
    · by_cases e1 : M.r = y
      · by_cases e2 : M.c = x
        · simp (maxSteps := 300000) (disch := omega) only [gws, ↓reduceIte, reduceEqDiff, reduceToNat, reduceMul, reduceAdd, Nat.reduceBEq, isLd, eq_true e0, eq_true e1, eq_true e2, f0, f1, f2, f3]
          exact ⟨G, s1, hk true ⟨fun _ => ⟨hm, e0, e1, e2⟩, fun _ => rfl⟩⟩
        · simp (maxSteps := 300000) (disch := omega) only [gws, ↓reduceIte, reduceEqDiff, reduceToNat, reduceMul, reduceAdd, Nat.reduceBEq, isLd, eq_true e0, eq_true e1, eq_false e2, f0, f1, f2, f3]
          exact fin fun x => e2 x.2.2.2
      · simp (maxSteps := 300000) (disch := omega) only [gws, ↓reduceIte, reduceEqDiff, reduceToNat, reduceMul, reduceAdd, Nat.reduceBEq, isLd, eq_true e0, eq_false e1, f0, f1, f2, f3]
        exact fin fun x => e1 x.2.2.1
    · simp (maxSteps := 300000) (disch := omega) only [gws, ↓reduceIte, reduceEqDiff, reduceToNat, reduceMul, reduceAdd, Nat.reduceBEq, isLd, eq_false e0, f0, f1, f2, f3]
      exact fin fun x => e0 x.2.1
theorem fcs_len (xss : List (List Int)) (k : Nat) : (fcs xss k).length = (facs (xss.getD k [])).length := by simp [fcs]
/-- the arrows to a simplex, up to a number. -/
def arR (xss : List (List Int)) (k n : Nat) : List T3 := (List.range n).map fun i : Nat => ((k : Int), (i : Int), (fcs xss k).getD i 0)
def arwN (xss : List (List Int)) : Nat → List T3
  | 0 => []
  | k + 1 => arwN xss k ++ arR xss k (fcs xss k).length
theorem arR_succ (xss : List (List Int)) (k n : Nat) : arR xss k (n + 1) = arR xss k n ++ [((k : Int), (n : Int), (fcs xss k).getD n 0)] := by simp [arR, List.range_succ]
theorem arR_len (xss : List (List Int)) (k n : Nat) : (arR xss k n).length = n := by simp [arR]
theorem arwN_len (xss : List (List Int)) : ∀ k, (arwN xss k).length = fmap xss k
  | 0 => rfl
  | k + 1 => by rw [arwN, List.length_append, arwN_len xss k, arR_len, fcs_len]; rfl
theorem arwN_get {xss : List (List Int)} : ∀ {n k i : Nat}, k < n → i < (fcs xss k).length → (arwN xss n).getD (fmap xss k + i) z3 = ((k : Int), (i : Int), (fcs xss k).getD i 0)
  | 0, k, i, h, _ => by omega
  | n + 1, k, i, h, hi => by
    have hl := arwN_len xss n
    rw [arwN]
    by_cases c : k = n
    · subst c
      rw [show (arwN xss k ++ arR xss k (fcs xss k).length).getD (fmap xss k + i) z3 = (arR xss k (fcs xss k).length).getD i z3 by simp [List.getD, List.getElem?_append_right, hl]]
      simp [arR, List.getD, hi]
    · have hm := fmap_mono xss (show k + 1 ≤ n by omega)
      have hs : fmap xss (k + 1) = fmap xss k + (facs (xss.getD k [])).length := rfl
      have hf := fcs_len xss k
      rw [show (arwN xss n ++ arR xss n (fcs xss n).length).getD (fmap xss k + i) z3 = (arwN xss n).getD (fmap xss k + i) z3 by
        simp [List.getD, List.getElem?_append_left (show fmap xss k + i < (arwN xss n).length by omega)]]
      exact arwN_get (by omega) hi
theorem fmap_inv {xss : List (List Int)} : ∀ {n v : Nat}, v < fmap xss n → ∃ k i, k < n ∧ i < (fcs xss k).length ∧ v = fmap xss k + i
  | 0, v, h => by simp [fmap] at h
  | n + 1, v, h => by
    by_cases c : v < fmap xss n
    · obtain ⟨k, i, h1, h2, h3⟩ := fmap_inv c
      exact ⟨k, i, by omega, h2, h3⟩
    · refine ⟨n, v - fmap xss n, by omega, ?_, by omega⟩
      rw [fcs_len]
      have : fmap xss (n + 1) = fmap xss n + (facs (xss.getD n [])).length := rfl
      omega
theorem fcs_bd {xss : List (List Int)} (hx : CxOk xss) {k i : Nat} (hk : k < xss.length) (hi : i < (fcs xss k).length) : ∃ j : Nat, j < k ∧ (fcs xss k).getD i 0 = j ∧ (xss.getD j []).length + 1 = (xss.getD k []).length ∧ xss.getD j [] = (facs (xss.getD k [])).getD i [] := by
  rw [fcs_len] at hi
  have hm := rows_mem hi
  have hmem := hx.f k hk _ hm
  have hb := mem_before hx.a hk hm hmem
  obtain ⟨j, hj, e⟩ := List.mem_iff_getElem.1 hb
  have hj' : j < k := by simp at hj; omega
  have e' : xss.getD j [] = (facs (xss.getD k [])).getD i [] := by
    rw [← e]; simp [List.getD, show j < xss.length by omega]
  have hidx := idx_of_get (sasc_nodup hx.a) (show j < xss.length by omega) e'
  refine ⟨j, hj', ?_, by rw [e']; exact facs_shorter hm, e'⟩
  rw [← hidx]
  unfold fcs
  generalize facs (xss.getD k []) = L at hi ⊢
  simp [List.getD, hi]
theorem cells_all3 {vs : List Value} {n : Nat} (h : (vs.all fun v => v.cells.size == n) = true) : ∀ v ∈ vs, v.cells.size = n := by
  intro v hv
  have := List.all_eq_true.1 h v hv
  simpa using this
theorem impl_arrows_ok {G : GH} {A : Option Addr} {c : Nat} {hs : Nat → Option Addr × Nat} {xss : List (List Int)} (h : RowS G A c hs xss) (hx : CxOk xss) {K : Value → GH → Prop}
    (hk : ∀ G' Y y, New G G' Y y (flat3 (arwN xss xss.length)) 3 (arwN xss xss.length).length → K (.slice Y (arwN xss xss.length).length y) G') : GC Tryz.prog 182 [cxV A xss.length c] G K := by
  refine GC_drop (k6d (by simp) ?_)
  have hn := hx.n
  have h4 : ∀ i, i < xss.length → (xss.getD i []).length ≤ 4 := fun i hi => (hx.s i hi).1.2
  unfold cxV
  simp (maxSteps := 300000) (disch := omega) only [gws, ↓reduceIte, reduceEqDiff, reduceToNat, reduceMul, reduceAdd, Nat.reduceBEq, isLd]
  intro b1 hb1
  have s1 := Sub.put hb1 ⟨[.slice A xss.length c], true⟩
  have f1 : rd (put G b1 ⟨[.slice A xss.length c], true⟩) (some ⟨b1, 0, none⟩) = some (.slice A xss.length c) := rd_box _ _ _ 0 _ rfl
  have h1 := h.sub s1
  revert h1 f1 s1
  generalize put G b1 ⟨[.slice A xss.length c], true⟩ = G1
  intro s1 f1 h1
  simp (maxSteps := 300000) (disch := omega) only [gws, ↓reduceIte, reduceEqDiff, reduceToNat, reduceMul, reduceAdd, Nat.reduceBEq, isLd, f1]
  refine kf3 (by simp) ?_
  simp (maxSteps := 300000) (disch := omega) only [gws, ↓reduceIte, reduceEqDiff, reduceToNat, reduceMul, reduceAdd, Nat.reduceBEq, isLd]
  refine gLoop_intro (fun m T G' => ∃ (k : Nat) (Z : Option Addr) (z : Nat), T 1 = .pointer (some ⟨b1, 0, none⟩) ∧ T 3 = .slice Z (arwN xss k).length z ∧ T 9 = .int .i64 xss.length ∧ T 10 = .int .i64 k ∧ m + k = xss.length ∧ k ≤ xss.length ∧ New G1 G' Z z (flat3 (arwN xss k)) 3 (arwN xss k).length) xss.length
    ⟨0, none, 0, by simp (maxSteps := 300000) (disch := omega) only [gws, ↓reduceIte, reduceEqDiff, reduceToNat, reduceMul, reduceAdd, Nat.reduceBEq, isLd], by simp (maxSteps := 300000) (disch := omega) only [gws, ↓reduceIte, reduceEqDiff, reduceToNat, reduceMul, reduceAdd, Nat.reduceBEq, isLd] <;> rfl, by simp (maxSteps := 300000) (disch := omega) only [gws, ↓reduceIte, reduceEqDiff, reduceToNat, reduceMul, reduceAdd, Nat.reduceBEq, isLd], by simp (maxSteps := 300000) (disch := omega) only [gws, ↓reduceIte, reduceEqDiff, reduceToNat, reduceMul, reduceAdd, Nat.reduceBEq, isLd] <;> rfl, by omega, by omega, New.nil _ _⟩ ?_
  rintro m T G2 ⟨k, Z, z, e1, e3, e9, e10, hm, hkl, hN⟩
  simp (maxSteps := 300000) (disch := omega) only [gws, ↓reduceIte, reduceEqDiff, reduceToNat, reduceMul, reduceAdd, Nat.reduceBEq, isLd, e1, e3, e9, e10]
  by_cases hkk : (k : Int) < xss.length
  · have f2 := rd_sub hN.sub f1
    simp (maxSteps := 300000) (disch := omega) only [gws, ↓reduceIte, reduceEqDiff, reduceToNat, reduceMul, reduceAdd, Nat.reduceBEq, isLd, e1, e3, e9, e10, hkk, f2]
    refine impl_faceIndices_ok (k := k) (h1.sub hN.sub) hx (by omega) fun G3 Y y hF => ?_
    have hI := hF.ints2 rfl
    have hfl := fcs_len xss k
    have hfn := facs_n (xss.getD k [])
    have h4k := h4 k (by omega)
    have hle := fmap_le h4 k (by omega)
    have hal := arwN_len xss k
    have hO3 := hN.fresh.sub hF.sub
    have s13 : Sub G1 (wz G3 Z) := fun q f hq => by
      rw [wz_ne fun a ha e => by have := hN.off a ha; rw [e, hq] at this; cases this]
      exact hF.sub _ _ (hN.sub _ _ hq)
    have hY : IntS (wz G3 Z) Y y (fcs xss k) := (hF.own.ints' rfl).sub fun q f hq => by
      obtain ⟨q1, q2⟩ := rest_some.1 hq
      rw [wz_ne fun a ha e' => own_ne hN.fresh a ha (by rw [e']; exact q1)]
      exact q2
    have hS0 : Sub (wz G3 Z) G3 := Sub.wz _ _
    have hF0 : Off (wz G3 Z) Z := Off.wz _ _
    clear hN hF hI f2
    generalize wz G3 Z = H at s13 hY hS0 hF0
    simp (maxSteps := 300000) (disch := omega) only [gws, ↓reduceIte, reduceEqDiff, reduceToNat, reduceMul, reduceAdd, Nat.reduceBEq, isLd, e1, e3, e9, e10]
    refine gLoop_intro (fun m' T G' => ∃ (j : Nat) (Z : Option Addr) (z : Nat), T 1 = .pointer (some ⟨b1, 0, none⟩) ∧ T 3 = .slice Z ((arwN xss k).length + j) z ∧ T 4 = .int .i64 k ∧ T 9 = .int .i64 xss.length ∧ T 10 = .int .i64 k ∧ T 15 = .slice Y (fcs xss k).length y ∧ T 16 = .int .i64 (fcs xss k).length ∧ T 17 = .int .i64 j ∧ m' + j = (fcs xss k).length ∧ j ≤ (fcs xss k).length ∧ Sub H G' ∧ Off H Z ∧ Own G' Z z (flat3 (arwN xss k ++ arR xss k j)) 3 ((arwN xss k).length + j)) (fcs xss k).length
      ⟨0, Z, z, by simp (maxSteps := 300000) (disch := omega) only [gws, ↓reduceIte, reduceEqDiff, reduceToNat, reduceMul, reduceAdd, Nat.reduceBEq, isLd, e1], by simp (maxSteps := 300000) (disch := omega) only [gws, ↓reduceIte, reduceEqDiff, reduceToNat, reduceMul, reduceAdd, Nat.reduceBEq, isLd, e3], by simp (maxSteps := 300000) (disch := omega) only [gws, ↓reduceIte, reduceEqDiff, reduceToNat, reduceMul, reduceAdd, Nat.reduceBEq, isLd], by simp (maxSteps := 300000) (disch := omega) only [gws, ↓reduceIte, reduceEqDiff, reduceToNat, reduceMul, reduceAdd, Nat.reduceBEq, isLd, e9], by simp (maxSteps := 300000) (disch := omega) only [gws, ↓reduceIte, reduceEqDiff, reduceToNat, reduceMul, reduceAdd, Nat.reduceBEq, isLd, e10], by simp (maxSteps := 300000) (disch := omega) only [gws, ↓reduceIte, reduceEqDiff, reduceToNat, reduceMul, reduceAdd, Nat.reduceBEq, isLd], by simp (maxSteps := 300000) (disch := omega) only [gws, ↓reduceIte, reduceEqDiff, reduceToNat, reduceMul, reduceAdd, Nat.reduceBEq, isLd], by simp (maxSteps := 300000) (disch := omega) only [gws, ↓reduceIte, reduceEqDiff, reduceToNat, reduceMul, reduceAdd, Nat.reduceBEq, isLd] <;> rfl, by omega, by omega, hS0, hF0, hO3.cast (by simp [arR]) (by omega)⟩ ?_
    clear e1 e3 e9 e10 hS0 hF0 hO3 Z z
    rintro m' T G4 ⟨j, Z, z, e1, e3, e4, e9, e10, e15, e16, e17, hm', hjl, hS, hO, hW⟩
    simp (maxSteps := 300000) (disch := omega) only [gws, ↓reduceIte, reduceEqDiff, reduceToNat, reduceMul, reduceAdd, Nat.reduceBEq, isLd, e1, e3, e4, e9, e10, e15, e16, e17]
    by_cases hj : (j : Int) < (fcs xss k).length
    · have rj := (hY.sub hS).rd j (by omega)
      have hsn := hY.sn
      have hbl : bldV [Value.int .i64 0, .int .i64 0, .int .i64 0] [(0, 1, .int .i64 k), (1, 1, .int .i64 j), (2, 1, .int .i64 ((fcs xss k).getD j 0))] = some [.int .i64 k, .int .i64 j, .int .i64 ((fcs xss k).getD j 0)] := rfl
      simp (maxSteps := 300000) (disch := omega) only [gws, ↓reduceIte, reduceEqDiff, reduceToNat, reduceMul, reduceAdd, Nat.reduceBEq, isLd, e1, e3, e4, e9, e10, e15, e16, e17, hj, rj, hbl, gBs]
      refine ⟨cells_all3 rfl, fun b2 hb2 => ?_⟩
      have s2 := Sub.put hb2 ⟨c3 ((k : Int), (j : Int), (fcs xss k).getD j 0), true⟩
      refine ap_own (hW.sub s2) (news := c3 ((k : Int), (j : Int), (fcs xss k).getD j 0)) (m := 1) (Own.blk (n := 1) (sz := 3) (put_same G4 b2 ⟨c3 ((k : Int), (j : Int), (fcs xss k).getD j 0), true⟩) rfl).cells (by rfl) (c3_one _) rfl (by omega) (by omega) (by omega) fun G5 Z' z' hO5 keep => ?_
      obtain ⟨k1, k2⟩ := keep H (hS.trans s2) hO
      simp (maxSteps := 300000) (disch := omega) only [gws, ↓reduceIte, reduceEqDiff, reduceToNat, reduceMul, reduceAdd, Nat.reduceBEq, isLd, e1, e3, e4, e9, e10, e15, e16, e17]
      exact ⟨m' - 1, by omega, G5, Sub.refl _, j + 1, Z', z', by rw [Nat.add_assoc], rfl, by omega, by omega, k1, k2, hO5.cast (by rw [arR_succ, ← List.append_assoc, flat3_app]) (by omega)⟩
    · obtain rfl : j = (fcs xss k).length := by omega
      simp (maxSteps := 300000) (disch := omega) only [gws, ↓reduceIte, reduceEqDiff, reduceToNat, reduceMul, reduceAdd, Nat.reduceBEq, isLd, e1, e3, e4, e9, e10, e15, e16, e17, hj]
      obtain ⟨G'', s'', hN''⟩ := hW.new (s13.trans hS) (hO.mono s13)
      have hl' : (arwN xss (k + 1)).length = (arwN xss k).length + (fcs xss k).length := by rw [arwN, List.length_append, arR_len]
      exact ⟨m - 1, by omega, G'', s'', k + 1, Z, z, by rw [hl'], rfl, by omega, by omega, hN''.cast rfl hl'.symm⟩
  · simp (maxSteps := 300000) (disch := omega) only [gws, ↓reduceIte, reduceEqDiff, reduceToNat, reduceMul, reduceAdd, Nat.reduceBEq, isLd, e1, e3, e9, e10, hkk]
    obtain rfl : k = xss.length := by omega
    obtain ⟨G'', s'', hN''⟩ := hN.low s1
    exact ⟨G'', s'', hk _ _ _ hN''⟩
def ArrOk (s : Shf) (k i : Nat) : Prop := MtOk (s.ms.getD (fmap s.base k + i) m0) ∧ (s.ms.getD (fmap s.base k + i) m0).p = s.p ∧ (s.ms.getD (fmap s.base k + i) m0).r = s.st.getD k 0 ∧ (s.ms.getD (fmap s.base k + i) m0).c = s.st.getD ((fcs s.base k).getD i 0).toNat 0
structure ShOk (s : Shf) : Prop where
  b : CxOk s.base
  p : PrOk s.p
  st : StOk s.base s.st
  n : s.ms.length = fmap s.base s.base.length
  m : ∀ k i, k < s.base.length → i < (fcs s.base k).length → ArrOk s k i
structure ShSm (s : Shf) : Prop where
  b : Sm s.base
  st : s.st.length ≤ 2 ^ 20
  ms : s.ms.length ≤ 2 ^ 20
  m : ∀ i, i < s.ms.length → (s.ms.getD i m0).m.length ≤ 2 ^ 20
theorem fmap_lt {xss : List (List Int)} {k i : Nat} (hk : k < xss.length) (hi : i < (fcs xss k).length) : fmap xss k + i < fmap xss xss.length := by
  have := fmap_mono xss (show k + 1 ≤ xss.length by omega)
  have hs : fmap xss (k + 1) = fmap xss k + (facs (xss.getD k [])).length := rfl
  have := fcs_len xss k
  omega
theorem impl_ValidSheaf_ok {G : GH} {m : ShM} {s : Shf} (h : ShG G m s) (hsm : ShSm s) {K : Value → GH → Prop} (hk : ∀ z : Bool, (z = true ↔ ShOk s) → K (.bool z) G) : GC Tryz.prog 152 [shV m s] G K := by
  refine GC_drop (k3y (by simp) ?_)
  have hb1 := hsm.b
  have hst := hsm.st
  have hms := hsm.ms
  unfold shV shC
  simp (maxSteps := 300000) (disch := omega) only [gws, ↓reduceIte, reduceEqDiff, reduceToNat, reduceMul, reduceAdd, Nat.reduceBEq, isLd]
  intro b1 hb
  have s1 := Sub.put hb ⟨shC m s, true⟩
  have hP := ShP.box hb h
  unfold shC at s1 hP
  revert s1 hP
  generalize put G b1 ⟨[.slice m.A s.base.length m.c, .int .i64 s.p, .slice m.S s.st.length m.e, .slice m.M s.ms.length m.l], true⟩ = G1
  intro s1 hP
  obtain ⟨f0, f1, f2, f3⟩ := hP.b
  have fin : (¬ ShOk s) → ∀ G', Sub G1 G' → ∃ G'', Sub G'' G' ∧ K (.bool false) G'' := fun hno G' u => ⟨G, s1.trans u, hk false ⟨fun x => (by cases x), fun x => absurd x hno⟩⟩
  simp (maxSteps := 300000) (disch := omega) only [gws, ↓reduceIte, reduceEqDiff, reduceToNat, reduceMul, reduceAdd, Nat.reduceBEq, isLd, f0, f1, f2, f3]
  refine impl_ValidComplex_ok hP.g.rows hb1 fun z hz => ?_
  cases z
  · simp (maxSteps := 300000) (disch := omega) only [gws, ↓reduceIte, reduceEqDiff, reduceToNat, reduceMul, reduceAdd, Nat.reduceBEq, isLd]
    exact fin (fun x => by have := hz.2 x.b; cases this) _ (Sub.refl _)
  have hx := hz.1 rfl
  simp (maxSteps := 300000) (disch := omega) only [gws, ↓reduceIte, reduceEqDiff, reduceToNat, reduceMul, reduceAdd, Nat.reduceBEq, isLd, f0, f1, f2, f3]
  refine impl_ValidPrime_okS _ fun z hz2 => ?_
  cases z
  · simp (maxSteps := 300000) (disch := omega) only [gws, ↓reduceIte, reduceEqDiff, reduceToNat, reduceMul, reduceAdd, Nat.reduceBEq, isLd]
    exact fin (fun x => by have := hz2.2 x.p; cases this) _ (Sub.refl _)
  have hp := hz2.1 rfl
  simp (maxSteps := 300000) (disch := omega) only [gws, ↓reduceIte, reduceEqDiff, reduceToNat, reduceMul, reduceAdd, Nat.reduceBEq, isLd, f0, f1, f2, f3]
  refine impl_areStalks_ok hP.g.rows hP.g.st hx.cs (by omega) fun z hz3 => ?_
  cases z
  · simp (maxSteps := 300000) (disch := omega) only [gws, ↓reduceIte, reduceEqDiff, reduceToNat, reduceMul, reduceAdd, Nat.reduceBEq, isLd]
    exact fin (fun x => by have := hz3.2 x.st; cases this) _ (Sub.refl _)
  have hS := hz3.1 rfl
  clear hz hz2 hz3
  simp (maxSteps := 300000) (disch := omega) only [gws, ↓reduceIte, reduceEqDiff, reduceToNat, reduceMul, reduceAdd, Nat.reduceBEq, isLd, f0, f1, f2, f3]
  refine impl_arrows_ok hP.g.rows hx fun G2 Y y hN => ?_
  have hP := hP.sub hN.sub
  have s2 := hN.sub
  have hT := hN.t3
  have hal := arwN_len s.base s.base.length
  have h4 : ∀ i, i < s.base.length → (s.base.getD i []).length ≤ 4 := fun i hi => (hx.s i hi).1.2
  have hle := fmap_le h4 s.base.length (Nat.le_refl _)
  have hxn := hx.n
  clear hN f0 f1 f2 f3
  obtain ⟨f0, f1, f2, f3⟩ := hP.b
  rw [hal]
  have ry0 := hT.r0
  have ry1 := hT.r1
  have ry2 := hT.r2
  have hysn := hT.sn
  rw [hal] at ry0 ry1 ry2 hysn
  simp (maxSteps := 300000) (disch := omega) only [gws, ↓reduceIte, reduceEqDiff, reduceToNat, reduceMul, reduceAdd, Nat.reduceBEq, isLd, f0, f1, f2, f3]
  refine gLoop_intro (fun mm T G' => ∃ v : Nat, T 1 = .pointer (some ⟨b1, 0, none⟩) ∧ T 3 = .slice Y (fmap s.base s.base.length) y ∧ T 27 = .slice Y (fmap s.base s.base.length) y ∧ T 28 = .int .i64 (fmap s.base s.base.length : Nat) ∧ T 29 = .int .i64 v ∧ mm + v = fmap s.base s.base.length ∧ v ≤ fmap s.base s.base.length ∧ v ≤ s.ms.length ∧ G' = G2 ∧
    ∀ k i, k < s.base.length → i < (fcs s.base k).length → fmap s.base k + i < v → ArrOk s k i) (fmap s.base s.base.length)
    ⟨0, by simp (maxSteps := 300000) (disch := omega) only [gws, ↓reduceIte, reduceEqDiff, reduceToNat, reduceMul, reduceAdd, Nat.reduceBEq, isLd], by simp (maxSteps := 300000) (disch := omega) only [gws, ↓reduceIte, reduceEqDiff, reduceToNat, reduceMul, reduceAdd, Nat.reduceBEq, isLd], by simp (maxSteps := 300000) (disch := omega) only [gws, ↓reduceIte, reduceEqDiff, reduceToNat, reduceMul, reduceAdd, Nat.reduceBEq, isLd], by simp (maxSteps := 300000) (disch := omega) only [gws, ↓reduceIte, reduceEqDiff, reduceToNat, reduceMul, reduceAdd, Nat.reduceBEq, isLd], by simp (maxSteps := 300000) (disch := omega) only [gws, ↓reduceIte, reduceEqDiff, reduceToNat, reduceMul, reduceAdd, Nat.reduceBEq, isLd] <;> rfl, by omega, by omega, by omega, rfl, fun k i _ _ h => by omega⟩ ?_
  rintro mm T G' ⟨v, e1, e3, e27, e28, e29, hm, hvl, hvm, rfl, hin⟩
  simp (maxSteps := 300000) (disch := omega) only [gws, ↓reduceIte, reduceEqDiff, reduceToNat, reduceMul, reduceAdd, Nat.reduceBEq, isLd, e1, e3, e27, e28, e29]
  by_cases hv : (v : Int) < (fmap s.base s.base.length : Nat)
  · obtain ⟨k, i, hk1, hi1, hvk⟩ := fmap_inv (show v < fmap s.base s.base.length by omega)
    have hget := arwN_get hk1 hi1
    obtain ⟨j, hjk, hj1, _, _⟩ := fcs_bd hx hk1 hi1
    rw [← hvk] at hget
    have y0 := ry0 v (by omega)
    have y1 := ry1 v (by omega)
    have y2 := ry2 v (by omega)
    rw [hget] at y0 y1 y2
    dsimp only at y0 y1 y2
    rw [hj1] at y2
    simp (maxSteps := 300000) (disch := omega) only [gws, ↓reduceIte, reduceEqDiff, reduceToNat, reduceMul, reduceAdd, Nat.reduceBEq, isLd, e1, e3, e27, e28, e29, hv, y0, y1, y2]
    intro b5 hb5
    have s5 := Sub.put hb5 ⟨[.int .i64 k, .int .i64 i, .int .i64 j], true⟩
    simp (maxSteps := 300000) (disch := omega) only [gws, ↓reduceIte, reduceEqDiff, reduceToNat, reduceMul, reduceAdd, Nat.reduceBEq, isLd]
    refine st_fresh (vs := [.int .i64 k, .int .i64 i, .int .i64 j]) rfl rfl rfl (by intro v hv; simp at hv; rcases hv with rfl | rfl | rfl <;> rfl) ?_
    have q0 : rd (put G' b5 ⟨[.int .i64 k, .int .i64 i, .int .i64 j], true⟩) (some ⟨b5, 0, none⟩) = some (.int .i64 k) := rd_box _ _ _ 0 _ rfl
    have q2 : rd (put G' b5 ⟨[.int .i64 k, .int .i64 i, .int .i64 j], true⟩) (some ⟨b5, 2, none⟩) = some (.int .i64 j) := rd_box _ _ _ 2 _ rfl
    have hP5 := hP.sub s5
    revert s5 q0 q2 hP5
    generalize put G' b5 ⟨[.int .i64 k, .int .i64 i, .int .i64 j], true⟩ = G5
    intro s5 q0 q2 hP5
    obtain ⟨g0, g1, g2, g3⟩ := hP5.b
    have hstn := hS.1
    by_cases hvm2 : (s.ms.length : Int) ≤ v
    · simp (maxSteps := 300000) (disch := omega) only [gws, ↓reduceIte, reduceEqDiff, reduceToNat, reduceMul, reduceAdd, Nat.reduceBEq, isLd, e1, e3, e27, e28, e29, g3, hvm2]
      exact fin (fun x => by have := x.n; omega) _ (s2.trans s5)
    · have t1 := hP5.g.st.rd k (by omega)
      have t2 := hP5.g.st.rd j (by omega)
      have hssn := hP5.g.st.sn
      have hmsn := hP5.g.ms.sn
      have hvv : v < s.ms.length := by omega
      have m0' := hP5.g.ms.r0 v hvv
      have m1' := hP5.g.ms.r1 v hvv
      have m2' := hP5.g.ms.r2 v hvv
      have m3' := hP5.g.ms.r3 v hvv
      simp (maxSteps := 300000) (disch := omega) only [gws, ↓reduceIte, reduceEqDiff, reduceToNat, reduceMul, reduceAdd, Nat.reduceBEq, isLd, e1, e3, e27, e28, e29, g0, g1, g2, g3, hvm2, m0', m1', m2', m3', q0, q2, t1, t2]
      refine impl_isBetween_ok (M := s.ms.getD v m0) (hP5.g.ms.m v hvv) (by have := hsm.m v hvv; omega) fun z hz => ?_
      have hA : (z = true ↔ ArrOk s k i) := by
        rw [hz]; unfold ArrOk
        rw [hj1, Int.toNat_natCast, ← hvk]
      cases z
      · simp (maxSteps := 300000) (disch := omega) only [gws, ↓reduceIte, reduceEqDiff, reduceToNat, reduceMul, reduceAdd, Nat.reduceBEq, isLd, e1, e3, e27, e28, e29, g0, g1, g2, g3, hvm2, m0', m1', m2', m3', q0, q2, t1, t2]
        exact fin (fun x => by have := hA.2 (x.m k i hk1 hi1); cases this) _ (s2.trans s5)
      · simp (maxSteps := 300000) (disch := omega) only [gws, ↓reduceIte, reduceEqDiff, reduceToNat, reduceMul, reduceAdd, Nat.reduceBEq, isLd, e1, e3, e27, e28, e29, g0, g1, g2, g3, hvm2, m0', m1', m2', m3', q0, q2, t1, t2]
        refine ⟨mm - 1, by omega, G', s5, v + 1, rfl, by omega, by omega, by omega, rfl, fun k' i' h1 h2 h3 => ?_⟩
        by_cases hlt : fmap s.base k' + i' < v
        · exact hin k' i' h1 h2 hlt
        · have e : fmap s.base k' + i' = fmap s.base k + i := by omega
          have hkk : k' = k := by
            apply Classical.byContradiction; intro hne
            have hf1 := fcs_len s.base k
            have hf2 := fcs_len s.base k'
            rcases Nat.lt_or_gt_of_ne hne with c | c
            · have := fmap_mono s.base (show k' + 1 ≤ k by omega)
              have hs : fmap s.base (k' + 1) = fmap s.base k' + (facs (s.base.getD k' [])).length := rfl
              omega
            · have := fmap_mono s.base (show k + 1 ≤ k' by omega)
              have hs : fmap s.base (k + 1) = fmap s.base k + (facs (s.base.getD k [])).length := rfl
              omega
          subst hkk
          obtain rfl : i' = i := by omega
          exact hA.1 rfl
  · simp (maxSteps := 300000) (disch := omega) only [gws, ↓reduceIte, reduceEqDiff, reduceToNat, reduceMul, reduceAdd, Nat.reduceBEq, isLd, e1, e3, e27, e28, e29, hv, f3]
    refine ⟨G, s1.trans s2, hk _ ?_⟩
    rw [decide_eq_true_eq]
    obtain rfl : v = fmap s.base s.base.length := by omega
    exact ⟨fun x => ⟨hx, hp, hS, by omega, fun k i h1 h2 => hin k i h1 h2 (fmap_lt h1 h2)⟩, fun x => by have := x.n; omega⟩
theorem spec_l09Map_ok {G : GH} {q : Option Addr} {m : ShM} {s : Shf} {k i : Nat} (h : ShP G q m s) (hx : CxOk s.base) (hS : StOk s.base s.st) (hsm : ShSm s) (hk0 : k < s.base.length) (hi : i < (fcs s.base k).length) (hv : fmap s.base k + i < s.ms.length) {K : Value → GH → Prop}
    (hk : ∀ z : Bool, (z = true ↔ ArrOk s k i) → K (.bool z) G) : GC Tryz.prog 145 [.pointer q, .int .i64 (k : Int), .int .i64 (i : Int), .pointer (pa m.M ((fmap s.base k + i) * 4))] G K := by
  refine GC_drop (k13h (by simp) ?_)
  have hq := rd_some h.f0
  obtain ⟨j, hjk, hj1, _, _⟩ := fcs_bd hx hk0 hi
  have hfl := fcs_len s.base k
  have hfn := facs_n (s.base.getD k [])
  have h4 := (hx.s k hk0).1.2
  simp (maxSteps := 300000) (disch := omega) only [gws, ↓reduceIte, reduceEqDiff, reduceToNat, reduceMul, reduceAdd, Nat.reduceBEq, isLd]
  refine spec_l05Faces_ok (k := k) h.cx hx hk0 fun G2 Y y hN => ?_
  have hI := hN.ints2 rfl
  have ri := hI.rd i hi
  rw [hj1] at ri
  have hsn := hI.sn
  have h := h.sub hN.sub
  have s2 := hN.sub
  clear hN
  have hP := h.g.ms.at' hv
  have f1 := h.f1
  have f2 := h.f2
  have m0' := hP.f0
  have m1' := h.g.ms.r1 _ hv
  have m2' := h.g.ms.r2 _ hv
  have hm0 := rd_some m0'
  have hstn := hS.1
  have t1 := h.g.st.rd k (by omega)
  have t2 := h.g.st.rd j (by omega)
  have hssn := h.g.st.sn
  have hA : ArrOk s k i ↔ MtOk (s.ms.getD (fmap s.base k + i) m0) ∧ (s.ms.getD (fmap s.base k + i) m0).p = s.p ∧ (s.ms.getD (fmap s.base k + i) m0).r = s.st.getD k 0 ∧ (s.ms.getD (fmap s.base k + i) m0).c = s.st.getD j 0 := by
    unfold ArrOk; rw [hj1, Int.toNat_natCast]
  have fin : ¬ ArrOk s k i → ∃ G'', Sub G'' G2 ∧ K (.bool false) G'' := fun hno => ⟨G, s2, hk false ⟨fun x => (by cases x), fun x => absurd x hno⟩⟩
  simp (maxSteps := 300000) (disch := omega) only [gws, ↓reduceIte, reduceEqDiff, reduceToNat, reduceMul, reduceAdd, Nat.reduceBEq, isLd, ri]
  refine spec_l03Ok_ok hP (by have := hsm.m _ hv; omega) fun z hz => ?_
  cases z
  · simp (maxSteps := 300000) (disch := omega) only [gws, ↓reduceIte, reduceEqDiff, reduceToNat, reduceMul, reduceAdd, Nat.reduceBEq, isLd, m0', m1', m2', f1, f2, t1, t2]
    exact fin fun x => by have := hz.2 x.1; cases this
  · have hmo := hz.1 rfl
    by_cases e0 : (s.ms.getD (fmap s.base k + i) m0).p = s.p
    · by_cases e1 : (s.ms.getD (fmap s.base k + i) m0).r = s.st.getD k 0
      · by_cases e2 : (s.ms.getD (fmap s.base k + i) m0).c = s.st.getD j 0
        · simp (maxSteps := 300000) (disch := omega) only [gws, ↓reduceIte, reduceEqDiff, reduceToNat, reduceMul, reduceAdd, Nat.reduceBEq, isLd, m0', m1', m2', f1, f2, t1, t2, eq_true e0, eq_true e1, eq_true e2]
          exact ⟨G, s2, hk true ⟨fun _ => hA.2 ⟨hmo, e0, e1, e2⟩, fun _ => rfl⟩⟩
        · simp (maxSteps := 300000) (disch := omega) only [gws, ↓reduceIte, reduceEqDiff, reduceToNat, reduceMul, reduceAdd, Nat.reduceBEq, isLd, m0', m1', m2', f1, f2, t1, t2, eq_true e0, eq_true e1, eq_false e2]
          exact fin fun x => e2 (hA.1 x).2.2.2
      · simp (maxSteps := 300000) (disch := omega) only [gws, ↓reduceIte, reduceEqDiff, reduceToNat, reduceMul, reduceAdd, Nat.reduceBEq, isLd, m0', m1', m2', f1, f2, t1, t2, eq_true e0, eq_false e1]
        exact fin fun x => e1 (hA.1 x).2.2.1
    · simp (maxSteps := 300000) (disch := omega) only [gws, ↓reduceIte, reduceEqDiff, reduceToNat, reduceMul, reduceAdd, Nat.reduceBEq, isLd, m0', m1', m2', f1, f2, t1, t2, eq_false e0]
      exact fin fun x => e0 (hA.1 x).2.1
theorem ok9_l0 {G : GH} {q : Option Addr} {m : ShM} {s : Shf} {k : Nat} {T : Nat → Value} {Q : Cont} (h : ShP G q m s) (hx : CxOk s.base) (hS : StOk s.base s.st) (hsm : ShSm s) (hn : s.ms.length = fmap s.base s.base.length) (hk0 : k < s.base.length) (t0 : T 0 = .pointer q) (t3 : T 3 = .int .i64 k) (t4 : T 4 = .int .i64 0)
    (hbad : ∀ T', (¬ ∀ i, i < (fcs s.base k).length → ArrOk s k i) → T' 2 = .bool false → Q .ret T' G) (hok : ∀ T', (∀ i, i < (fcs s.base k).length → ArrOk s k i) → T' 0 = .pointer q → T' 3 = .int .i64 k → Q (.ex 2) T' G) : gLoop (gW Tryz.prog k13s) Q T G := by
  have f0 := h.f0
  have f3 := h.f3
  have hq := rd_some f0
  have r := h.g.rows.r k hk0
  have hsn := h.g.rows.sn
  have h4 := (hx.s k hk0).1.2
  have hfl := fcs_len s.base k
  have hf2 := facs_two (s.base.getD k [])
  have hms := hsm.ms
  refine gLoop_intro (fun mm T G' => ∃ i : Nat, T 0 = .pointer q ∧ T 3 = .int .i64 k ∧ T 4 = .int .i64 i ∧ mm + i = (s.base.getD k []).length ∧ i ≤ (s.base.getD k []).length ∧ G = G' ∧ (1 < (s.base.getD k []).length → ∀ i', i' < i → ArrOk s k i')) (s.base.getD k []).length
    ⟨0, t0, t3, t4, by omega, by omega, rfl, fun _ i' h => by omega⟩ ?_
  clear t0 t3 t4
  rintro mm T G' ⟨i, t0, t3, t4, hm, hil, rfl, hin⟩
  simp (maxSteps := 300000) (disch := omega) only [gws, ↓reduceIte, reduceEqDiff, reduceToNat, reduceMul, reduceAdd, Nat.reduceBEq, isLd, t0, t3, t4, f0, r]
  by_cases hi : (i : Int) < (s.base.getD k []).length
  · by_cases h1 : (1 : Int) < (s.base.getD k []).length
    · rw [if_pos (by omega)] at hf2
      have hv := fmap_lt hk0 (show i < (fcs s.base k).length by omega)
      have hmsn := h.g.ms.sn
      simp (maxSteps := 300000) (disch := omega) only [gws, ↓reduceIte, reduceEqDiff, reduceToNat, reduceMul, reduceAdd, Nat.reduceBEq, isLd, t0, t3, t4, f0, f3, r, hi, h1]
      refine spec_l09Place_ok (k := k) (i := i) h.cx hx (by omega) (by omega) ?_
      simp (maxSteps := 300000) (disch := omega) only [gws, ↓reduceIte, reduceEqDiff, reduceToNat, reduceMul, reduceAdd, Nat.reduceBEq, isLd, t0, t3, t4, f0, f3, r]
      refine spec_l09Map_ok (k := k) (i := i) h hx hS hsm hk0 (by omega) (by omega) fun z hz => ?_
      cases z
      · simp (maxSteps := 300000) (disch := omega) only [gws, ↓reduceIte, reduceEqDiff, reduceToNat, reduceMul, reduceAdd, Nat.reduceBEq, isLd, t0, t3, t4, f0, f3, r]
        exact hbad _ (fun x => by have := hz.2 (x i (by omega)); cases this) (by simp (maxSteps := 300000) (disch := omega) only [gws, ↓reduceIte, reduceEqDiff, reduceToNat, reduceMul, reduceAdd, Nat.reduceBEq, isLd])
      · simp (maxSteps := 300000) (disch := omega) only [gws, ↓reduceIte, reduceEqDiff, reduceToNat, reduceMul, reduceAdd, Nat.reduceBEq, isLd, t0, t3, t4, f0, f3, r]
        exact ⟨mm - 1, by omega, _, Sub.refl _, i + 1, rfl, by omega, by omega, rfl, fun hh i' hi' => by
          by_cases e : i' = i
          · subst e; exact hz.1 rfl
          · exact hin hh i' (by omega)⟩
    · rw [if_neg (by omega)] at hf2
      simp (maxSteps := 300000) (disch := omega) only [gws, ↓reduceIte, reduceEqDiff, reduceToNat, reduceMul, reduceAdd, Nat.reduceBEq, isLd, t0, t3, t4, f0, r, hi, h1]
      exact hok _ (fun i' hi' => by omega) (by simp (maxSteps := 300000) (disch := omega) only [gws, ↓reduceIte, reduceEqDiff, reduceToNat, reduceMul, reduceAdd, Nat.reduceBEq, isLd, t0]) (by simp (maxSteps := 300000) (disch := omega) only [gws, ↓reduceIte, reduceEqDiff, reduceToNat, reduceMul, reduceAdd, Nat.reduceBEq, isLd, t3])
  · simp (maxSteps := 300000) (disch := omega) only [gws, ↓reduceIte, reduceEqDiff, reduceToNat, reduceMul, reduceAdd, Nat.reduceBEq, isLd, t0, t3, t4, f0, r, hi]
    refine hok _ (fun i' hi' => ?_) (by simp (maxSteps := 300000) (disch := omega) only [gws, ↓reduceIte, reduceEqDiff, reduceToNat, reduceMul, reduceAdd, Nat.reduceBEq, isLd, t0]) (by simp (maxSteps := 300000) (disch := omega) only [gws, ↓reduceIte, reduceEqDiff, reduceToNat, reduceMul, reduceAdd, Nat.reduceBEq, isLd, t3])
    by_cases h1 : 1 < (s.base.getD k []).length
    · rw [if_pos h1] at hf2
      exact hin h1 i' (by omega)
    · rw [if_neg h1] at hf2; omega
theorem spec_l09Ok_ok {G : GH} {q : Option Addr} {m : ShM} {s : Shf} (h : ShP G q m s) (hsm : ShSm s) {K : Value → GH → Prop} (hk : ∀ z : Bool, (z = true ↔ ShOk s) → K (.bool z) G) : GC Tryz.prog 83 [.pointer q] G K := by
  refine k13y (by simp) ?_
  have f0 := h.f0
  have f1 := h.f1
  have f2 := h.f2
  have f3 := h.f3
  have hq := rd_some f0
  have hst := hsm.st
  have hms := hsm.ms
  have hbn := hsm.b.1
  have fin : (¬ ShOk s) → K (.bool false) G := fun hno => hk false ⟨fun x => (by cases x), fun x => absurd x hno⟩
  simp (maxSteps := 300000) (disch := omega) only [gws, ↓reduceIte, reduceEqDiff, reduceToNat, reduceMul, reduceAdd, Nat.reduceBEq, isLd, f1, f2, f3]
  refine spec_l05Ok_ok h.cx hsm.b fun z hz => ?_
  cases z
  · simp (maxSteps := 300000) (disch := omega) only [gws, ↓reduceIte, reduceEqDiff, reduceToNat, reduceMul, reduceAdd, Nat.reduceBEq, isLd, f1, f2, f3]
    exact fin fun x => by have := hz.2 x.b; cases this
  have hx := hz.1 rfl
  simp (maxSteps := 300000) (disch := omega) only [gws, ↓reduceIte, reduceEqDiff, reduceToNat, reduceMul, reduceAdd, Nat.reduceBEq, isLd, f1, f2, f3]
  refine spec_ValidPrime_okS _ fun z hz2 => ?_
  cases z
  · simp (maxSteps := 300000) (disch := omega) only [gws, ↓reduceIte, reduceEqDiff, reduceToNat, reduceMul, reduceAdd, Nat.reduceBEq, isLd, f1, f2, f3]
    exact fin fun x => by have := hz2.2 x.p; cases this
  have hp := hz2.1 rfl
  simp (maxSteps := 300000) (disch := omega) only [gws, ↓reduceIte, reduceEqDiff, reduceToNat, reduceMul, reduceAdd, Nat.reduceBEq, isLd, f1, f2, f3]
  refine spec_l09Stalks_ok h.cx h.g.st hx.cs (by omega) fun z hz3 => ?_
  cases z
  · simp (maxSteps := 300000) (disch := omega) only [gws, ↓reduceIte, reduceEqDiff, reduceToNat, reduceMul, reduceAdd, Nat.reduceBEq, isLd, f1, f2, f3]
    exact fin fun x => by have := hz3.2 x.st; cases this
  have hS := hz3.1 rfl
  clear hz hz2 hz3
  simp (maxSteps := 300000) (disch := omega) only [gws, ↓reduceIte, reduceEqDiff, reduceToNat, reduceMul, reduceAdd, Nat.reduceBEq, isLd, f1, f2, f3]
  refine k12y (by simp) ?_
  simp (maxSteps := 300000) (disch := omega) only [gws, ↓reduceIte, reduceEqDiff, reduceToNat, reduceMul, reduceAdd, Nat.reduceBEq, isLd, f0]
  refine spec_l09Place_ok (k := s.base.length) (i := 0) h.cx hx (Nat.le_refl _) (by omega) ?_
  simp (maxSteps := 300000) (disch := omega) only [gws, ↓reduceIte, reduceEqDiff, reduceToNat, reduceMul, reduceAdd, Nat.reduceBEq, isLd]
  by_cases hn : (s.ms.length : Int) = (fmap s.base s.base.length : Nat)
  · have hn' : s.ms.length = fmap s.base s.base.length := by omega
    simp (maxSteps := 300000) (disch := omega) only [gws, ↓reduceIte, reduceEqDiff, reduceToNat, reduceMul, reduceAdd, Nat.reduceBEq, isLd, f1, f2, f3, eq_true hn]
    refine gLoop_intro (fun mm T G' => ∃ k : Nat, T 0 = .pointer q ∧ T 3 = .int .i64 k ∧ mm + k = s.base.length ∧ k ≤ s.base.length ∧ G = G' ∧ ∀ k', k' < k → ∀ i, i < (fcs s.base k').length → ArrOk s k' i) s.base.length
      ⟨0, by simp (maxSteps := 300000) (disch := omega) only [gws, ↓reduceIte, reduceEqDiff, reduceToNat, reduceMul, reduceAdd, Nat.reduceBEq, isLd], by simp (maxSteps := 300000) (disch := omega) only [gws, ↓reduceIte, reduceEqDiff, reduceToNat, reduceMul, reduceAdd, Nat.reduceBEq, isLd] <;> rfl, by omega, by omega, rfl, fun k' h => by omega⟩ ?_
    rintro mm T G' ⟨k, t0, t3, hm, hkl, rfl, hin⟩
    simp (maxSteps := 300000) (disch := omega) only [gws, ↓reduceIte, reduceEqDiff, reduceToNat, reduceMul, reduceAdd, Nat.reduceBEq, isLd, t0, t3, f0]
    by_cases hk0 : (k : Int) < s.base.length
    · simp (maxSteps := 300000) (disch := omega) only [gws, ↓reduceIte, reduceEqDiff, reduceToNat, reduceMul, reduceAdd, Nat.reduceBEq, isLd, t0, t3, f0, hk0]
      refine ok9_l0 (k := k) h hx hS hsm hn' (by omega) (by simp (maxSteps := 300000) (disch := omega) only [gws, ↓reduceIte, reduceEqDiff, reduceToNat, reduceMul, reduceAdd, Nat.reduceBEq, isLd, t0]) (by simp (maxSteps := 300000) (disch := omega) only [gws, ↓reduceIte, reduceEqDiff, reduceToNat, reduceMul, reduceAdd, Nat.reduceBEq, isLd, t3]) (by simp (maxSteps := 300000) (disch := omega) only [gws, ↓reduceIte, reduceEqDiff, reduceToNat, reduceMul, reduceAdd, Nat.reduceBEq, isLd] <;> rfl) (fun T' hno t2 => ?_) (fun T' hall u0 u3 => ?_)
      · simp (maxSteps := 300000) (disch := omega) only [gws, ↓reduceIte, reduceEqDiff, reduceToNat, reduceMul, reduceAdd, Nat.reduceBEq, isLd, t2]
        exact fin fun x => hno fun i hi => x.m k i (by omega) hi
      · simp (maxSteps := 300000) (disch := omega) only [gws, ↓reduceIte, reduceEqDiff, reduceToNat, reduceMul, reduceAdd, Nat.reduceBEq, isLd, u0, u3]
        exact ⟨mm - 1, by omega, _, Sub.refl _, k + 1, rfl, by omega, by omega, rfl, fun k' hk' => by
          by_cases e : k' = k
          · subst e; exact hall
          · exact hin k' (by omega)⟩
    · simp (maxSteps := 300000) (disch := omega) only [gws, ↓reduceIte, reduceEqDiff, reduceToNat, reduceMul, reduceAdd, Nat.reduceBEq, isLd, t0, t3, f0, hk0]
      exact hk true ⟨fun _ => ⟨hx, hp, hS, hn', fun k i h1 h2 => hin k (by omega) i h2⟩, fun _ => rfl⟩
  · simp (maxSteps := 300000) (disch := omega) only [gws, ↓reduceIte, reduceEqDiff, reduceToNat, reduceMul, reduceAdd, Nat.reduceBEq, isLd, f1, f2, f3, eq_false hn]
    exact fin fun x => hn (by have := x.n; omega)
/-- the product of two matrices. -/
def prodM (a b : Mt) : Mt := mtF a.p a.r.toNat b.c.toNat (prodF a.p a.c.toNat (fM a) (fM b))
theorem mt_len {M : Mt} (h : MtOk M) : M.m.length = M.r.toNat * M.c.toNat ∧ (M.r.toNat : Int) = M.r ∧ (M.c.toNat : Int) = M.c := by
  have h1 : (M.r.toNat : Int) = M.r := Int.toNat_of_nonneg h.r.1
  have h2 : (M.c.toNat : Int) = M.c := Int.toNat_of_nonneg h.c.1
  refine ⟨?_, h1, h2⟩
  have := h.n
  rw [← h1, ← h2, ← Int.natCast_mul] at this
  omega
theorem mtV_eq {M : Mt} (h : MtOk M) (A : Option Addr) (k : Nat) : mtV M A k = matV M.p M.r.toNat M.c.toNat A (M.r.toNat * M.c.toNat) k := by
  obtain ⟨h1, h2, h3⟩ := mt_len h
  unfold mtV mtC matV matC
  rw [h1, h2, h3]
theorem mt_ints {M : Mt} (h : MtOk M) {G : GH} {A : Option Addr} {k : Nat} (hi : IntS G A k M.m) : IntS G A k (flatL M.r.toNat M.c.toNat (fM M)) := by
  have := mt_flat h
  have e : M.m = flatL M.r.toNat M.c.toNat (fM M) := congrArg Mt.m this
  rwa [e] at hi
theorem mtV_F (p : Int) (R C : Nat) (f : Int → Int → Int) (A : Option Addr) (k : Nat) : mtV (mtF p R C f) A k = matV p R C A (R * C) k := by
  unfold mtV mtC matV matC mtF
  dsimp only
  rw [flatL_len]
theorem MtP.mq {G : GH} {q A : Option Addr} {M : Mt} {k : Nat} (h : MtP G q M A k) (hm : MtOk M) : MQ G q M.p M.r.toNat M.c.toNat A k (fM M) := by
  obtain ⟨h1, h2, h3⟩ := mt_len hm
  exact ⟨h.f0, by rw [h2]; exact h.f1, by rw [h3]; exact h.f2, by rw [← h1]; exact h.f3, mt_ints hm h.m⟩
theorem mt_sz {M : Mt} (h : MtOk M) : M.r.toNat ≤ 2 ^ 10 ∧ M.c.toNat ≤ 2 ^ 10 := by have := h.r; have := h.c; omega
theorem impl_productM_ok {G : GH} {a b : Mt} {A B : Option Addr} {k l : Nat} (ha : MtOk a) (hb : MtOk b) (hd : a.c = b.r) (ia : IntS G A k a.m) (ib : IntS G B l b.m) {K : Value → GH → Prop}
    (hk : ∀ G' D e, Sub G G' → Off G D → IntS G' D e (prodM a b).m → K (mtV (prodM a b) D e) G') : GC Tryz.prog 184 [mtV a A k, mtV b B l] G K := by
  rw [mtV_eq ha, mtV_eq hb, ← hd]
  have hb2 := mt_ints hb ib
  rw [← hd] at hb2
  refine impl_product_ok (p := a.p) (p' := b.p) (mt_ints ha ia) hb2 (mt_sz ha).1 (mt_sz ha).2 (mt_sz hb).2 ⟨ha.p.1, ha.p.2.1⟩ (fM_bd ha) (fM_bd hb) fun G' D e s oD hI => ?_
  have := hk G' D e s oD hI
  unfold prodM at this
  rwa [mtV_F] at this
theorem spec_l03TimesM_ok {G : GH} {a b : Mt} {qa qb A B : Option Addr} {k l : Nat} (ha : MtOk a) (hb : MtOk b) (hd : a.c = b.r) (ia : MtP G qa a A k) (ib : MtP G qb b B l) {K : Value → GH → Prop}
    (hk : ∀ G' D e, Sub G G' → Off G D → IntS G' D e (prodM a b).m → K (mtV (prodM a b) D e) G') : GC Tryz.prog 173 [.pointer qa, .pointer qb] G K := by
  have hb2 := ib.mq hb
  rw [← hd] at hb2
  refine spec_l03Times_ok (ia.mq ha) hb2 (mt_sz ha).1 (mt_sz ha).2 (mt_sz hb).2 ⟨ha.p.1, ha.p.2.1⟩ (fM_bd ha) (fM_bd hb) fun G' D e s oD hI => ?_
  have := hk G' D e s oD hI
  unfold prodM at this
  rwa [mtV_F] at this
/-- the matrix to a simplex from a face, by their numbers. -/
def dirM (s : Shf) (k i : Nat) : Mt := s.ms.getD (fmap s.base k + i) m0
def faN (s : Shf) (k i : Nat) : Nat := ((fcs s.base k).getD i 0).toNat
def SqOk (s : Shf) (k i j : Nat) : Prop := prodM (dirM s k i) (dirM s (faN s k i) (j - 1)) = prodM (dirM s k j) (dirM s (faN s k j) i)
def SqAll (s : Shf) : Prop := ∀ k i j, k < s.base.length → i < j → j < (s.base.getD k []).length → 3 ≤ (s.base.getD k []).length → SqOk s k i j
/-- what is known of two arrows that follow each other. -/
structure Two (s : Shf) (k i j : Nat) : Prop where
  ki : fmap s.base k + i < s.ms.length
  f : faN s k i < s.base.length
  fe : (fcs s.base k).getD i 0 = (faN s k i : Nat)
  fj : fmap s.base (faN s k i) + j < s.ms.length
  a : MtOk (dirM s k i)
  b : MtOk (dirM s (faN s k i) j)
  d : (dirM s k i).c = (dirM s (faN s k i) j).r
theorem two_of {s : Shf} (h : ShOk s) {k i j : Nat} (hk : k < s.base.length) (h3 : 3 ≤ (s.base.getD k []).length) (hi : i < (s.base.getD k []).length) (hj : j + 1 < (s.base.getD k []).length) : Two s k i j := by
  have hl : (fcs s.base k).length = (s.base.getD k []).length := by rw [fcs_len, facs_two, if_pos (by omega)]
  obtain ⟨f, hf, hfe, hfl, _⟩ := fcs_bd h.b hk (show i < (fcs s.base k).length by omega)
  have hfn : faN s k i = f := by unfold faN; rw [hfe]; rfl
  have hlf : (fcs s.base f).length = (s.base.getD f []).length := by rw [fcs_len, facs_two, if_pos (by omega)]
  have m1 := h.m k i hk (by omega)
  have m2 := h.m f j (by omega) (by omega)
  have l1 := fmap_lt hk (show i < (fcs s.base k).length by omega)
  have l2 := fmap_lt (show f < s.base.length by omega) (show j < (fcs s.base f).length by omega)
  have hn := h.n
  refine ⟨by omega, by omega, by rw [hfn]; exact hfe, by rw [hfn]; omega, m1.1, by rw [hfn]; exact m2.1, ?_⟩
  have e1 := m1.2.2.2
  have e2 := m2.2.2.1
  rw [hfn]
  unfold dirM
  rw [e1, e2, hfe]; rfl
theorem mtC_one (M : Mt) (A : Option Addr) (k : Nat) : ∀ v ∈ mtC M A k, oneB v = true := by
  intro v hv; simp [mtC] at hv; rcases hv with rfl | rfl | rfl | rfl <;> rfl
theorem ints_put {G : GH} {D : Option Addr} {e b : Nat} {xs : List Int} {x : Ent} (h : IntS G D e xs) (nb : ∀ a, D = some a → a.block ≠ b) : IntS (put G b x) D e xs := by
  refine ⟨h.cap, fun i hi => ?_⟩
  have := h.rd i hi
  cases hp : pa D i with
  | none => rw [hp] at this; simp [rd] at this
  | some a =>
    obtain ⟨b', o, sp⟩ := a
    cases sp with
    | some _ => rw [hp] at this; simp [rd] at this
    | none =>
      have hne : b' ≠ b := by
        cases D with
        | none => simp [pa] at hp
        | some d =>
          have hn := nb d rfl
          simp only [pa, Option.map_some, Option.some.injEq] at hp
          have hb' : (d.add i).block = d.block := by unfold Addr.add; split <;> rfl
          rw [hp] at hb'
          dsimp only at hb'
          rw [hb']; exact hn
      rw [hp] at this
      rw [rd_put_ne _ _ _ _ _ hne]; exact this
theorem ws_t12 {G : GH} {b1 k i j y : Nat} {m : ShM} {s : Shf} {Y : Option Addr} {T : Nat → Value} {K : (Nat → Value) → GH → Prop} (t1 : T 1 = .pointer (some ⟨b1, 0, none⟩)) (t7 : T 7 = .int .i64 k) (t8 : T 8 = .slice Y (fcs s.base k).length y) (t9 : T 9 = .int .i64 i) (t10 : T 10 = .int .i64 j)
    (h : ShP G (some ⟨b1, 0, none⟩) m s) (hs : ShOk s) (hms : s.ms.length ≤ 2 ^ 20) (hY : IntS G Y y (fcs s.base k)) (hk : k < s.base.length) (h3 : 3 ≤ (s.base.getD k []).length) (hij : i < j) (hj : j < (s.base.getD k []).length)
    (hK : ∀ T' G' b D e, Sub G G' → (∀ l, l < 43 → l ≠ 11 → T' l = T l) → T' 11 = .pointer (some ⟨b, 0, none⟩) → G' b = some ⟨mtC (prodM (dirM s k i) (dirM s (faN s k i) (j - 1))) D e, true⟩ → IntS G' D e (prodM (dirM s k i) (dirM s (faN s k i) (j - 1))).m → K T' G') : gT Tryz.prog khb [] K T G := by
  have tw := two_of hs hk h3 (i := i) (j := (j - 1)) (by omega) (by omega)
  have hl : (fcs s.base k).length = (s.base.getD k []).length := by rw [fcs_len, facs_two, if_pos (by omega)]
  have h4 := (hs.b.s k hk).1.2
  have hsn := hY.sn
  have ej : (j : Int) - 1 = ((j - 1 : Nat) : Int) := by omega
  have D1 : ∀ {G' : GH} (u : Sub G G') {Kx : Value → GH → Prop}, Kx (mtV (dirM s k i) (m.Hm (fmap s.base k + i)).1 (m.Hm (fmap s.base k + i)).2) G' → GC Tryz.prog 159 [shV m s, .int .i64 (k : Int), .int .i64 (i : Int)] G' Kx := by
    intro G' u Kx hx
    exact impl_direct_ok (k := k) (i := i) (h.sub u).g hs.b (by omega) tw.ki hms hx
  have D2 : ∀ {G' : GH} (u : Sub G G') {Kx : Value → GH → Prop}, Kx (mtV (dirM s (faN s k i) (j - 1)) (m.Hm (fmap s.base (faN s k i) + (j - 1))).1 (m.Hm (fmap s.base (faN s k i) + (j - 1))).2) G' → GC Tryz.prog 159 [shV m s, .int .i64 (faN s k i : Nat), .int .i64 (((j - 1) : Nat) : Int)] G' Kx := by
    intro G' u Kx hx
    exact impl_direct_ok (k := faN s k i) (i := (j - 1)) (h.sub u).g hs.b (by have := tw.f; omega) tw.fj hms hx
  have PR : ∀ {G' : GH} (u : Sub G G') {Kx : Value → GH → Prop}, (∀ G2 D e, Sub G' G2 → Off G' D → IntS G2 D e (prodM (dirM s k i) (dirM s (faN s k i) (j - 1))).m → Kx (mtV (prodM (dirM s k i) (dirM s (faN s k i) (j - 1))) D e) G2) → GC Tryz.prog 184 [mtV (dirM s k i) (m.Hm (fmap s.base k + i)).1 (m.Hm (fmap s.base k + i)).2, mtV (dirM s (faN s k i) (j - 1)) (m.Hm (fmap s.base (faN s k i) + (j - 1))).1 (m.Hm (fmap s.base (faN s k i) + (j - 1))).2] G' Kx := by
    intro G' u Kx hx
    exact impl_productM_ok tw.a tw.b tw.d ((h.sub u).g.ms.m _ tw.ki) ((h.sub u).g.ms.m _ tw.fj) hx
  have rds : ∀ {G' : GH}, Sub G G' → rd G' (some ⟨b1, 0, none⟩) = some (.slice m.A s.base.length m.c) ∧ rd G' (some ⟨b1, 1, none⟩) = some (.int .i64 s.p) ∧ rd G' (some ⟨b1, 2, none⟩) = some (.slice m.S s.st.length m.e) ∧ rd G' (some ⟨b1, 3, none⟩) = some (.slice m.M s.ms.length m.l) ∧ rd G' (pa Y i) = some (.int .i64 (faN s k i : Nat)) := fun u => by
    obtain ⟨a, b, c, d⟩ := (h.sub u).b
    have := (hY.sub u).rd i (by omega)
    rw [tw.fe] at this
    exact ⟨a, b, c, d, this⟩
  unfold shV shC at D1 D2
  obtain ⟨q0, q1, q2, q3, qy⟩ := rds (Sub.refl _)
  simp (maxSteps := 300000) (disch := omega) only [gws, ↓reduceIte, reduceEqDiff, reduceToNat, reduceMul, reduceAdd, Nat.reduceBEq, isLd, t1, t7, t8, t9, t10, q0, q1, q2, q3, qy, ej]
  refine ⟨D1 (Sub.refl _) ?_, fun b hb => ?_⟩
  · simp (maxSteps := 300000) (disch := omega) only [gws, ↓reduceIte, reduceEqDiff, reduceToNat, reduceMul, reduceAdd, Nat.reduceBEq, isLd, t1, t7, t8, t9, t10, q0, q1, q2, q3, qy, ej]
    refine ⟨D2 (Sub.refl _) ?_, fun b hb => ?_⟩
    · simp (maxSteps := 300000) (disch := omega) only [gws, ↓reduceIte, reduceEqDiff, reduceToNat, reduceMul, reduceAdd, Nat.reduceBEq, isLd, t1, t7, t8, t9, t10, q0, q1, q2, q3, qy, ej]
      refine ⟨PR (Sub.refl _) fun G2 D e u oD hI => ?_, fun b hb => ?_⟩
      · obtain ⟨q0, q1, q2, q3, qy⟩ := rds u
        simp (maxSteps := 300000) (disch := omega) only [gws, ↓reduceIte, reduceEqDiff, reduceToNat, reduceMul, reduceAdd, Nat.reduceBEq, isLd, t1, t7, t8, t9, t10, q0, q1, q2, q3, qy, ej]
        intro b hb
        have u2 := Sub.put hb ⟨[.int .i64 0, .int .i64 0, .int .i64 0, .slice none 0 0], true⟩
        obtain ⟨q0, q1, q2, q3, qy⟩ := rds (u.trans u2)
        simp (maxSteps := 300000) (disch := omega) only [gws, ↓reduceIte, reduceEqDiff, reduceToNat, reduceMul, reduceAdd, Nat.reduceBEq, isLd, t1, t7, t8, t9, t10, q0, q1, q2, q3, qy, ej]
        refine st_fresh (vs := mtC (prodM (dirM s k i) (dirM s (faN s k i) (j - 1))) D e) rfl rfl rfl (mtC_one _ _ _) ?_
        simp (maxSteps := 300000) (disch := omega) only [gws, ↓reduceIte, reduceEqDiff, reduceToNat, reduceMul, reduceAdd, Nat.reduceBEq, isLd]
        exact hK _ _ b D e (u.trans (Sub.put hb _)) (fun l h1 h2 => by repeat rw [upd_app, if_neg (by omega)]) (by simp (maxSteps := 300000) (disch := omega) only [gws, ↓reduceIte, reduceEqDiff, reduceToNat, reduceMul, reduceAdd, Nat.reduceBEq, isLd]) (put_same _ _ _) (hI.sub (Sub.put hb _))
      · have u2 := Sub.put hb ⟨[.int .i64 0, .int .i64 0, .int .i64 0, .slice none 0 0], true⟩
        obtain ⟨q0, q1, q2, q3, qy⟩ := rds u2
        simp (maxSteps := 300000) (disch := omega) only [gws, ↓reduceIte, reduceEqDiff, reduceToNat, reduceMul, reduceAdd, Nat.reduceBEq, isLd, t1, t7, t8, t9, t10, q0, q1, q2, q3, qy, ej]
        refine PR u2 fun G2 D e u oD hI => ?_
        obtain ⟨q0, q1, q2, q3, qy⟩ := rds (u2.trans u)
        simp (maxSteps := 300000) (disch := omega) only [gws, ↓reduceIte, reduceEqDiff, reduceToNat, reduceMul, reduceAdd, Nat.reduceBEq, isLd, t1, t7, t8, t9, t10, q0, q1, q2, q3, qy, ej]
        refine st_many (vs := mtC (prodM (dirM s k i) (dirM s (faN s k i) (j - 1))) D e) rfl (u _ _ (put_same _ _ _)) rfl (by simp [mtC]) (mtC_one _ _ _) ?_
        simp (maxSteps := 300000) (disch := omega) only [gws, ↓reduceIte, reduceEqDiff, reduceToNat, reduceMul, reduceAdd, Nat.reduceBEq, isLd, over, mtC]
        have nb : ∀ a, D = some a → a.block ≠ b := fun a ha e' => by have := oD a ha; rw [e', put_same] at this; cases this
        exact hK _ _ b D e ((u2.trans u).skip hb) (fun l h1 h2 => by repeat rw [upd_app, if_neg (by omega)]) (by simp (maxSteps := 300000) (disch := omega) only [gws, ↓reduceIte, reduceEqDiff, reduceToNat, reduceMul, reduceAdd, Nat.reduceBEq, isLd]) (put_same _ _ _) (ints_put hI nb)
    · have u2 := Sub.put hb ⟨[.int .i64 0, .int .i64 0, .int .i64 0, .slice none 0 0], true⟩
      obtain ⟨q0, q1, q2, q3, qy⟩ := rds u2
      simp (maxSteps := 300000) (disch := omega) only [gws, ↓reduceIte, reduceEqDiff, reduceToNat, reduceMul, reduceAdd, Nat.reduceBEq, isLd, t1, t7, t8, t9, t10, q0, q1, q2, q3, qy, ej]
      refine D2 u2 ?_
      simp (maxSteps := 300000) (disch := omega) only [gws, ↓reduceIte, reduceEqDiff, reduceToNat, reduceMul, reduceAdd, Nat.reduceBEq, isLd, t1, t7, t8, t9, t10, q0, q1, q2, q3, qy, ej]
      refine PR u2 fun G2 D e u oD hI => ?_
      obtain ⟨q0, q1, q2, q3, qy⟩ := rds (u2.trans u)
      simp (maxSteps := 300000) (disch := omega) only [gws, ↓reduceIte, reduceEqDiff, reduceToNat, reduceMul, reduceAdd, Nat.reduceBEq, isLd, t1, t7, t8, t9, t10, q0, q1, q2, q3, qy, ej]
      refine st_many (vs := mtC (prodM (dirM s k i) (dirM s (faN s k i) (j - 1))) D e) rfl (u _ _ (put_same _ _ _)) rfl (by simp [mtC]) (mtC_one _ _ _) ?_
      simp (maxSteps := 300000) (disch := omega) only [gws, ↓reduceIte, reduceEqDiff, reduceToNat, reduceMul, reduceAdd, Nat.reduceBEq, isLd, over, mtC]
      have nb : ∀ a, D = some a → a.block ≠ b := fun a ha e' => by have := oD a ha; rw [e', put_same] at this; cases this
      exact hK _ _ b D e ((u2.trans u).skip hb) (fun l h1 h2 => by repeat rw [upd_app, if_neg (by omega)]) (by simp (maxSteps := 300000) (disch := omega) only [gws, ↓reduceIte, reduceEqDiff, reduceToNat, reduceMul, reduceAdd, Nat.reduceBEq, isLd]) (put_same _ _ _) (ints_put hI nb)
  · have u2 := Sub.put hb ⟨[.int .i64 0, .int .i64 0, .int .i64 0, .slice none 0 0], true⟩
    obtain ⟨q0, q1, q2, q3, qy⟩ := rds u2
    simp (maxSteps := 300000) (disch := omega) only [gws, ↓reduceIte, reduceEqDiff, reduceToNat, reduceMul, reduceAdd, Nat.reduceBEq, isLd, t1, t7, t8, t9, t10, q0, q1, q2, q3, qy, ej]
    refine D1 u2 ?_
    simp (maxSteps := 300000) (disch := omega) only [gws, ↓reduceIte, reduceEqDiff, reduceToNat, reduceMul, reduceAdd, Nat.reduceBEq, isLd, t1, t7, t8, t9, t10, q0, q1, q2, q3, qy, ej]
    refine D2 u2 ?_
    simp (maxSteps := 300000) (disch := omega) only [gws, ↓reduceIte, reduceEqDiff, reduceToNat, reduceMul, reduceAdd, Nat.reduceBEq, isLd, t1, t7, t8, t9, t10, q0, q1, q2, q3, qy, ej]
    refine PR u2 fun G2 D e u oD hI => ?_
    obtain ⟨q0, q1, q2, q3, qy⟩ := rds (u2.trans u)
    simp (maxSteps := 300000) (disch := omega) only [gws, ↓reduceIte, reduceEqDiff, reduceToNat, reduceMul, reduceAdd, Nat.reduceBEq, isLd, t1, t7, t8, t9, t10, q0, q1, q2, q3, qy, ej]
    refine st_many (vs := mtC (prodM (dirM s k i) (dirM s (faN s k i) (j - 1))) D e) rfl (u _ _ (put_same _ _ _)) rfl (by simp [mtC]) (mtC_one _ _ _) ?_
    simp (maxSteps := 300000) (disch := omega) only [gws, ↓reduceIte, reduceEqDiff, reduceToNat, reduceMul, reduceAdd, Nat.reduceBEq, isLd, over, mtC]
    have nb : ∀ a, D = some a → a.block ≠ b := fun a ha e' => by have := oD a ha; rw [e', put_same] at this; cases this
    exact hK _ _ b D e ((u2.trans u).skip hb) (fun l h1 h2 => by repeat rw [upd_app, if_neg (by omega)]) (by simp (maxSteps := 300000) (disch := omega) only [gws, ↓reduceIte, reduceEqDiff, reduceToNat, reduceMul, reduceAdd, Nat.reduceBEq, isLd]) (put_same _ _ _) (ints_put hI nb)
theorem ws_t13 {G : GH} {b1 k i j y : Nat} {m : ShM} {s : Shf} {Y : Option Addr} {T : Nat → Value} {K : (Nat → Value) → GH → Prop} (t1 : T 1 = .pointer (some ⟨b1, 0, none⟩)) (t7 : T 7 = .int .i64 k) (t8 : T 8 = .slice Y (fcs s.base k).length y) (t9 : T 9 = .int .i64 i) (t10 : T 10 = .int .i64 j)
    (h : ShP G (some ⟨b1, 0, none⟩) m s) (hs : ShOk s) (hms : s.ms.length ≤ 2 ^ 20) (hY : IntS G Y y (fcs s.base k)) (hk : k < s.base.length) (h3 : 3 ≤ (s.base.getD k []).length) (hij : i < j) (hj : j < (s.base.getD k []).length)
    (hK : ∀ T' G' b D e, Sub G G' → (∀ l, l < 56 → l ≠ 12 → T' l = T l) → T' 12 = .pointer (some ⟨b, 0, none⟩) → G' b = some ⟨mtC (prodM (dirM s k j) (dirM s (faN s k j) i)) D e, true⟩ → IntS G' D e (prodM (dirM s k j) (dirM s (faN s k j) i)).m → K T' G') : gT Tryz.prog khc [] K T G := by
  have tw := two_of hs hk h3 (i := j) (j := i) (by omega) (by omega)
  have hl : (fcs s.base k).length = (s.base.getD k []).length := by rw [fcs_len, facs_two, if_pos (by omega)]
  have h4 := (hs.b.s k hk).1.2
  have hsn := hY.sn
  have ej : (j : Int) - 1 = ((j - 1 : Nat) : Int) := by omega
  have D1 : ∀ {G' : GH} (u : Sub G G') {Kx : Value → GH → Prop}, Kx (mtV (dirM s k j) (m.Hm (fmap s.base k + j)).1 (m.Hm (fmap s.base k + j)).2) G' → GC Tryz.prog 159 [shV m s, .int .i64 (k : Int), .int .i64 (j : Int)] G' Kx := by
    intro G' u Kx hx
    exact impl_direct_ok (k := k) (i := j) (h.sub u).g hs.b (by omega) tw.ki hms hx
  have D2 : ∀ {G' : GH} (u : Sub G G') {Kx : Value → GH → Prop}, Kx (mtV (dirM s (faN s k j) i) (m.Hm (fmap s.base (faN s k j) + i)).1 (m.Hm (fmap s.base (faN s k j) + i)).2) G' → GC Tryz.prog 159 [shV m s, .int .i64 (faN s k j : Nat), .int .i64 (i : Int)] G' Kx := by
    intro G' u Kx hx
    exact impl_direct_ok (k := faN s k j) (i := i) (h.sub u).g hs.b (by have := tw.f; omega) tw.fj hms hx
  have PR : ∀ {G' : GH} (u : Sub G G') {Kx : Value → GH → Prop}, (∀ G2 D e, Sub G' G2 → Off G' D → IntS G2 D e (prodM (dirM s k j) (dirM s (faN s k j) i)).m → Kx (mtV (prodM (dirM s k j) (dirM s (faN s k j) i)) D e) G2) → GC Tryz.prog 184 [mtV (dirM s k j) (m.Hm (fmap s.base k + j)).1 (m.Hm (fmap s.base k + j)).2, mtV (dirM s (faN s k j) i) (m.Hm (fmap s.base (faN s k j) + i)).1 (m.Hm (fmap s.base (faN s k j) + i)).2] G' Kx := by
    intro G' u Kx hx
    exact impl_productM_ok tw.a tw.b tw.d ((h.sub u).g.ms.m _ tw.ki) ((h.sub u).g.ms.m _ tw.fj) hx
  have rds : ∀ {G' : GH}, Sub G G' → rd G' (some ⟨b1, 0, none⟩) = some (.slice m.A s.base.length m.c) ∧ rd G' (some ⟨b1, 1, none⟩) = some (.int .i64 s.p) ∧ rd G' (some ⟨b1, 2, none⟩) = some (.slice m.S s.st.length m.e) ∧ rd G' (some ⟨b1, 3, none⟩) = some (.slice m.M s.ms.length m.l) ∧ rd G' (pa Y j) = some (.int .i64 (faN s k j : Nat)) := fun u => by
    obtain ⟨a, b, c, d⟩ := (h.sub u).b
    have := (hY.sub u).rd j (by omega)
    rw [tw.fe] at this
    exact ⟨a, b, c, d, this⟩
  unfold shV shC at D1 D2
  obtain ⟨q0, q1, q2, q3, qy⟩ := rds (Sub.refl _)
  simp (maxSteps := 300000) (disch := omega) only [gws, ↓reduceIte, reduceEqDiff, reduceToNat, reduceMul, reduceAdd, Nat.reduceBEq, isLd, t1, t7, t8, t9, t10, q0, q1, q2, q3, qy, ej]
  refine ⟨D1 (Sub.refl _) ?_, fun b hb => ?_⟩
  · simp (maxSteps := 300000) (disch := omega) only [gws, ↓reduceIte, reduceEqDiff, reduceToNat, reduceMul, reduceAdd, Nat.reduceBEq, isLd, t1, t7, t8, t9, t10, q0, q1, q2, q3, qy, ej]
    refine ⟨D2 (Sub.refl _) ?_, fun b hb => ?_⟩
    · simp (maxSteps := 300000) (disch := omega) only [gws, ↓reduceIte, reduceEqDiff, reduceToNat, reduceMul, reduceAdd, Nat.reduceBEq, isLd, t1, t7, t8, t9, t10, q0, q1, q2, q3, qy, ej]
      refine ⟨PR (Sub.refl _) fun G2 D e u oD hI => ?_, fun b hb => ?_⟩
      · obtain ⟨q0, q1, q2, q3, qy⟩ := rds u
        simp (maxSteps := 300000) (disch := omega) only [gws, ↓reduceIte, reduceEqDiff, reduceToNat, reduceMul, reduceAdd, Nat.reduceBEq, isLd, t1, t7, t8, t9, t10, q0, q1, q2, q3, qy, ej]
        intro b hb
        have u2 := Sub.put hb ⟨[.int .i64 0, .int .i64 0, .int .i64 0, .slice none 0 0], true⟩
        obtain ⟨q0, q1, q2, q3, qy⟩ := rds (u.trans u2)
        simp (maxSteps := 300000) (disch := omega) only [gws, ↓reduceIte, reduceEqDiff, reduceToNat, reduceMul, reduceAdd, Nat.reduceBEq, isLd, t1, t7, t8, t9, t10, q0, q1, q2, q3, qy, ej]
        refine st_fresh (vs := mtC (prodM (dirM s k j) (dirM s (faN s k j) i)) D e) rfl rfl rfl (mtC_one _ _ _) ?_
        simp (maxSteps := 300000) (disch := omega) only [gws, ↓reduceIte, reduceEqDiff, reduceToNat, reduceMul, reduceAdd, Nat.reduceBEq, isLd]
        exact hK _ _ b D e (u.trans (Sub.put hb _)) (fun l h1 h2 => by repeat rw [upd_app, if_neg (by omega)]) (by simp (maxSteps := 300000) (disch := omega) only [gws, ↓reduceIte, reduceEqDiff, reduceToNat, reduceMul, reduceAdd, Nat.reduceBEq, isLd]) (put_same _ _ _) (hI.sub (Sub.put hb _))
      · have u2 := Sub.put hb ⟨[.int .i64 0, .int .i64 0, .int .i64 0, .slice none 0 0], true⟩
        obtain ⟨q0, q1, q2, q3, qy⟩ := rds u2
        simp (maxSteps := 300000) (disch := omega) only [gws, ↓reduceIte, reduceEqDiff, reduceToNat, reduceMul, reduceAdd, Nat.reduceBEq, isLd, t1, t7, t8, t9, t10, q0, q1, q2, q3, qy, ej]
        refine PR u2 fun G2 D e u oD hI => ?_
        obtain ⟨q0, q1, q2, q3, qy⟩ := rds (u2.trans u)
        simp (maxSteps := 300000) (disch := omega) only [gws, ↓reduceIte, reduceEqDiff, reduceToNat, reduceMul, reduceAdd, Nat.reduceBEq, isLd, t1, t7, t8, t9, t10, q0, q1, q2, q3, qy, ej]
        refine st_many (vs := mtC (prodM (dirM s k j) (dirM s (faN s k j) i)) D e) rfl (u _ _ (put_same _ _ _)) rfl (by simp [mtC]) (mtC_one _ _ _) ?_
        simp (maxSteps := 300000) (disch := omega) only [gws, ↓reduceIte, reduceEqDiff, reduceToNat, reduceMul, reduceAdd, Nat.reduceBEq, isLd, over, mtC]
        have nb : ∀ a, D = some a → a.block ≠ b := fun a ha e' => by have := oD a ha; rw [e', put_same] at this; cases this
        exact hK _ _ b D e ((u2.trans u).skip hb) (fun l h1 h2 => by repeat rw [upd_app, if_neg (by omega)]) (by simp (maxSteps := 300000) (disch := omega) only [gws, ↓reduceIte, reduceEqDiff, reduceToNat, reduceMul, reduceAdd, Nat.reduceBEq, isLd]) (put_same _ _ _) (ints_put hI nb)
    · have u2 := Sub.put hb ⟨[.int .i64 0, .int .i64 0, .int .i64 0, .slice none 0 0], true⟩
      obtain ⟨q0, q1, q2, q3, qy⟩ := rds u2
      simp (maxSteps := 300000) (disch := omega) only [gws, ↓reduceIte, reduceEqDiff, reduceToNat, reduceMul, reduceAdd, Nat.reduceBEq, isLd, t1, t7, t8, t9, t10, q0, q1, q2, q3, qy, ej]
      refine D2 u2 ?_
      simp (maxSteps := 300000) (disch := omega) only [gws, ↓reduceIte, reduceEqDiff, reduceToNat, reduceMul, reduceAdd, Nat.reduceBEq, isLd, t1, t7, t8, t9, t10, q0, q1, q2, q3, qy, ej]
      refine PR u2 fun G2 D e u oD hI => ?_
      obtain ⟨q0, q1, q2, q3, qy⟩ := rds (u2.trans u)
      simp (maxSteps := 300000) (disch := omega) only [gws, ↓reduceIte, reduceEqDiff, reduceToNat, reduceMul, reduceAdd, Nat.reduceBEq, isLd, t1, t7, t8, t9, t10, q0, q1, q2, q3, qy, ej]
      refine st_many (vs := mtC (prodM (dirM s k j) (dirM s (faN s k j) i)) D e) rfl (u _ _ (put_same _ _ _)) rfl (by simp [mtC]) (mtC_one _ _ _) ?_
      simp (maxSteps := 300000) (disch := omega) only [gws, ↓reduceIte, reduceEqDiff, reduceToNat, reduceMul, reduceAdd, Nat.reduceBEq, isLd, over, mtC]
      have nb : ∀ a, D = some a → a.block ≠ b := fun a ha e' => by have := oD a ha; rw [e', put_same] at this; cases this
      exact hK _ _ b D e ((u2.trans u).skip hb) (fun l h1 h2 => by repeat rw [upd_app, if_neg (by omega)]) (by simp (maxSteps := 300000) (disch := omega) only [gws, ↓reduceIte, reduceEqDiff, reduceToNat, reduceMul, reduceAdd, Nat.reduceBEq, isLd]) (put_same _ _ _) (ints_put hI nb)
  · have u2 := Sub.put hb ⟨[.int .i64 0, .int .i64 0, .int .i64 0, .slice none 0 0], true⟩
    obtain ⟨q0, q1, q2, q3, qy⟩ := rds u2
    simp (maxSteps := 300000) (disch := omega) only [gws, ↓reduceIte, reduceEqDiff, reduceToNat, reduceMul, reduceAdd, Nat.reduceBEq, isLd, t1, t7, t8, t9, t10, q0, q1, q2, q3, qy, ej]
    refine D1 u2 ?_
    simp (maxSteps := 300000) (disch := omega) only [gws, ↓reduceIte, reduceEqDiff, reduceToNat, reduceMul, reduceAdd, Nat.reduceBEq, isLd, t1, t7, t8, t9, t10, q0, q1, q2, q3, qy, ej]
    refine D2 u2 ?_
    simp (maxSteps := 300000) (disch := omega) only [gws, ↓reduceIte, reduceEqDiff, reduceToNat, reduceMul, reduceAdd, Nat.reduceBEq, isLd, t1, t7, t8, t9, t10, q0, q1, q2, q3, qy, ej]
    refine PR u2 fun G2 D e u oD hI => ?_
    obtain ⟨q0, q1, q2, q3, qy⟩ := rds (u2.trans u)
    simp (maxSteps := 300000) (disch := omega) only [gws, ↓reduceIte, reduceEqDiff, reduceToNat, reduceMul, reduceAdd, Nat.reduceBEq, isLd, t1, t7, t8, t9, t10, q0, q1, q2, q3, qy, ej]
    refine st_many (vs := mtC (prodM (dirM s k j) (dirM s (faN s k j) i)) D e) rfl (u _ _ (put_same _ _ _)) rfl (by simp [mtC]) (mtC_one _ _ _) ?_
    simp (maxSteps := 300000) (disch := omega) only [gws, ↓reduceIte, reduceEqDiff, reduceToNat, reduceMul, reduceAdd, Nat.reduceBEq, isLd, over, mtC]
    have nb : ∀ a, D = some a → a.block ≠ b := fun a ha e' => by have := oD a ha; rw [e', put_same] at this; cases this
    exact hK _ _ b D e ((u2.trans u).skip hb) (fun l h1 h2 => by repeat rw [upd_app, if_neg (by omega)]) (by simp (maxSteps := 300000) (disch := omega) only [gws, ↓reduceIte, reduceEqDiff, reduceToNat, reduceMul, reduceAdd, Nat.reduceBEq, isLd]) (put_same _ _ _) (ints_put hI nb)
theorem MtP.of {G : GH} {b : Nat} {M : Mt} {A : Option Addr} {k : Nat} (h : G b = some ⟨mtC M A k, true⟩) (hi : IntS G A k M.m) : MtP G (some ⟨b, 0, none⟩) M A k ∧ rd G (some ⟨b, 0, none⟩) = some (.int .i64 M.p) ∧ rd G (some ⟨b, 1, none⟩) = some (.int .i64 M.r) ∧ rd G (some ⟨b, 2, none⟩) = some (.int .i64 M.c) ∧ rd G (some ⟨b, 3, none⟩) = some (.slice A M.m.length k) := by
  have r0 : rd G (some ⟨b, 0, none⟩) = some (.int .i64 M.p) := by simp only [rd, h]; rfl
  have r1 : rd G (some ⟨b, 1, none⟩) = some (.int .i64 M.r) := by simp only [rd, h]; rfl
  have r2 : rd G (some ⟨b, 2, none⟩) = some (.int .i64 M.c) := by simp only [rd, h]; rfl
  have r3 : rd G (some ⟨b, 3, none⟩) = some (.slice A M.m.length k) := by simp only [rd, h]; rfl
  exact ⟨⟨r0, by rw [pa_mk]; exact r1, by rw [pa_mk]; exact r2, by rw [pa_mk]; exact r3, hi⟩, r0, r1, r2, r3⟩
theorem prodM_len (a b : Mt) : (prodM a b).m.length = a.r.toNat * b.c.toNat := by unfold prodM mtF; dsimp only; exact flatL_len _ _ _
theorem ws_l0 {G : GH} {b1 k i y : Nat} {m : ShM} {s : Shf} {S Y : Option Addr} {d : Nat} {T : Nat → Value} {Q : Cont} (t1 : T 1 = .pointer (some ⟨b1, 0, none⟩)) (t6 : T 6 = .slice S (s.base.getD k []).length d) (t7 : T 7 = .int .i64 k) (t8 : T 8 = .slice Y (fcs s.base k).length y) (t9 : T 9 = .int .i64 i) (t10 : T 10 = .int .i64 ((i + 1 : Nat) : Int))
    (h : ShP G (some ⟨b1, 0, none⟩) m s) (hs : ShOk s) (hms : s.ms.length ≤ 2 ^ 20) (hY : IntS G Y y (fcs s.base k)) (hk : k < s.base.length) (h3 : 3 ≤ (s.base.getD k []).length) (hi : i < (s.base.getD k []).length)
    (hbad : ∀ T' G2 x y, Sub G G2 → ¬ SqAll s → T' 2 = .int .i64 x → T' 3 = .int .i64 y → T' 4 = .bool true → Q .ret T' G2)
    (hok : ∀ T' G2, Sub G G2 → (∀ j, i < j → j < (s.base.getD k []).length → SqOk s k i j) → (∀ l, l ≤ 36 → l ≠ 10 → l ≠ 11 → l ≠ 12 → T' l = T l) → Q (.ex 4) T' G2) : gLoop (gW Tryz.prog khg) Q T G := by
  have hw12 := @ws_t12
  have hw13 := @ws_t13
  unfold khg
  generalize khb = D12 at hw12 ⊢
  generalize khc = D13 at hw13 ⊢
  have h4 := (hs.b.s k hk).1.2
  refine gLoop_intro (fun mm T' G' => ∃ j : Nat, (∀ l, l ≤ 36 → l ≠ 10 → l ≠ 11 → l ≠ 12 → T' l = T l) ∧ T' 10 = .int .i64 j ∧ mm + j = (s.base.getD k []).length ∧ i < j ∧ j ≤ (s.base.getD k []).length ∧ Sub G G' ∧ ∀ j', i < j' → j' < j → SqOk s k i j') ((s.base.getD k []).length - (i + 1))
    ⟨i + 1, fun l _ _ _ _ => rfl, t10, by omega, by omega, by omega, Sub.refl _, fun j' h1 h2 => by omega⟩ ?_
  rintro mm T1 G1 ⟨j, hT, e10, hm, hij, hjl, hS, hin⟩
  have e1 : T1 1 = .pointer (some ⟨b1, 0, none⟩) := by rw [hT 1 (by omega) (by omega) (by omega) (by omega)]; exact t1
  have e6 : T1 6 = .slice S (s.base.getD k []).length d := by rw [hT 6 (by omega) (by omega) (by omega) (by omega)]; exact t6
  have e7 : T1 7 = .int .i64 k := by rw [hT 7 (by omega) (by omega) (by omega) (by omega)]; exact t7
  have e8 : T1 8 = .slice Y (fcs s.base k).length y := by rw [hT 8 (by omega) (by omega) (by omega) (by omega)]; exact t8
  have e9 : T1 9 = .int .i64 i := by rw [hT 9 (by omega) (by omega) (by omega) (by omega)]; exact t9
  simp (maxSteps := 300000) (disch := omega) only [gws, ↓reduceIte, reduceEqDiff, reduceToNat, reduceMul, reduceAdd, Nat.reduceBEq, isLd, e6, e10]
  by_cases hj : (j : Int) < (s.base.getD k []).length
  · simp (maxSteps := 300000) (disch := omega) only [gws, ↓reduceIte, reduceEqDiff, reduceToNat, reduceMul, reduceAdd, Nat.reduceBEq, isLd, hj]
    refine hw12 (k := k) (i := i) (j := j) (by simp (maxSteps := 300000) (disch := omega) only [gws, ↓reduceIte, reduceEqDiff, reduceToNat, reduceMul, reduceAdd, Nat.reduceBEq, isLd, e1]) (by simp (maxSteps := 300000) (disch := omega) only [gws, ↓reduceIte, reduceEqDiff, reduceToNat, reduceMul, reduceAdd, Nat.reduceBEq, isLd, e7]) (by simp (maxSteps := 300000) (disch := omega) only [gws, ↓reduceIte, reduceEqDiff, reduceToNat, reduceMul, reduceAdd, Nat.reduceBEq, isLd, e8]) (by simp (maxSteps := 300000) (disch := omega) only [gws, ↓reduceIte, reduceEqDiff, reduceToNat, reduceMul, reduceAdd, Nat.reduceBEq, isLd, e9]) (by simp (maxSteps := 300000) (disch := omega) only [gws, ↓reduceIte, reduceEqDiff, reduceToNat, reduceMul, reduceAdd, Nat.reduceBEq, isLd, e10]) (h.sub hS) hs hms (hY.sub hS) hk h3 hij (by omega) fun T2 G2 b11 D e s2 hT2 u11 g11 hI => ?_
    simp (maxSteps := 300000) (disch := omega) only [gws, ↓reduceIte, reduceEqDiff, reduceToNat, reduceMul, reduceAdd, Nat.reduceBEq, isLd]
    have a1 : T2 1 = .pointer (some ⟨b1, 0, none⟩) := by rw [hT2 1 (by omega) (by omega)]; simp (maxSteps := 300000) (disch := omega) only [gws, ↓reduceIte, reduceEqDiff, reduceToNat, reduceMul, reduceAdd, Nat.reduceBEq, isLd, e1]
    have a7 : T2 7 = .int .i64 k := by rw [hT2 7 (by omega) (by omega)]; simp (maxSteps := 300000) (disch := omega) only [gws, ↓reduceIte, reduceEqDiff, reduceToNat, reduceMul, reduceAdd, Nat.reduceBEq, isLd, e7]
    have a8 : T2 8 = .slice Y (fcs s.base k).length y := by rw [hT2 8 (by omega) (by omega)]; simp (maxSteps := 300000) (disch := omega) only [gws, ↓reduceIte, reduceEqDiff, reduceToNat, reduceMul, reduceAdd, Nat.reduceBEq, isLd, e8]
    have a9 : T2 9 = .int .i64 i := by rw [hT2 9 (by omega) (by omega)]; simp (maxSteps := 300000) (disch := omega) only [gws, ↓reduceIte, reduceEqDiff, reduceToNat, reduceMul, reduceAdd, Nat.reduceBEq, isLd, e9]
    have a10 : T2 10 = .int .i64 j := by rw [hT2 10 (by omega) (by omega)]; simp (maxSteps := 300000) (disch := omega) only [gws, ↓reduceIte, reduceEqDiff, reduceToNat, reduceMul, reduceAdd, Nat.reduceBEq, isLd, e10]
    refine hw13 (k := k) (i := i) (j := j) (by simp (maxSteps := 300000) (disch := omega) only [gws, ↓reduceIte, reduceEqDiff, reduceToNat, reduceMul, reduceAdd, Nat.reduceBEq, isLd, a1]) (by simp (maxSteps := 300000) (disch := omega) only [gws, ↓reduceIte, reduceEqDiff, reduceToNat, reduceMul, reduceAdd, Nat.reduceBEq, isLd, a7]) (by simp (maxSteps := 300000) (disch := omega) only [gws, ↓reduceIte, reduceEqDiff, reduceToNat, reduceMul, reduceAdd, Nat.reduceBEq, isLd, a8]) (by simp (maxSteps := 300000) (disch := omega) only [gws, ↓reduceIte, reduceEqDiff, reduceToNat, reduceMul, reduceAdd, Nat.reduceBEq, isLd, a9]) (by simp (maxSteps := 300000) (disch := omega) only [gws, ↓reduceIte, reduceEqDiff, reduceToNat, reduceMul, reduceAdd, Nat.reduceBEq, isLd, a10]) (h.sub (hS.trans s2)) hs hms (hY.sub (hS.trans s2)) hk h3 hij (by omega) fun T3 G3 b12 D' e' s3 hT3 u12 g12 hI' => ?_
    have u11' : T3 11 = .pointer (some ⟨b11, 0, none⟩) := by rw [hT3 11 (by omega) (by omega)]; exact u11
    have hT' : ∀ l, l ≤ 36 → l ≠ 10 → l ≠ 11 → l ≠ 12 → T3 l = T l := fun l h1 h2 h3 h4 => by
      rw [hT3 l (by omega) h4, hT2 l (by omega) h3]
      repeat rw [upd_app, if_neg (by omega)]
      exact hT l h1 h2 h3 h4
    have w10 : T3 10 = .int .i64 j := by rw [hT3 10 (by omega) (by omega)]; exact a10
    obtain ⟨p1, x0, x1, x2, x3⟩ := MtP.of (s3 _ _ g11) (hI.sub s3)
    obtain ⟨p2, y0, y1, y2, y3⟩ := MtP.of g12 hI'
    have tw := two_of hs hk h3 (i := i) (j := j - 1) (by omega) (by omega)
    simp (maxSteps := 300000) (disch := omega) only [gws, ↓reduceIte, reduceEqDiff, reduceToNat, reduceMul, reduceAdd, Nat.reduceBEq, isLd, u11', u12, x0, x1, x2, x3, y0, y1, y2, y3]
    refine impl_SameMatrix_ok (M := prodM (dirM s k i) (dirM s (faN s k i) (j - 1))) (N := prodM (dirM s k j) (dirM s (faN s k j) i)) p1.m p2.m (by
      rw [prodM_len]
      have h1 := (mt_sz tw.a).1
      have h2 := (mt_sz tw.b).2
      have := Nat.mul_le_mul h1 h2
      omega) fun z hz => ?_
    cases z
    · have hno : ¬ SqAll s := fun x => by have := hz.2 (x k i j hk hij (by omega) h3); cases this
      have v1 : T3 1 = .pointer (some ⟨b1, 0, none⟩) := by rw [hT' 1 (by omega) (by omega) (by omega) (by omega)]; exact t1
      have v7 : T3 7 = .int .i64 k := by rw [hT' 7 (by omega) (by omega) (by omega) (by omega)]; exact t7
      have v8 : T3 8 = .slice Y (fcs s.base k).length y := by rw [hT' 8 (by omega) (by omega) (by omega) (by omega)]; exact t8
      have v9 : T3 9 = .int .i64 i := by rw [hT' 9 (by omega) (by omega) (by omega) (by omega)]; exact t9
      have s13 := (hS.trans s2).trans s3
      obtain ⟨f0, f1, f2, f3⟩ := (h.sub s13).b
      have hl : (fcs s.base k).length = (s.base.getD k []).length := by rw [fcs_len, facs_two, if_pos (by omega)]
      have ry := (hY.sub s13).rd i (by omega)
      rw [tw.fe] at ry
      have hsn := hY.sn
      have ej : (j : Int) - 1 = ((j - 1 : Nat) : Int) := by omega
      simp (maxSteps := 300000) (disch := omega) only [gws, ↓reduceIte, reduceEqDiff, reduceToNat, reduceMul, reduceAdd, Nat.reduceBEq, isLd, v1, v7, v8, v9, w10, f0, ry, ej]
      refine impl_faceIndices_ok (k := faN s k i) (h.sub s13).g.rows hs.b tw.f fun G4 Z z hN => ?_
      have hIz := hN.ints2 rfl
      obtain ⟨f, hf, hfe, hfl, _⟩ := fcs_bd hs.b hk (show i < (fcs s.base k).length by omega)
      have hfn : faN s k i = f := by unfold faN; rw [hfe]; rfl
      have hlf : (fcs s.base (faN s k i)).length = (s.base.getD (faN s k i) []).length := by rw [fcs_len, facs_two, if_pos (by rw [hfn]; omega)]
      have hlf2 : (s.base.getD (faN s k i) []).length + 1 = (s.base.getD k []).length := by rw [hfn]; exact hfl
      have rj := hIz.rd (j - 1) (by omega)
      have hzn := hIz.sn
      simp (maxSteps := 300000) (disch := omega) only [gws, ↓reduceIte, reduceEqDiff, reduceToNat, reduceMul, reduceAdd, Nat.reduceBEq, isLd, rj]
      exact hbad _ _ (k : Int) ((fcs s.base (faN s k i)).getD (j - 1) 0) (s13.trans hN.sub) hno (by simp (maxSteps := 300000) (disch := omega) only [gws, ↓reduceIte, reduceEqDiff, reduceToNat, reduceMul, reduceAdd, Nat.reduceBEq, isLd]) (by simp (maxSteps := 300000) (disch := omega) only [gws, ↓reduceIte, reduceEqDiff, reduceToNat, reduceMul, reduceAdd, Nat.reduceBEq, isLd]) (by simp (maxSteps := 300000) (disch := omega) only [gws, ↓reduceIte, reduceEqDiff, reduceToNat, reduceMul, reduceAdd, Nat.reduceBEq, isLd])
    · simp (maxSteps := 300000) (disch := omega) only [gws, ↓reduceIte, reduceEqDiff, reduceToNat, reduceMul, reduceAdd, Nat.reduceBEq, isLd, w10]
      refine ⟨mm - 1, by omega, G3, Sub.refl _, j + 1, fun l h1 h2 h3 h4 => ?_, rfl, by omega, by omega, by omega, (hS.trans s2).trans s3, fun j' h1 h2 => ?_⟩
      · repeat first | rw [upd_app, if_neg (by omega)] | rw [if_neg (by omega)]
        exact hT' l h1 h2 h3 h4
      · by_cases hjj : j' = j
        · subst hjj; exact hz.1 rfl
        · exact hin j' h1 (by omega)
  · simp (maxSteps := 300000) (disch := omega) only [gws, ↓reduceIte, reduceEqDiff, reduceToNat, reduceMul, reduceAdd, Nat.reduceBEq, isLd, hj]
    refine hok _ _ hS (fun j' h1 h2 => hin j' h1 (by omega)) fun l h1 h2 h3 h4 => ?_
    repeat rw [upd_app, if_neg (by omega)]
    exact hT l h1 h2 h3 h4
theorem impl_wrongSquare_ok {G : GH} {m : ShM} {s : Shf} (h : ShG G m s) (hs : ShOk s) (hms : s.ms.length ≤ 2 ^ 20) {K : Value → GH → Prop}
    (hk : ∀ (x y : Int) (z : Bool), (z = true ↔ ¬ SqAll s) → K (.tuple [.int .i64 x, .int .i64 y, .bool z].toArray) G) : GC Tryz.prog 153 [shV m s] G K := by
  refine GC_drop (kho (by simp) ?_)
  have hxn := hs.b.n
  unfold shV shC
  simp (maxSteps := 300000) (disch := omega) only [gws, ↓reduceIte, reduceEqDiff, reduceToNat, reduceMul, reduceAdd, Nat.reduceBEq, isLd]
  intro b1 hb
  have s1 := Sub.put hb ⟨shC m s, true⟩
  have hP := ShP.box hb h
  unfold shC at s1 hP
  revert s1 hP
  generalize put G b1 ⟨[.slice m.A s.base.length m.c, .int .i64 s.p, .slice m.S s.st.length m.e, .slice m.M s.ms.length m.l], true⟩ = G1
  intro s1 hP
  obtain ⟨f0, f1, f2, f3⟩ := hP.b
  have hsn := hP.g.rows.sn
  simp (maxSteps := 300000) (disch := omega) only [gws, ↓reduceIte, reduceEqDiff, reduceToNat, reduceMul, reduceAdd, Nat.reduceBEq, isLd, f0]
  refine gLoop_intro (fun mm T G' => ∃ k : Nat, T 1 = .pointer (some ⟨b1, 0, none⟩) ∧ T 15 = .slice m.A s.base.length m.c ∧ T 16 = .int .i64 s.base.length ∧ T 17 = .int .i64 k ∧ mm + k = s.base.length ∧ k ≤ s.base.length ∧ G1 = G' ∧ ∀ k', k' < k → ∀ i j, i < j → j < (s.base.getD k' []).length → 3 ≤ (s.base.getD k' []).length → SqOk s k' i j) s.base.length
    ⟨0, by simp (maxSteps := 300000) (disch := omega) only [gws, ↓reduceIte, reduceEqDiff, reduceToNat, reduceMul, reduceAdd, Nat.reduceBEq, isLd], by simp (maxSteps := 300000) (disch := omega) only [gws, ↓reduceIte, reduceEqDiff, reduceToNat, reduceMul, reduceAdd, Nat.reduceBEq, isLd], by simp (maxSteps := 300000) (disch := omega) only [gws, ↓reduceIte, reduceEqDiff, reduceToNat, reduceMul, reduceAdd, Nat.reduceBEq, isLd], by simp (maxSteps := 300000) (disch := omega) only [gws, ↓reduceIte, reduceEqDiff, reduceToNat, reduceMul, reduceAdd, Nat.reduceBEq, isLd] <;> rfl, by omega, by omega, rfl, fun k' h => by omega⟩ ?_
  rintro mm T G' ⟨k, e1, e15, e16, e17, hm, hkl, rfl, hin⟩
  simp (maxSteps := 300000) (disch := omega) only [gws, ↓reduceIte, reduceEqDiff, reduceToNat, reduceMul, reduceAdd, Nat.reduceBEq, isLd, e1, e15, e16, e17]
  by_cases hkk : (k : Int) < s.base.length
  · have h4 := (hs.b.s k (by omega)).1.2
    have r := hP.g.rows.r k (by omega)
    simp (maxSteps := 300000) (disch := omega) only [gws, ↓reduceIte, reduceEqDiff, reduceToNat, reduceMul, reduceAdd, Nat.reduceBEq, isLd, e1, e15, e16, e17, hkk, r]
    by_cases h3 : ((s.base.getD k []).length : Int) < 3
    · simp (maxSteps := 300000) (disch := omega) only [gws, ↓reduceIte, reduceEqDiff, reduceToNat, reduceMul, reduceAdd, Nat.reduceBEq, isLd, h3, e1, e15, e16, e17]
      exact ⟨mm - 1, by omega, _, Sub.refl _, k + 1, rfl, by omega, by omega, rfl, fun k' hk' i j h1 h2 h5 => by
        by_cases e : k' = k
        · subst e; omega
        · exact hin k' (by omega) i j h1 h2 h5⟩
    · simp (maxSteps := 300000) (disch := omega) only [gws, ↓reduceIte, reduceEqDiff, reduceToNat, reduceMul, reduceAdd, Nat.reduceBEq, isLd, h3, e1, e15, e16, e17, f0]
      refine impl_faceIndices_ok (k := k) hP.g.rows hs.b (by omega) fun G2 Y y hN => ?_
      have hI := hN.ints2 rfl
      have hP2 := hP.sub hN.sub
      have s2 := hN.sub
      clear hN
      simp (maxSteps := 300000) (disch := omega) only [gws, ↓reduceIte, reduceEqDiff, reduceToNat, reduceMul, reduceAdd, Nat.reduceBEq, isLd, e1, e15, e16, e17]
      refine gLoop_intro (fun m' T G' => ∃ i : Nat, T 1 = .pointer (some ⟨b1, 0, none⟩) ∧ T 6 = .slice (m.hs k).1 (s.base.getD k []).length (m.hs k).2 ∧ T 7 = .int .i64 k ∧ T 8 = .slice Y (fcs s.base k).length y ∧ T 15 = .slice m.A s.base.length m.c ∧ T 16 = .int .i64 s.base.length ∧ T 17 = .int .i64 k ∧ T 31 = .int .i64 (s.base.getD k []).length ∧ T 32 = .int .i64 i ∧ m' + i = (s.base.getD k []).length ∧ i ≤ (s.base.getD k []).length ∧ G2 = G' ∧ ∀ i', i' < i → ∀ j, i' < j → j < (s.base.getD k []).length → SqOk s k i' j) (s.base.getD k []).length
        ⟨0, by simp (maxSteps := 300000) (disch := omega) only [gws, ↓reduceIte, reduceEqDiff, reduceToNat, reduceMul, reduceAdd, Nat.reduceBEq, isLd, e1], by simp (maxSteps := 300000) (disch := omega) only [gws, ↓reduceIte, reduceEqDiff, reduceToNat, reduceMul, reduceAdd, Nat.reduceBEq, isLd], by simp (maxSteps := 300000) (disch := omega) only [gws, ↓reduceIte, reduceEqDiff, reduceToNat, reduceMul, reduceAdd, Nat.reduceBEq, isLd], by simp (maxSteps := 300000) (disch := omega) only [gws, ↓reduceIte, reduceEqDiff, reduceToNat, reduceMul, reduceAdd, Nat.reduceBEq, isLd], by simp (maxSteps := 300000) (disch := omega) only [gws, ↓reduceIte, reduceEqDiff, reduceToNat, reduceMul, reduceAdd, Nat.reduceBEq, isLd, e15], by simp (maxSteps := 300000) (disch := omega) only [gws, ↓reduceIte, reduceEqDiff, reduceToNat, reduceMul, reduceAdd, Nat.reduceBEq, isLd, e16], by simp (maxSteps := 300000) (disch := omega) only [gws, ↓reduceIte, reduceEqDiff, reduceToNat, reduceMul, reduceAdd, Nat.reduceBEq, isLd, e17], by simp (maxSteps := 300000) (disch := omega) only [gws, ↓reduceIte, reduceEqDiff, reduceToNat, reduceMul, reduceAdd, Nat.reduceBEq, isLd], by simp (maxSteps := 300000) (disch := omega) only [gws, ↓reduceIte, reduceEqDiff, reduceToNat, reduceMul, reduceAdd, Nat.reduceBEq, isLd] <;> rfl, by omega, by omega, rfl, fun i' h => by omega⟩ ?_
      clear e1 e15 e16 e17
      rintro m' T G' ⟨i, e1, e6, e7, e8, e15, e16, e17, e31, e32, hm', hil, rfl, hin2⟩
      simp (maxSteps := 300000) (disch := omega) only [gws, ↓reduceIte, reduceEqDiff, reduceToNat, reduceMul, reduceAdd, Nat.reduceBEq, isLd, e1, e6, e7, e8, e15, e16, e17, e31, e32]
      by_cases hi : (i : Int) < (s.base.getD k []).length
      · simp (maxSteps := 300000) (disch := omega) only [gws, ↓reduceIte, reduceEqDiff, reduceToNat, reduceMul, reduceAdd, Nat.reduceBEq, isLd, e1, e6, e7, e8, e15, e16, e17, e31, e32, hi]
        refine ws_l0 (k := k) (i := i) (S := (m.hs k).1) (d := (m.hs k).2) (by simp (maxSteps := 300000) (disch := omega) only [gws, ↓reduceIte, reduceEqDiff, reduceToNat, reduceMul, reduceAdd, Nat.reduceBEq, isLd, e1]) (by simp (maxSteps := 300000) (disch := omega) only [gws, ↓reduceIte, reduceEqDiff, reduceToNat, reduceMul, reduceAdd, Nat.reduceBEq, isLd, e6]) (by simp (maxSteps := 300000) (disch := omega) only [gws, ↓reduceIte, reduceEqDiff, reduceToNat, reduceMul, reduceAdd, Nat.reduceBEq, isLd, e7]) (by simp (maxSteps := 300000) (disch := omega) only [gws, ↓reduceIte, reduceEqDiff, reduceToNat, reduceMul, reduceAdd, Nat.reduceBEq, isLd, e8]) (by simp (maxSteps := 300000) (disch := omega) only [gws, ↓reduceIte, reduceEqDiff, reduceToNat, reduceMul, reduceAdd, Nat.reduceBEq, isLd]) (by simp (maxSteps := 300000) (disch := omega) only [gws, ↓reduceIte, reduceEqDiff, reduceToNat, reduceMul, reduceAdd, Nat.reduceBEq, isLd] <;> push_cast <;> rfl) hP2 hs hms hI (by omega) (by omega) (by omega) (fun T' G3 x y s3 hno u2 u3 u4 => ?_) (fun T' G3 s3 hall hT => ?_)
        · simp (maxSteps := 300000) (disch := omega) only [gws, ↓reduceIte, reduceEqDiff, reduceToNat, reduceMul, reduceAdd, Nat.reduceBEq, isLd, u2, u3, u4]
          exact ⟨G, (s1.trans s2).trans s3, hk x y true ⟨fun _ => hno, fun _ => rfl⟩⟩
        · have a1 : T' 1 = .pointer (some ⟨b1, 0, none⟩) := by rw [hT 1 (by omega) (by omega) (by omega) (by omega)]; simp (maxSteps := 300000) (disch := omega) only [gws, ↓reduceIte, reduceEqDiff, reduceToNat, reduceMul, reduceAdd, Nat.reduceBEq, isLd, e1]
          have a6 : T' 6 = .slice (m.hs k).1 (s.base.getD k []).length (m.hs k).2 := by rw [hT 6 (by omega) (by omega) (by omega) (by omega)]; simp (maxSteps := 300000) (disch := omega) only [gws, ↓reduceIte, reduceEqDiff, reduceToNat, reduceMul, reduceAdd, Nat.reduceBEq, isLd, e6]
          have a7 : T' 7 = .int .i64 k := by rw [hT 7 (by omega) (by omega) (by omega) (by omega)]; simp (maxSteps := 300000) (disch := omega) only [gws, ↓reduceIte, reduceEqDiff, reduceToNat, reduceMul, reduceAdd, Nat.reduceBEq, isLd, e7]
          have a8 : T' 8 = .slice Y (fcs s.base k).length y := by rw [hT 8 (by omega) (by omega) (by omega) (by omega)]; simp (maxSteps := 300000) (disch := omega) only [gws, ↓reduceIte, reduceEqDiff, reduceToNat, reduceMul, reduceAdd, Nat.reduceBEq, isLd, e8]
          have a15 : T' 15 = .slice m.A s.base.length m.c := by rw [hT 15 (by omega) (by omega) (by omega) (by omega)]; simp (maxSteps := 300000) (disch := omega) only [gws, ↓reduceIte, reduceEqDiff, reduceToNat, reduceMul, reduceAdd, Nat.reduceBEq, isLd, e15]
          have a16 : T' 16 = .int .i64 s.base.length := by rw [hT 16 (by omega) (by omega) (by omega) (by omega)]; simp (maxSteps := 300000) (disch := omega) only [gws, ↓reduceIte, reduceEqDiff, reduceToNat, reduceMul, reduceAdd, Nat.reduceBEq, isLd, e16]
          have a17 : T' 17 = .int .i64 k := by rw [hT 17 (by omega) (by omega) (by omega) (by omega)]; simp (maxSteps := 300000) (disch := omega) only [gws, ↓reduceIte, reduceEqDiff, reduceToNat, reduceMul, reduceAdd, Nat.reduceBEq, isLd, e17]
          have a31 : T' 31 = .int .i64 (s.base.getD k []).length := by rw [hT 31 (by omega) (by omega) (by omega) (by omega)]; simp (maxSteps := 300000) (disch := omega) only [gws, ↓reduceIte, reduceEqDiff, reduceToNat, reduceMul, reduceAdd, Nat.reduceBEq, isLd, e31]
          have a32 : T' 32 = .int .i64 i := by rw [hT 32 (by omega) (by omega) (by omega) (by omega)]; simp (maxSteps := 300000) (disch := omega) only [gws, ↓reduceIte, reduceEqDiff, reduceToNat, reduceMul, reduceAdd, Nat.reduceBEq, isLd, e32]
          simp (maxSteps := 300000) (disch := omega) only [gws, ↓reduceIte, reduceEqDiff, reduceToNat, reduceMul, reduceAdd, Nat.reduceBEq, isLd, a1, a6, a7, a8, a15, a16, a17, a31, a32]
          exact ⟨m' - 1, by omega, _, s3, i + 1, rfl, by omega, by omega, rfl, fun i' hi' j h1 h2 => by
            by_cases e : i' = i
            · subst e; exact hall j h1 h2
            · exact hin2 i' (by omega) j h1 h2⟩
      · simp (maxSteps := 300000) (disch := omega) only [gws, ↓reduceIte, reduceEqDiff, reduceToNat, reduceMul, reduceAdd, Nat.reduceBEq, isLd, e1, e6, e7, e8, e15, e16, e17, e31, e32, hi]
        exact ⟨mm - 1, by omega, _, s2, k + 1, rfl, by omega, by omega, rfl, fun k' hk' i' j h1 h2 h5 => by
          by_cases e : k' = k
          · subst e; exact hin2 i' (by omega) j h1 h2
          · exact hin k' (by omega) i' j h1 h2 h5⟩
  · simp (maxSteps := 300000) (disch := omega) only [gws, ↓reduceIte, reduceEqDiff, reduceToNat, reduceMul, reduceAdd, Nat.reduceBEq, isLd, e1, e15, e16, e17, hkk]
    refine ⟨G, s1, hk _ _ false ⟨fun x => (by cases x), fun x => absurd (fun k i j h1 h2 h3 h5 => hin k (by omega) i j h2 h3 h5) x⟩⟩
theorem impl_IsSheaf_ok {G : GH} {m : ShM} {s : Shf} (h : ShG G m s) (hsm : ShSm s) {K : Value → GH → Prop} (hk : ∀ z : Bool, (z = true ↔ ShOk s ∧ SqAll s) → K (.bool z) G) : GC Tryz.prog 98 [shV m s] G K := by
  refine GC_drop (k1s (by simp) ?_)
  unfold shV shC
  simp (maxSteps := 300000) (disch := omega) only [gws, ↓reduceIte, reduceEqDiff, reduceToNat, reduceMul, reduceAdd, Nat.reduceBEq, isLd]
  intro b1 hb
  have s1 := Sub.put hb ⟨shC m s, true⟩
  have hP := ShP.box hb h
  unfold shC at s1 hP
  revert s1 hP
  generalize put G b1 ⟨[.slice m.A s.base.length m.c, .int .i64 s.p, .slice m.S s.st.length m.e, .slice m.M s.ms.length m.l], true⟩ = G1
  intro s1 hP
  obtain ⟨f0, f1, f2, f3⟩ := hP.b
  simp (maxSteps := 300000) (disch := omega) only [gws, ↓reduceIte, reduceEqDiff, reduceToNat, reduceMul, reduceAdd, Nat.reduceBEq, isLd, f0, f1, f2, f3]
  refine impl_ValidSheaf_ok (m := m) (s := s) hP.g hsm fun z hz => ?_
  cases z
  · simp (maxSteps := 300000) (disch := omega) only [gws, ↓reduceIte, reduceEqDiff, reduceToNat, reduceMul, reduceAdd, Nat.reduceBEq, isLd]
    exact ⟨G, s1, hk false ⟨fun x => (by cases x), fun x => by have := hz.2 x.1; cases this⟩⟩
  · have hs := hz.1 rfl
    simp (maxSteps := 300000) (disch := omega) only [gws, ↓reduceIte, reduceEqDiff, reduceToNat, reduceMul, reduceAdd, Nat.reduceBEq, isLd, f0, f1, f2, f3]
    refine impl_wrongSquare_ok (m := m) (s := s) hP.g hs hsm.ms fun x y z hz2 => ?_
    cases z
    · simp (maxSteps := 300000) (disch := omega) only [gws, ↓reduceIte, reduceEqDiff, reduceToNat, reduceMul, reduceAdd, Nat.reduceBEq, isLd]
      exact ⟨G, s1, hk true ⟨fun _ => ⟨hs, Classical.byContradiction fun hno => by have := hz2.2 hno; cases this⟩, fun _ => rfl⟩⟩
    · simp (maxSteps := 300000) (disch := omega) only [gws, ↓reduceIte, reduceEqDiff, reduceToNat, reduceMul, reduceAdd, Nat.reduceBEq, isLd]
      exact ⟨G, s1, hk false ⟨fun x => (by cases x), fun x => absurd x.2 (hz2.1 rfl)⟩⟩
theorem l9t_r4 {G2 : GH} {q : Option Addr} {m : ShM} {s : Shf} {k i jj b8 : Nat} {T : Nat → Value} {Q : (Nat → Value) → GH → Prop} (t0 : T 0 = .pointer q) (t1 : T 1 = .int .i64 k) (t2 : T 2 = .int .i64 i) (t3 : T 3 = .int .i64 jj) (t8 : T 8 = .pointer (some ⟨b8, 0, none⟩)) (t9 : T 9 = .int .i64 (faN s k i : Nat))
    (hP : ShP G2 q m s) (hs : ShOk s) (hms : s.ms.length ≤ 2 ^ 20) (tw : Two s k i jj) (hk0 : k < s.base.length) (hsm : i ≤ 1000 ∧ jj ≤ 1000) (g8 : G2 b8 = some ⟨[.int .i64 0, .int .i64 0, .int .i64 0, .slice none 0 0], true⟩)
    (hQ : ∀ (T' : Nat → Value) (G3 : GH) (D : Option Addr) (e : Nat), Sub (del G2 b8) G3 → T' 8 = .pointer (some ⟨b8, 0, none⟩) → G3 b8 = some ⟨mtC (prodM (dirM s k i) (dirM s (faN s k i) jj)) D e, true⟩ → IntS G3 D e (prodM (dirM s k i) (dirM s (faN s k i) jj)).m → Q T' G3) : gO Tryz.prog k154 Q T G2 := by
  have hq := rd_some hP.f0
  simp (maxSteps := 300000) (disch := omega) only [gws, ↓reduceIte, reduceEqDiff, reduceToNat, reduceMul, reduceAdd, Nat.reduceBEq, isLd, t0, t1, t2, t3, t8, t9]
  refine spec_l09Get_ok (k := k) (i := i) hP hs.b (by omega) tw.ki hms (by omega) ?_
  simp (maxSteps := 300000) (disch := omega) only [gws, ↓reduceIte, reduceEqDiff, reduceToNat, reduceMul, reduceAdd, Nat.reduceBEq, isLd, t0, t1, t2, t3, t8, t9]
  refine spec_l09Get_ok (k := faN s k i) (i := jj) hP hs.b (by have := tw.f; omega) tw.fj hms (by omega) ?_
  simp (maxSteps := 300000) (disch := omega) only [gws, ↓reduceIte, reduceEqDiff, reduceToNat, reduceMul, reduceAdd, Nat.reduceBEq, isLd, t0, t1, t2, t3, t8, t9]
  refine spec_l03TimesM_ok tw.a tw.b tw.d (hP.g.ms.at' tw.ki) (hP.g.ms.at' tw.fj) fun G3 D e s3 oD hI3 => ?_
  simp (maxSteps := 300000) (disch := omega) only [gws, ↓reduceIte, reduceEqDiff, reduceToNat, reduceMul, reduceAdd, Nat.reduceBEq, isLd, t8]
  refine st_many (vs := mtC (prodM (dirM s k i) (dirM s (faN s k i) jj)) D e) rfl (s3 _ _ g8) rfl (by simp [mtC]) (mtC_one _ _ _) ?_
  simp (maxSteps := 300000) (disch := omega) only [gws, ↓reduceIte, reduceEqDiff, reduceToNat, reduceMul, reduceAdd, Nat.reduceBEq, isLd, over, mtC, t8]
  have nb : ∀ a, D = some a → a.block ≠ b8 := fun a ha e' => by have := oD a ha; rw [e', g8] at this; cases this
  refine hQ _ _ D e (fun x f hx => ?_) (by simp (maxSteps := 300000) (disch := omega) only [gws, ↓reduceIte, reduceEqDiff, reduceToNat, reduceMul, reduceAdd, Nat.reduceBEq, isLd, t8]) (put_same _ _ _) (ints_put hI3 nb)
  have hne : x ≠ b8 := fun e' => by rw [e', del_none] at hx; cases hx
  rw [put_ne _ _ hne]
  rw [del_ne _ hne] at hx
  exact s3 _ _ hx

end Go.Proofs.YtdnipjkpfpahmaaGreat.Gh
