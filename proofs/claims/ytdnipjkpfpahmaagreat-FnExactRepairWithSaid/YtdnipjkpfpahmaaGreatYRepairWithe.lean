/- What the functions that the law RepairWith reaches return, and the law; it stands under no condition. -/
import Derived.Test.YtdnipjkpfpahmaaGreatYRepairWithd
namespace Go.Proofs.YtdnipjkpfpahmaaGreat.Gh
open Go Go.RowKit Go.Proofs
open Nat (reduceEqDiff reduceMul reduceAdd)
open Int (reduceToNat)
set_option linter.unusedVariables false
set_option linter.unusedSimpArgs false
set_option maxHeartbeats 4000000

theorem red_l4 {G : GH} {bm b5 bc R w cc t k : Nat} {p : Int} {h : Int → Int → Int} {T : Nat → Value} {Q : Cont} (hG : RdG G bm b5 bc R w cc) (hF : Fl G bc R w h) (hR : R ≤ 2 ^ 10) (hw : w ≤ 2 ^ 10) (ht : t < R) (hk : k < w) (hr : Rng h p) (hp : 1 < p ∧ p ≤ 2 ^ 30)
    (x0 : T 0 = .pointer (some ⟨bm, 0, none⟩)) (x5 : T 5 = .pointer (some ⟨b5, 0, none⟩)) (x6 : T 6 = .int .i64 p) (x7 : T 7 = .int .i64 w) (x10 : T 10 = .int .i64 t) (x11 : T 11 = .int .i64 k) (x18 : T 18 = .int .i64 0)
    (hQ : ∀ T' G', Sam 18 T' T → Fl G' bc R w (clr h t k p) → Keep bc G G' → Q (.ex 8) T' G') : gLoop (gW Tryz.prog kyj) Q T G := by
  refine gLoop_intro (fun m T' G' => ∃ i : Nat, Sam 18 T' T ∧ T' 18 = .int .i64 i ∧ m + i = R ∧ i ≤ R ∧ Keep bc G G' ∧ Fl G' bc R w (fun a b => if a < i then clr h t k p a b else h a b)) R ⟨0, Sam.refl _ _, x18, by omega, by omega, Keep.refl _ _, hF.cong fun a b _ _ => by rw [if_neg (by omega)]⟩ ?_
  rintro m T' G' ⟨i, hS, y18, hm, hi, hK, hF'⟩
  have y0 := (hS 0 (by omega)).trans x0
  have y5 := (hS 5 (by omega)).trans x5
  have y6 := (hS 6 (by omega)).trans x6
  have y7 := (hS 7 (by omega)).trans x7
  have y10 := (hS 10 (by omega)).trans x10
  have y11 := (hS 11 (by omega)).trans x11
  have hG' := hG.keep hK
  have m1 := hG'.m1
  have c3 := hG'.c3
  simp (maxSteps := 300000) (disch := omega) only [gws, ↓reduceIte, reduceEqDiff, reduceToNat, reduceMul, reduceAdd, Nat.reduceBEq, isLd, y0, y5, y6, y7, y10, y11, y18, m1]
  by_cases hii : (i : Int) < R
  · have hbi := iw_bd (i := i) (w := w) (by omega) hw
    have w1 := w64 ((i : Int) * w) (by omega) (by omega)
    have w2 := w64 ((i : Int) * w + k) (by omega) (by omega)
    have ri := hF'.rd (i := i) (j := k) (by omega) hk
    rw [if_neg (by omega)] at ri
    have h1 := flat_lt (R := R) (w := w) (i := i) (j := k) (by omega) hk
    have h2 := flat_nn i k w
    have hclt : ∀ b, clr h t k p t b = h t b := fun b => by unfold clr; rw [if_pos rfl]
    simp (maxSteps := 300000) (disch := omega) only [gws, ↓reduceIte, reduceEqDiff, reduceToNat, reduceMul, reduceAdd, Nat.reduceBEq, isLd, y0, y5, y6, y7, y10, y11, y18, m1, hii, c3, w1, w2, ri]
    by_cases hit : (i : Int) = t
    · simp (maxSteps := 300000) (disch := omega) only [gws, ↓reduceIte, reduceEqDiff, reduceToNat, reduceMul, reduceAdd, Nat.reduceBEq, isLd, eq_true hit, y0, y5, y6, y7, y10, y11, y18]
      refine ⟨m - 1, by omega, G', Sub.refl _, i + 1, ?_, rfl, by omega, by omega, hK, hF'.cong fun a b ha hb => ?_⟩
      · repeat (first | exact hS | refine Sam.upd ?_ _ (by omega))
      · by_cases e : a = i
        · rw [if_neg (by omega), if_pos (by omega), show (a : Int) = t by omega, hclt]
        · by_cases e2 : a < i
          · rw [if_pos (by omega), if_pos (by omega)]
          · rw [if_neg (by omega), if_neg (by omega)]
    · simp (maxSteps := 300000) (disch := omega) only [gws, ↓reduceIte, reduceEqDiff, reduceToNat, reduceMul, reduceAdd, Nat.reduceBEq, isLd, eq_false hit, y0, y5, y6, y7, y10, y11, y18]
      by_cases hz : h i k = 0
      · simp (maxSteps := 300000) (disch := omega) only [gws, ↓reduceIte, reduceEqDiff, reduceToNat, reduceMul, reduceAdd, Nat.reduceBEq, isLd, eq_true hz, y0, y5, y6, y7, y10, y11, y18]
        refine ⟨m - 1, by omega, G', Sub.refl _, i + 1, ?_, rfl, by omega, by omega, hK, hF'.cong fun a b ha hb => ?_⟩
        · repeat (first | exact hS | refine Sam.upd ?_ _ (by omega))
        · by_cases e : a = i
          · subst e
            rw [if_neg (by omega), if_pos (by omega)]
            unfold clr
            rw [if_neg hit, hz, clr_zero _ (hr a b)]
          · by_cases e2 : a < i
            · rw [if_pos (by omega), if_pos (by omega)]
            · rw [if_neg (by omega), if_neg (by omega)]
      · simp (maxSteps := 300000) (disch := omega) only [gws, ↓reduceIte, reduceEqDiff, reduceToNat, reduceMul, reduceAdd, Nat.reduceBEq, isLd, eq_false hz, y0, y5, y6, y7, y10, y11, y18]
        refine red_l3 (f := fun a b => if a < i then clr h t k p a b else h a b) (i := i) (c := h i k) hG' hF' hR hw ht (by omega) (by omega) (fun a b => ?_) hp (hr i k) (by simp (maxSteps := 300000) (disch := omega) only [gws, ↓reduceIte, reduceEqDiff, reduceToNat, reduceMul, reduceAdd, Nat.reduceBEq, isLd, y5]) (by simp (maxSteps := 300000) (disch := omega) only [gws, ↓reduceIte, reduceEqDiff, reduceToNat, reduceMul, reduceAdd, Nat.reduceBEq, isLd, y6]) (by simp (maxSteps := 300000) (disch := omega) only [gws, ↓reduceIte, reduceEqDiff, reduceToNat, reduceMul, reduceAdd, Nat.reduceBEq, isLd, y7]) (by simp (maxSteps := 300000) (disch := omega) only [gws, ↓reduceIte, reduceEqDiff, reduceToNat, reduceMul, reduceAdd, Nat.reduceBEq, isLd, y10]) (by simp (maxSteps := 300000) (disch := omega) only [gws, ↓reduceIte, reduceEqDiff, reduceToNat, reduceMul, reduceAdd, Nat.reduceBEq, isLd, y18]) (by simp (maxSteps := 300000) (disch := omega) only [gws, ↓reduceIte, reduceEqDiff, reduceToNat, reduceMul, reduceAdd, Nat.reduceBEq, isLd]) (by simp (maxSteps := 300000) (disch := omega) only [gws, ↓reduceIte, reduceEqDiff, reduceToNat, reduceMul, reduceAdd, Nat.reduceBEq, isLd] <;> rfl) fun T2 G2 hS2 hF2 hK2 => ?_
        · dsimp only
          split
          · exact hr.clr (by omega) _ _ a b
          · exact hr a b
        have z18 : T2 18 = .int .i64 i := (hS2 18 (by omega)).trans (by simp (maxSteps := 300000) (disch := omega) only [gws, ↓reduceIte, reduceEqDiff, reduceToNat, reduceMul, reduceAdd, Nat.reduceBEq, isLd, y18])
        simp (maxSteps := 300000) (disch := omega) only [gws, ↓reduceIte, reduceEqDiff, reduceToNat, reduceMul, reduceAdd, Nat.reduceBEq, isLd, z18]
        refine ⟨m - 1, by omega, G2, Sub.refl _, i + 1, ?_, rfl, by omega, by omega, hK.trans hK2, hF2.cong fun a b ha hb => ?_⟩
        · refine Sam.upd (Sam.upd (Sam.upd ((hS2.le (by omega)).trans ?_) _ (by omega)) _ (by omega)) _ (by omega)
          repeat (first | exact hS | refine Sam.upd ?_ _ (by omega))
        · by_cases e : a = i
          · subst e
            rw [if_pos rfl, if_neg (show ¬ (a : Int) < (a : Int) by omega), if_pos (show (a : Int) < ((a + 1 : Nat) : Int) by omega)]
            have e3 : (if (t : Int) < (a : Int) then clr h t k p t b else h t b) = h t b := by rw [hclt, ite_self]
            rw [e3, clr_sub]
            unfold clr
            rw [if_neg hit]
          · rw [if_neg (show ¬ (a : Int) = i by omega)]
            by_cases e2 : a < i
            · rw [if_pos (show (a : Int) < (i : Int) by omega), if_pos (show (a : Int) < ((i + 1 : Nat) : Int) by omega)]
            · rw [if_neg (show ¬ (a : Int) < (i : Int) by omega), if_neg (show ¬ (a : Int) < ((i + 1 : Nat) : Int) by omega)]
  · simp (maxSteps := 300000) (disch := omega) only [gws, ↓reduceIte, reduceEqDiff, reduceToNat, reduceMul, reduceAdd, Nat.reduceBEq, isLd, y0, y5, y6, y7, y10, y11, y18, m1, hii]
    refine hQ _ G' ?_ (hF'.cong fun a b ha hb => if_pos (by omega)) hK
    repeat (first | exact hS | refine Sam.upd ?_ _ (by omega))
abbrev reSwap : GCode := .seq (.reg kxs) (.cond (tt 90) (.seq (.reg kxt) (.seq (.reg kxu) (.blk 4 (.loop ky0)))) .skip)
abbrev reTail : GCode := .seq (.reg ky1) (.seq (.reg ky2) (.seq (.reg ky3) (.seq (.seq (.reg ky4) (.blk 6 (.loop ky8))) (.seq (.seq (.reg ky9) (.blk 8 (.loop kyj))) (.seq (.reg kyk) (.reg kyl))))))
theorem red_sw {G : GH} {bm b5 bc R w cc t i k : Nat} {p d : Int} {f : Int → Int → Int} {T : Nat → Value} {Q : Cont} {X : GCode} (hG : RdG G bm b5 bc R w cc) (hF : Fl G bc R w f) (hR : R ≤ 2 ^ 10) (hw : w ≤ 2 ^ 10) (ht : t < R) (hi : i < R) (hp : 1 < p ∧ p ≤ 2 ^ 30) (hd : 0 ≤ d ∧ d ≤ p)
    (x5 : T 5 = .pointer (some ⟨b5, 0, none⟩)) (x6 : T 6 = .int .i64 p) (x7 : T 7 = .int .i64 w) (x9 : T 9 = .int .i64 d) (x10 : T 10 = .int .i64 t) (x11 : T 11 = .int .i64 k) (x12 : T 12 = .int .i64 i)
    (hX : ∀ T' G' d', 0 ≤ d' → d' ≤ p → Sam 9 T' T → T' 9 = .int .i64 d' → T' 10 = .int .i64 t → T' 11 = .int .i64 k → Fl G' bc R w (swp f t i) → Keep bc G G' → gW Tryz.prog X Q T' G') : gW Tryz.prog (.seq reSwap X) Q T G := by
  simp (maxSteps := 300000) (disch := omega) only [gws, ↓reduceIte, reduceEqDiff, reduceToNat, reduceMul, reduceAdd, Nat.reduceBEq, isLd, x10, x12]
  by_cases hit : (i : Int) = t
  · simp (maxSteps := 300000) (disch := omega) only [gws, ↓reduceIte, reduceEqDiff, reduceToNat, reduceMul, reduceAdd, Nat.reduceBEq, isLd, eq_true hit]
    refine hX _ G d hd.1 hd.2 ?_ (by simp (maxSteps := 300000) (disch := omega) only [gws, ↓reduceIte, reduceEqDiff, reduceToNat, reduceMul, reduceAdd, Nat.reduceBEq, isLd, x9]) (by simp (maxSteps := 300000) (disch := omega) only [gws, ↓reduceIte, reduceEqDiff, reduceToNat, reduceMul, reduceAdd, Nat.reduceBEq, isLd, x10]) (by simp (maxSteps := 300000) (disch := omega) only [gws, ↓reduceIte, reduceEqDiff, reduceToNat, reduceMul, reduceAdd, Nat.reduceBEq, isLd, x11]) (hF.cong fun a b _ _ => ?_) (Keep.refl _ _)
    · repeat (first | exact Sam.refl _ _ | refine Sam.upd ?_ _ (by omega))
    · rw [hit]; rw [swp_self]
  · have w1 := w64 (p - d) (by omega) (by omega)
    simp (maxSteps := 300000) (disch := omega) only [gws, ↓reduceIte, reduceEqDiff, reduceToNat, reduceMul, reduceAdd, Nat.reduceBEq, isLd, eq_false hit, x6, x9, w1]
    refine red_l1 hG hF hR hw ht hi (by omega) (by simp (maxSteps := 300000) (disch := omega) only [gws, ↓reduceIte, reduceEqDiff, reduceToNat, reduceMul, reduceAdd, Nat.reduceBEq, isLd, x5]) (by simp (maxSteps := 300000) (disch := omega) only [gws, ↓reduceIte, reduceEqDiff, reduceToNat, reduceMul, reduceAdd, Nat.reduceBEq, isLd, x7]) (by simp (maxSteps := 300000) (disch := omega) only [gws, ↓reduceIte, reduceEqDiff, reduceToNat, reduceMul, reduceAdd, Nat.reduceBEq, isLd, x10]) (by simp (maxSteps := 300000) (disch := omega) only [gws, ↓reduceIte, reduceEqDiff, reduceToNat, reduceMul, reduceAdd, Nat.reduceBEq, isLd, x12]) (by simp (maxSteps := 300000) (disch := omega) only [gws, ↓reduceIte, reduceEqDiff, reduceToNat, reduceMul, reduceAdd, Nat.reduceBEq, isLd] <;> rfl) fun T' G' hS hF' hK => ?_
    have z9 : T' 9 = .int .i64 (p - d) := (hS 9 (by omega)).trans (by simp (maxSteps := 300000) (disch := omega) only [gws, ↓reduceIte, reduceEqDiff, reduceToNat, reduceMul, reduceAdd, Nat.reduceBEq, isLd])
    have z10 : T' 10 = .int .i64 t := (hS 10 (by omega)).trans (by simp (maxSteps := 300000) (disch := omega) only [gws, ↓reduceIte, reduceEqDiff, reduceToNat, reduceMul, reduceAdd, Nat.reduceBEq, isLd, x10])
    have z11 : T' 11 = .int .i64 k := (hS 11 (by omega)).trans (by simp (maxSteps := 300000) (disch := omega) only [gws, ↓reduceIte, reduceEqDiff, reduceToNat, reduceMul, reduceAdd, Nat.reduceBEq, isLd, x11])
    simp (maxSteps := 300000) (disch := omega) only [gws, ↓reduceIte, reduceEqDiff, reduceToNat, reduceMul, reduceAdd, Nat.reduceBEq, isLd]
    refine hX T' G' (p - d) (by omega) (by omega) ?_ z9 z10 z11 hF' hK
    intro u hu
    rw [hS u (by omega)]
    unfold upd
    repeat rw [if_neg (by omega)]
theorem red_tail {H G : GH} {bm b5 bc R w cc t k cq : Nat} {p d : Int} {g : Int → Int → Int} {P : Option Addr} {piv : List Int} {T : Nat → Value} {Q : Cont} (hH : RdG H bm b5 bc R w cc) (nb : H bc = none) (s : Sub H G) (hF : Fl G bc R w g) (hO : Own G P cq (piv.map I64) 1 piv.length) (oP : Off H P) (hne : ∀ a, P = some a → a.block ≠ bc) (hpl : piv.length ≤ 2 ^ 10)
    (hR : R ≤ 2 ^ 10) (hw : w ≤ 2 ^ 10) (ht : t < R) (hk : k < w) (hr : Rng g p) (hp : 1 < p ∧ p ≤ 251) (hd : 0 ≤ d ∧ d ≤ p)
    (x0 : T 0 = .pointer (some ⟨bm, 0, none⟩)) (x5 : T 5 = .pointer (some ⟨b5, 0, none⟩)) (x6 : T 6 = .int .i64 p) (x7 : T 7 = .int .i64 w) (x8 : T 8 = .slice P piv.length cq) (x9 : T 9 = .int .i64 d) (x10 : T 10 = .int .i64 t) (x11 : T 11 = .int .i64 k)
    (hQ : ∀ T' G' P' cq' d', 0 ≤ d' → d' ≤ p → Sam 8 T' T → T' 8 = .slice P' (piv.length + 1) cq' → T' 9 = .int .i64 d' → T' 10 = .int .i64 ((t + 1 : Nat) : Int) → T' 11 = .int .i64 k → Sub H G' → Fl G' bc R w (clr (scl g t (invF (g t k) p) p) t k p) →
      Own G' P' cq' ((piv ++ [(k : Int)]).map I64) 1 (piv.length + 1) → Off H P' → (∀ a, P' = some a → a.block ≠ bc) → Q .nrm T' G') : gW Tryz.prog reTail Q T G := by
  have hG := hH.sub s
  have c3 := hG.c3
  have hbt := iw_bd (i := t) (w := w) (by omega) hw
  have w3 := w64 ((t : Int) * w) (by omega) (by omega)
  have w4 := w64 ((t : Int) * w + k) (by omega) (by omega)
  have rt := hF.rd (i := t) (j := k) ht hk
  have h3 := flat_lt (R := R) (w := w) (i := t) (j := k) ht hk
  have h4 := flat_nn t k w
  have hb := hr t k
  have hmm := mulB (a := d) (b := g t k) (A := 2 ^ 30) (B := 2 ^ 30) (by omega) (by omega)
  have hnn : 0 ≤ d * g t k := Int.mul_nonneg hd.1 hb.1
  have w5 := w64 (d * g t k) (by omega) (by omega)
  have hrm : (d * g t k).tmod p = d * g t k % p := Int.tmod_eq_emod_of_nonneg hnn
  have hrem := fun x : Int => bin_rem .i64 x p (by omega)
  have hre : 0 ≤ d * g t k % p ∧ d * g t k % p < p := ⟨Int.emod_nonneg _ (by omega), Int.emod_lt_of_pos _ (by omega)⟩
  have w6 := w64 (d * g t k % p) (by omega) (by omega)
  simp (maxSteps := 300000) (disch := omega) only [gws, ↓reduceIte, reduceEqDiff, reduceToNat, reduceMul, reduceAdd, Nat.reduceBEq, isLd, x0, x5, x6, x7, x8, x9, x10, x11, c3, w3, w4, rt, w5, hrem, hrm, w6]
  refine spec_l03Inverse_ok ⟨by omega, by omega⟩ hp ?_
  have hinv := pw_rng (a := g t k) (p := p) hp.1 (p - 2).toNat
  simp (maxSteps := 300000) (disch := omega) only [gws, ↓reduceIte, reduceEqDiff, reduceToNat, reduceMul, reduceAdd, Nat.reduceBEq, isLd, x0, x5, x6, x7, x8, x9, x10, x11]
  refine red_l2 (p := p) (iv := invF (g t k) p) hG hF hR hw ht hr ⟨hp.1, by omega⟩ hinv (by simp (maxSteps := 300000) (disch := omega) only [gws, ↓reduceIte, reduceEqDiff, reduceToNat, reduceMul, reduceAdd, Nat.reduceBEq, isLd, x5]) (by simp (maxSteps := 300000) (disch := omega) only [gws, ↓reduceIte, reduceEqDiff, reduceToNat, reduceMul, reduceAdd, Nat.reduceBEq, isLd, x6]) (by simp (maxSteps := 300000) (disch := omega) only [gws, ↓reduceIte, reduceEqDiff, reduceToNat, reduceMul, reduceAdd, Nat.reduceBEq, isLd, x7]) (by simp (maxSteps := 300000) (disch := omega) only [gws, ↓reduceIte, reduceEqDiff, reduceToNat, reduceMul, reduceAdd, Nat.reduceBEq, isLd, x10]) (by simp (maxSteps := 300000) (disch := omega) only [gws, ↓reduceIte, reduceEqDiff, reduceToNat, reduceMul, reduceAdd, Nat.reduceBEq, isLd]) (by simp (maxSteps := 300000) (disch := omega) only [gws, ↓reduceIte, reduceEqDiff, reduceToNat, reduceMul, reduceAdd, Nat.reduceBEq, isLd] <;> rfl) fun T2 G2 hS2 hF2 hK2 => ?_
  have y0 : T2 0 = .pointer (some ⟨bm, 0, none⟩) := (hS2 0 (by omega)).trans (by simp (maxSteps := 300000) (disch := omega) only [gws, ↓reduceIte, reduceEqDiff, reduceToNat, reduceMul, reduceAdd, Nat.reduceBEq, isLd, x0])
  have y5 : T2 5 = .pointer (some ⟨b5, 0, none⟩) := (hS2 5 (by omega)).trans (by simp (maxSteps := 300000) (disch := omega) only [gws, ↓reduceIte, reduceEqDiff, reduceToNat, reduceMul, reduceAdd, Nat.reduceBEq, isLd, x5])
  have y6 : T2 6 = .int .i64 p := (hS2 6 (by omega)).trans (by simp (maxSteps := 300000) (disch := omega) only [gws, ↓reduceIte, reduceEqDiff, reduceToNat, reduceMul, reduceAdd, Nat.reduceBEq, isLd, x6])
  have y7 : T2 7 = .int .i64 w := (hS2 7 (by omega)).trans (by simp (maxSteps := 300000) (disch := omega) only [gws, ↓reduceIte, reduceEqDiff, reduceToNat, reduceMul, reduceAdd, Nat.reduceBEq, isLd, x7])
  have y8 : T2 8 = .slice P piv.length cq := (hS2 8 (by omega)).trans (by simp (maxSteps := 300000) (disch := omega) only [gws, ↓reduceIte, reduceEqDiff, reduceToNat, reduceMul, reduceAdd, Nat.reduceBEq, isLd, x8])
  have y9 : T2 9 = .int .i64 (d * g t k % p) := (hS2 9 (by omega)).trans (by simp (maxSteps := 300000) (disch := omega) only [gws, ↓reduceIte, reduceEqDiff, reduceToNat, reduceMul, reduceAdd, Nat.reduceBEq, isLd])
  have y10 : T2 10 = .int .i64 t := (hS2 10 (by omega)).trans (by simp (maxSteps := 300000) (disch := omega) only [gws, ↓reduceIte, reduceEqDiff, reduceToNat, reduceMul, reduceAdd, Nat.reduceBEq, isLd, x10])
  have y11 : T2 11 = .int .i64 k := (hS2 11 (by omega)).trans (by simp (maxSteps := 300000) (disch := omega) only [gws, ↓reduceIte, reduceEqDiff, reduceToNat, reduceMul, reduceAdd, Nat.reduceBEq, isLd, x11])
  have hS2' : Sam 8 T2 T := fun u hu => by
    rw [hS2 u (by omega)]
    unfold upd
    repeat rw [if_neg (by omega)]
  simp (maxSteps := 300000) (disch := omega) only [gws, ↓reduceIte, reduceEqDiff, reduceToNat, reduceMul, reduceAdd, Nat.reduceBEq, isLd]
  refine red_l4 (p := p) (h := scl g t (invF (g t k) p) p) (t := t) (k := k) (hG.keep hK2) hF2 hR hw ht hk (hr.scl (by omega) _ _) ⟨hp.1, by omega⟩ (by simp (maxSteps := 300000) (disch := omega) only [gws, ↓reduceIte, reduceEqDiff, reduceToNat, reduceMul, reduceAdd, Nat.reduceBEq, isLd, y0]) (by simp (maxSteps := 300000) (disch := omega) only [gws, ↓reduceIte, reduceEqDiff, reduceToNat, reduceMul, reduceAdd, Nat.reduceBEq, isLd, y5]) (by simp (maxSteps := 300000) (disch := omega) only [gws, ↓reduceIte, reduceEqDiff, reduceToNat, reduceMul, reduceAdd, Nat.reduceBEq, isLd, y6]) (by simp (maxSteps := 300000) (disch := omega) only [gws, ↓reduceIte, reduceEqDiff, reduceToNat, reduceMul, reduceAdd, Nat.reduceBEq, isLd, y7]) (by simp (maxSteps := 300000) (disch := omega) only [gws, ↓reduceIte, reduceEqDiff, reduceToNat, reduceMul, reduceAdd, Nat.reduceBEq, isLd, y10]) (by simp (maxSteps := 300000) (disch := omega) only [gws, ↓reduceIte, reduceEqDiff, reduceToNat, reduceMul, reduceAdd, Nat.reduceBEq, isLd, y11]) (by simp (maxSteps := 300000) (disch := omega) only [gws, ↓reduceIte, reduceEqDiff, reduceToNat, reduceMul, reduceAdd, Nat.reduceBEq, isLd] <;> rfl) fun T3 G3 hS3 hF3 hK3 => ?_
  have z8 : T3 8 = .slice P piv.length cq := (hS3 8 (by omega)).trans (by simp (maxSteps := 300000) (disch := omega) only [gws, ↓reduceIte, reduceEqDiff, reduceToNat, reduceMul, reduceAdd, Nat.reduceBEq, isLd, y8])
  have z9 : T3 9 = .int .i64 (d * g t k % p) := (hS3 9 (by omega)).trans (by simp (maxSteps := 300000) (disch := omega) only [gws, ↓reduceIte, reduceEqDiff, reduceToNat, reduceMul, reduceAdd, Nat.reduceBEq, isLd, y9])
  have z10 : T3 10 = .int .i64 t := (hS3 10 (by omega)).trans (by simp (maxSteps := 300000) (disch := omega) only [gws, ↓reduceIte, reduceEqDiff, reduceToNat, reduceMul, reduceAdd, Nat.reduceBEq, isLd, y10])
  have z11 : T3 11 = .int .i64 k := (hS3 11 (by omega)).trans (by simp (maxSteps := 300000) (disch := omega) only [gws, ↓reduceIte, reduceEqDiff, reduceToNat, reduceMul, reduceAdd, Nat.reduceBEq, isLd, y11])
  have hK := hK2.trans hK3
  have hO3 := hO.keep hK hne
  have s3 := sub_keep hK nb s
  simp (maxSteps := 300000) (disch := omega) only [gws, ↓reduceIte, reduceEqDiff, reduceToNat, reduceMul, reduceAdd, Nat.reduceBEq, isLd, z8, z9, z10, z11, gBs]
  refine ⟨by intro v hv; simp at hv; subst hv; rfl, fun b15 hb15 => ?_⟩
  have s15 := Sub.put hb15 ⟨[.int .i64 (k : Int)], true⟩
  refine ap_own (hO3.sub s15) (news := [I64 k]) (m := 1) (cells_one _ true) rfl (by intro v hv; simp at hv; subst hv; rfl) rfl (by omega) (by omega) (by omega) fun G5 P5 c5 hO5 keep => ?_
  obtain ⟨q, rs, hq1, hq2⟩ := hF3
  have hsp : Sub (put H bc ⟨fcells (R * w) q ++ rs, true⟩) G3 := Sub.of_put s3 hq1
  have hop : Off (put H bc ⟨fcells (R * w) q ++ rs, true⟩) P := fun a ha => by rw [put_ne _ _ (hne a ha)]; exact oP a ha
  obtain ⟨s5, o5⟩ := keep _ (hsp.trans s15) hop
  have wr : IntKind.i64.wrap ((t : Int) + 1) = (t : Int) + 1 := w64 _ (by omega) (by omega)
  simp (maxSteps := 300000) (disch := omega) only [gws, ↓reduceIte, reduceEqDiff, reduceToNat, reduceMul, reduceAdd, Nat.reduceBEq, isLd, z8, z9, z10, z11, wr]
  refine hQ _ G5 P5 c5 (d * g t k % p) hre.1 (by omega) ?_ (by simp (maxSteps := 300000) (disch := omega) only [gws, ↓reduceIte, reduceEqDiff, reduceToNat, reduceMul, reduceAdd, Nat.reduceBEq, isLd]) (by simp (maxSteps := 300000) (disch := omega) only [gws, ↓reduceIte, reduceEqDiff, reduceToNat, reduceMul, reduceAdd, Nat.reduceBEq, isLd, z9]) (by simp (maxSteps := 300000) (disch := omega) only [gws, ↓reduceIte, reduceEqDiff, reduceToNat, reduceMul, reduceAdd, Nat.reduceBEq, isLd]; rfl) (by simp (maxSteps := 300000) (disch := omega) only [gws, ↓reduceIte, reduceEqDiff, reduceToNat, reduceMul, reduceAdd, Nat.reduceBEq, isLd, z11]) ((Sub.put nb _).trans s5) ⟨q, rs, s5 _ _ (put_same _ _ _), hq2⟩ ?_ (o5.mono (Sub.put nb _)) o5.pne
  · intro u hu
    unfold upd
    repeat rw [if_neg (by omega)]
    rw [hS3 u (by omega)]
    unfold upd
    repeat rw [if_neg (by omega)]
    exact hS2' u hu
  · exact hO5.cast (by rw [List.map_append]; rfl) rfl
/-- a matrix in a box. -/
structure MatB (G : GH) (b : Nat) (p : Int) (R C : Nat) (A : Option Addr) (L c : Nat) : Prop where
  f0 : rd G (some ⟨b, 0, none⟩) = some (.int .i64 p)
  f1 : rd G (some ⟨b, 1, none⟩) = some (.int .i64 R)
  f2 : rd G (some ⟨b, 2, none⟩) = some (.int .i64 C)
  f3 : rd G (some ⟨b, 3, none⟩) = some (.slice A L c)
theorem MatB.sub {G G' : GH} {b : Nat} {p : Int} {R C : Nat} {A : Option Addr} {L c : Nat} (h : MatB G b p R C A L c) (s : Sub G G') : MatB G' b p R C A L c := ⟨rd_sub s h.f0, rd_sub s h.f1, rd_sub s h.f2, rd_sub s h.f3⟩
theorem MatB.box (G : GH) (b : Nat) (p : Int) (R C : Nat) (A : Option Addr) (L c : Nat) : MatB (put G b ⟨matC p R C A L c, true⟩) b p R C A L c := ⟨rd_box _ _ _ 0 _ rfl, rd_box _ _ _ 1 _ rfl, rd_box _ _ _ 2 _ rfl, rd_box _ _ _ 3 _ rfl⟩
theorem matC_one (p : Int) (R C : Nat) (A : Option Addr) (L c : Nat) : ∀ v ∈ matC p R C A L c, oneB v = true := by
  intro v hv; simp [matC] at hv; rcases hv with rfl | rfl | rfl | rfl <;> rfl
theorem elF_full {p : Int} {R : Nat} {f : Int → Int → Int} {k : Nat} (h : (elF p R f k).piv.length = R) : ∀ d, (elF p R f (k + d)).f = (elF p R f k).f ∧ (elF p R f (k + d)).piv = (elF p R f k).piv
  | 0 => ⟨rfl, rfl⟩
  | d + 1 => by
    have ih := elF_full h d
    have e : elF p R f (k + (d + 1)) = elS p R (elF p R f (k + d)) (k + d : Nat) := rfl
    rw [e]
    unfold elS
    rw [fstRow_none fun j h1 h2 => by rw [ih.2, h] at h1; omega]
    exact ih
/-- the loop over the columns. -/
theorem red_l5 {H G : GH} {bm b5 bc R w cc : Nat} {p : Int} {f : Int → Int → Int} {T : Nat → Value} {Q : Cont} (hH : RdG H bm b5 bc R w cc) (nb : H bc = none) (s : Sub H G) (hF : Fl G bc R w f) {cq0 : Nat} {P0 : Option Addr} (hO : Own G P0 cq0 [] 1 0) (oP : Off H P0) (hne : ∀ a, P0 = some a → a.block ≠ bc)
    (hR : R ≤ 2 ^ 10) (hw : w ≤ 2 ^ 10) (hr : Rng f p) (hp : 1 < p ∧ p ≤ 251)
    (x0 : T 0 = .pointer (some ⟨bm, 0, none⟩)) (x5 : T 5 = .pointer (some ⟨b5, 0, none⟩)) (x6 : T 6 = .int .i64 p) (x7 : T 7 = .int .i64 w) (x8 : T 8 = .slice P0 0 cq0) (x9 : T 9 = .int .i64 1) (x10 : T 10 = .int .i64 0) (x11 : T 11 = .int .i64 0)
    (hQ : ∀ T' G' P cq d, Sam 8 T' T → T' 8 = .slice P (elF p R f w).piv.length cq → T' 9 = .int .i64 d → Sub H G' → Fl G' bc R w (elF p R f w).f → Own G' P cq ((elF p R f w).piv.map I64) 1 (elF p R f w).piv.length → Off H P → Q (.ex 0) T' G') : gLoop (gW Tryz.prog kyn) Q T G := by
  refine gLoop_intro (fun m T' G' => ∃ (k : Nat) (P : Option Addr) (cq : Nat) (d : Int), Sam 8 T' T ∧ T' 8 = .slice P (elF p R f k).piv.length cq ∧ T' 9 = .int .i64 d ∧ T' 10 = .int .i64 (elF p R f k).piv.length ∧ T' 11 = .int .i64 k ∧ m + k = w ∧ k ≤ w ∧ (0 ≤ d ∧ d ≤ p) ∧ Sub H G' ∧ Fl G' bc R w (elF p R f k).f ∧ Own G' P cq ((elF p R f k).piv.map I64) 1 (elF p R f k).piv.length ∧ Off H P ∧ ∀ a, P = some a → a.block ≠ bc)
    w ⟨0, P0, cq0, 1, Sam.refl _ _, x8, x9, x10, x11, by omega, by omega, by omega, s, hF, hO, oP, hne⟩ ?_
  clear hF hO oP hne s
  rintro m T' G' ⟨k, P, cq, d, hS, y8, y9, y10, y11, hm, hkw, hd, s, hF, hO, oP, hne⟩
  have y0 := (hS 0 (by omega)).trans x0
  have y5 := (hS 5 (by omega)).trans x5
  have y6 := (hS 6 (by omega)).trans x6
  have y7 := (hS 7 (by omega)).trans x7
  have hG := hH.sub s
  have m1 := hG.m1
  have hrg := elF_rng (R := R) (by omega : 0 < p) hr k
  have hln := elF_len p R f k
  have hstep : elF p R f (k + 1) = elS p R (elF p R f k) k := rfl
  have fin : (elF p R f k).f = (elF p R f w).f ∧ (elF p R f k).piv = (elF p R f w).piv → ∀ T2, Sam 8 T2 T → T2 8 = .slice P (elF p R f k).piv.length cq → T2 9 = .int .i64 d → Q (.ex 0) T2 G' := fun e T2 h1 h2 h3 => by
    rw [e.2] at h2 hO
    rw [e.1] at hF
    exact hQ T2 G' P cq d h1 h2 h3 s hF hO oP
  simp (maxSteps := 300000) (disch := omega) only [gws, ↓reduceIte, reduceEqDiff, reduceToNat, reduceMul, reduceAdd, Nat.reduceBEq, isLd, y0, y5, y6, y7, y8, y9, y10, y11]
  by_cases hkk : (k : Int) < w
  rotate_left
  · simp (maxSteps := 300000) (disch := omega) only [gws, ↓reduceIte, reduceEqDiff, reduceToNat, reduceMul, reduceAdd, Nat.reduceBEq, isLd, y0, y5, y6, y7, y8, y9, y10, y11, hkk]
    obtain rfl : k = w := by omega
    refine fin ⟨rfl, rfl⟩ _ ?_ (by simp (maxSteps := 300000) (disch := omega) only [gws, ↓reduceIte, reduceEqDiff, reduceToNat, reduceMul, reduceAdd, Nat.reduceBEq, isLd, y8]) (by simp (maxSteps := 300000) (disch := omega) only [gws, ↓reduceIte, reduceEqDiff, reduceToNat, reduceMul, reduceAdd, Nat.reduceBEq, isLd, y9])
    repeat (first | exact hS | refine Sam.upd ?_ _ (by omega))
  simp (maxSteps := 300000) (disch := omega) only [gws, ↓reduceIte, reduceEqDiff, reduceToNat, reduceMul, reduceAdd, Nat.reduceBEq, isLd, y0, y5, y6, y7, y8, y9, y10, y11, hkk, m1]
  by_cases hrr : ((elF p R f k).piv.length : Int) < R
  rotate_left
  · simp (maxSteps := 300000) (disch := omega) only [gws, ↓reduceIte, reduceEqDiff, reduceToNat, reduceMul, reduceAdd, Nat.reduceBEq, isLd, y0, y5, y6, y7, y8, y9, y10, y11, hrr]
    have hfull := elF_full (p := p) (R := R) (f := f) (k := k) (by omega) (w - k)
    rw [show k + (w - k) = w by omega] at hfull
    refine fin ⟨hfull.1.symm, hfull.2.symm⟩ _ ?_ (by simp (maxSteps := 300000) (disch := omega) only [gws, ↓reduceIte, reduceEqDiff, reduceToNat, reduceMul, reduceAdd, Nat.reduceBEq, isLd, y8]) (by simp (maxSteps := 300000) (disch := omega) only [gws, ↓reduceIte, reduceEqDiff, reduceToNat, reduceMul, reduceAdd, Nat.reduceBEq, isLd, y9])
    repeat (first | exact hS | refine Sam.upd ?_ _ (by omega))
  clear fin
  generalize elF p R f k = S at *
  simp (maxSteps := 300000) (disch := omega) only [gws, ↓reduceIte, reduceEqDiff, reduceToNat, reduceMul, reduceAdd, Nat.reduceBEq, isLd, y0, y5, y6, y7, y8, y9, y10, y11, hrr]
  refine red_l0 (t := S.piv.length) (k := k) hG hF hR hw (by omega) (by omega) (by simp (maxSteps := 300000) (disch := omega) only [gws, ↓reduceIte, reduceEqDiff, reduceToNat, reduceMul, reduceAdd, Nat.reduceBEq, isLd, y0]) (by simp (maxSteps := 300000) (disch := omega) only [gws, ↓reduceIte, reduceEqDiff, reduceToNat, reduceMul, reduceAdd, Nat.reduceBEq, isLd, y5]) (by simp (maxSteps := 300000) (disch := omega) only [gws, ↓reduceIte, reduceEqDiff, reduceToNat, reduceMul, reduceAdd, Nat.reduceBEq, isLd, y7]) (by simp (maxSteps := 300000) (disch := omega) only [gws, ↓reduceIte, reduceEqDiff, reduceToNat, reduceMul, reduceAdd, Nat.reduceBEq, isLd, y11]) (by simp (maxSteps := 300000) (disch := omega) only [gws, ↓reduceIte, reduceEqDiff, reduceToNat, reduceMul, reduceAdd, Nat.reduceBEq, isLd]) fun T2 i hS2 z12 hti hiR hz hnz => ?_
  have z0 : T2 0 = .pointer (some ⟨bm, 0, none⟩) := (hS2 0 (by omega)).trans (by simp (maxSteps := 300000) (disch := omega) only [gws, ↓reduceIte, reduceEqDiff, reduceToNat, reduceMul, reduceAdd, Nat.reduceBEq, isLd, y0])
  have z5 : T2 5 = .pointer (some ⟨b5, 0, none⟩) := (hS2 5 (by omega)).trans (by simp (maxSteps := 300000) (disch := omega) only [gws, ↓reduceIte, reduceEqDiff, reduceToNat, reduceMul, reduceAdd, Nat.reduceBEq, isLd, y5])
  have z6 : T2 6 = .int .i64 p := (hS2 6 (by omega)).trans (by simp (maxSteps := 300000) (disch := omega) only [gws, ↓reduceIte, reduceEqDiff, reduceToNat, reduceMul, reduceAdd, Nat.reduceBEq, isLd, y6])
  have z7 : T2 7 = .int .i64 w := (hS2 7 (by omega)).trans (by simp (maxSteps := 300000) (disch := omega) only [gws, ↓reduceIte, reduceEqDiff, reduceToNat, reduceMul, reduceAdd, Nat.reduceBEq, isLd, y7])
  have z8 : T2 8 = .slice P S.piv.length cq := (hS2 8 (by omega)).trans (by simp (maxSteps := 300000) (disch := omega) only [gws, ↓reduceIte, reduceEqDiff, reduceToNat, reduceMul, reduceAdd, Nat.reduceBEq, isLd, y8])
  have z9 : T2 9 = .int .i64 d := (hS2 9 (by omega)).trans (by simp (maxSteps := 300000) (disch := omega) only [gws, ↓reduceIte, reduceEqDiff, reduceToNat, reduceMul, reduceAdd, Nat.reduceBEq, isLd, y9])
  have z10 : T2 10 = .int .i64 S.piv.length := (hS2 10 (by omega)).trans (by simp (maxSteps := 300000) (disch := omega) only [gws, ↓reduceIte, reduceEqDiff, reduceToNat, reduceMul, reduceAdd, Nat.reduceBEq, isLd, y10])
  have z11 : T2 11 = .int .i64 k := (hS2 11 (by omega)).trans (by simp (maxSteps := 300000) (disch := omega) only [gws, ↓reduceIte, reduceEqDiff, reduceToNat, reduceMul, reduceAdd, Nat.reduceBEq, isLd, y11])
  have hS2' : Sam 8 T2 T := fun u hu => by
    rw [hS2 u (by omega)]
    unfold upd
    repeat rw [if_neg (by omega)]
    exact hS u hu
  simp (maxSteps := 300000) (disch := omega) only [gws, ↓reduceIte, reduceEqDiff, reduceToNat, reduceMul, reduceAdd, Nat.reduceBEq, isLd, z0, z12, m1]
  by_cases hiR' : (i : Int) = R
  · simp (maxSteps := 300000) (disch := omega) only [gws, ↓reduceIte, reduceEqDiff, reduceToNat, reduceMul, reduceAdd, Nat.reduceBEq, isLd, eq_true hiR', z11]
    have hSS : elS p R S k = ⟨S.f, S.piv, 0⟩ := by unfold elS; rw [fstRow_none fun j h1 h2 => hz j h1 (by omega)]
    rw [hSS] at hstep
    refine ⟨m - 1, by omega, G', Sub.refl _, k + 1, P, cq, d, ?_, ?_, ?_, ?_, rfl, by omega, by omega, hd, s, by rw [hstep]; exact hF, by rw [hstep]; exact hO, oP, hne⟩
    · repeat (first | exact hS2' | refine Sam.upd ?_ _ (by omega))
    · rw [hstep]; simp (maxSteps := 300000) (disch := omega) only [gws, ↓reduceIte, reduceEqDiff, reduceToNat, reduceMul, reduceAdd, Nat.reduceBEq, isLd, z8]
    · exact z9
    · rw [hstep]; simp (maxSteps := 300000) (disch := omega) only [gws, ↓reduceIte, reduceEqDiff, reduceToNat, reduceMul, reduceAdd, Nat.reduceBEq, isLd, z10]
  · rw [decide_eq_false hiR']
    have hi : i < R := by omega
    have hnz' := hnz hi
    have hSS : elS p R S k = ⟨clr (scl (swp S.f S.piv.length i) S.piv.length (invF (swp S.f S.piv.length i S.piv.length k) p) p) S.piv.length k p, S.piv ++ [(k : Int)], (if i = S.piv.length then S.det else (-S.det) % p) * swp S.f S.piv.length i S.piv.length k % p⟩ := by unfold elS; rw [fstRow_some hti hi hnz' hz]
    rw [hSS] at hstep
    refine red_sw (X := reTail) (t := S.piv.length) (i := i) (k := k) (d := d) (p := p) hG hF hR hw (by omega) hi ⟨hp.1, by omega⟩ hd (by simp (maxSteps := 300000) (disch := omega) only [gws, ↓reduceIte, reduceEqDiff, reduceToNat, reduceMul, reduceAdd, Nat.reduceBEq, isLd, z5]) (by simp (maxSteps := 300000) (disch := omega) only [gws, ↓reduceIte, reduceEqDiff, reduceToNat, reduceMul, reduceAdd, Nat.reduceBEq, isLd, z6]) (by simp (maxSteps := 300000) (disch := omega) only [gws, ↓reduceIte, reduceEqDiff, reduceToNat, reduceMul, reduceAdd, Nat.reduceBEq, isLd, z7]) (by simp (maxSteps := 300000) (disch := omega) only [gws, ↓reduceIte, reduceEqDiff, reduceToNat, reduceMul, reduceAdd, Nat.reduceBEq, isLd, z9]) (by simp (maxSteps := 300000) (disch := omega) only [gws, ↓reduceIte, reduceEqDiff, reduceToNat, reduceMul, reduceAdd, Nat.reduceBEq, isLd, z10]) (by simp (maxSteps := 300000) (disch := omega) only [gws, ↓reduceIte, reduceEqDiff, reduceToNat, reduceMul, reduceAdd, Nat.reduceBEq, isLd, z11]) (by simp (maxSteps := 300000) (disch := omega) only [gws, ↓reduceIte, reduceEqDiff, reduceToNat, reduceMul, reduceAdd, Nat.reduceBEq, isLd, z12]) fun T3 G3 d3 h30 h3p hS3 w9 w10 w11 hF3 hK3 => ?_
    have w0 : T3 0 = .pointer (some ⟨bm, 0, none⟩) := (hS3 0 (by omega)).trans (by simp (maxSteps := 300000) (disch := omega) only [gws, ↓reduceIte, reduceEqDiff, reduceToNat, reduceMul, reduceAdd, Nat.reduceBEq, isLd, z0])
    have w5 : T3 5 = .pointer (some ⟨b5, 0, none⟩) := (hS3 5 (by omega)).trans (by simp (maxSteps := 300000) (disch := omega) only [gws, ↓reduceIte, reduceEqDiff, reduceToNat, reduceMul, reduceAdd, Nat.reduceBEq, isLd, z5])
    have w6 : T3 6 = .int .i64 p := (hS3 6 (by omega)).trans (by simp (maxSteps := 300000) (disch := omega) only [gws, ↓reduceIte, reduceEqDiff, reduceToNat, reduceMul, reduceAdd, Nat.reduceBEq, isLd, z6])
    have w7 : T3 7 = .int .i64 w := (hS3 7 (by omega)).trans (by simp (maxSteps := 300000) (disch := omega) only [gws, ↓reduceIte, reduceEqDiff, reduceToNat, reduceMul, reduceAdd, Nat.reduceBEq, isLd, z7])
    have w8 : T3 8 = .slice P S.piv.length cq := (hS3 8 (by omega)).trans (by simp (maxSteps := 300000) (disch := omega) only [gws, ↓reduceIte, reduceEqDiff, reduceToNat, reduceMul, reduceAdd, Nat.reduceBEq, isLd, z8])
    refine red_tail (g := swp S.f S.piv.length i) (t := S.piv.length) (k := k) (p := p) (d := d3) (piv := S.piv) hH nb (sub_keep hK3 nb s) hF3 (hO.keep hK3 hne) oP hne (by omega) hR hw (by omega) (by omega) (hrg.swp _ _) hp ⟨h30, h3p⟩ w0 w5 w6 w7 w8 w9 w10 w11 fun T4 G4 P4 cq4 d4 h40 h4p hS4 v8 v9 v10 v11 s4 hF4 hO4 oP4 hne4 => ?_
    simp (maxSteps := 300000) (disch := omega) only [gws, ↓reduceIte, reduceEqDiff, reduceToNat, reduceMul, reduceAdd, Nat.reduceBEq, isLd, v8, v9, v10, v11]
    refine ⟨m - 1, by omega, G4, Sub.refl _, k + 1, P4, cq4, d4, ?_, ?_, ?_, ?_, rfl, by omega, by omega, ⟨h40, h4p⟩, s4, by rw [hstep]; exact hF4, ?_, oP4, hne4⟩
    · refine Sam.upd (Sam.upd (Sam.upd (hS4.trans ?_) _ (by omega)) _ (by omega)) _ (by omega)
      refine (hS3.le (by omega)).trans ?_
      repeat (first | exact hS2' | refine Sam.upd ?_ _ (by omega))
    · rw [hstep]; simp (maxSteps := 300000) (disch := omega) only [gws, ↓reduceIte, reduceEqDiff, reduceToNat, reduceMul, reduceAdd, Nat.reduceBEq, isLd, v8]; simp
    · rfl
    · rw [hstep]; simp (maxSteps := 300000) (disch := omega) only [gws, ↓reduceIte, reduceEqDiff, reduceToNat, reduceMul, reduceAdd, Nat.reduceBEq, isLd, v10]; simp
    · rw [hstep]; exact hO4.cast rfl (by simp)
theorem spec_l03Reduced_ok {G : GH} {bm : Nat} {p : Int} {R w c : Nat} {A : Option Addr} {f : Int → Int → Int} (hM : MatB G bm p R w A (R * w) c) (hI : IntS G A c (flatL R w f)) (hR : 0 < R ∧ R ≤ 2 ^ 10) (hw : 0 < w ∧ w ≤ 2 ^ 10) (hr : Rng f p) (hp : 1 < p ∧ p ≤ 251) {K : Value → GH → Prop}
    (hk : ∀ G' bc cc P cq d, Sub G G' → Fl G' bc R w (elF p R f w).f → Own G' P cq ((elF p R f w).piv.map I64) 1 (elF p R f w).piv.length → K (.tuple [matV p R w (some ⟨bc, 0, none⟩) (R * w) cc, .slice P (elF p R f w).piv.length cq, .int .i64 d].toArray) G') :
    GC Tryz.prog 164 [.pointer (some ⟨bm, 0, none⟩)] G K := by
  refine kyr (by simp) ?_
  simp (maxSteps := 300000) (disch := omega) only [gws, ↓reduceIte, reduceEqDiff, reduceToNat, reduceMul, reduceAdd, Nat.reduceBEq, isLd]
  intro b2 hb2
  have s2 := Sub.put hb2 ⟨[.int .i64 0, .int .i64 0, .int .i64 0, .slice none 0 0], true⟩
  have g2 : put G b2 ⟨[.int .i64 0, .int .i64 0, .int .i64 0, .slice none 0 0], true⟩ b2 = some ⟨[.int .i64 0, .int .i64 0, .int .i64 0, .slice none 0 0], true⟩ := put_same _ _ _
  revert s2 g2
  generalize put G b2 ⟨[.int .i64 0, .int .i64 0, .int .i64 0, .slice none 0 0], true⟩ = G1
  intro s2 g2
  have hM1 := hM.sub s2
  have hI1 := hI.sub s2
  have f0 := hM1.f0
  have f1 := hM1.f1
  have f2 := hM1.f2
  have f3 := hM1.f3
  simp (maxSteps := 300000) (disch := omega) only [gws, ↓reduceIte, reduceEqDiff, reduceToNat, reduceMul, reduceAdd, Nat.reduceBEq, isLd, f0, f1, f2, f3]
  have key : ∀ (H G3 : GH) (bc b5 cc : Nat) (T : Nat → Value) {P0 : Option Addr}, RdG H bm b5 bc R w cc → H bc = none → Sub G1 H → MatB H b5 p R w (some ⟨bc, 0, none⟩) (R * w) cc → Sub H G3 → Fl G3 bc R w f → Own G3 P0 0 [] 1 0 → Off H P0 → (∀ a, P0 = some a → a.block ≠ bc) →
      T 0 = .pointer (some ⟨bm, 0, none⟩) → T 2 = .pointer (some ⟨b2, 0, none⟩) → T 5 = .pointer (some ⟨b5, 0, none⟩) → T 6 = .int .i64 p → T 7 = .int .i64 w → T 8 = .slice P0 0 0 → T 9 = .int .i64 1 → T 10 = .int .i64 0 → T 11 = .int .i64 0 →
      gLoop (gW Tryz.prog kyn) (BlkK 0 (SeqK (gW Tryz.prog (.seq (.reg kyo) .ret)) (RetK [.cn 2 4, .t 3, .t 4] K))) T G3 := by
    intro H G3 bc b5 cc T P0 hH nb sH hM5 s3 hF hO oP hne x0 x2 x5 x6 x7 x8 x9 x10 x11
    refine red_l5 hH nb s3 hF hO oP hne (by omega) (by omega) hr hp x0 x5 x6 x7 x8 x9 x10 x11 fun T' G' P cq d hS y8 y9 s' hF' hO' oP' => ?_
    have y2 := (hS 2 (by omega)).trans x2
    have y5 := (hS 5 (by omega)).trans x5
    have m := hM5.sub s'
    have m0 := m.f0
    have m1 := m.f1
    have m2 := m.f2
    have m3 := m.f3
    simp (maxSteps := 300000) (disch := omega) only [gws, ↓reduceIte, reduceEqDiff, reduceToNat, reduceMul, reduceAdd, Nat.reduceBEq, isLd, y2, y5, y8, y9, m0, m1, m2, m3]
    have hb2' := s' _ _ (sH _ _ g2)
    have n2 : b2 ≠ bc := fun x => by
      have := sH _ _ g2
      rw [x, nb] at this; cases this
    refine st_many (vs := matC p R w (some ⟨bc, 0, none⟩) (R * w) cc) rfl hb2' rfl (by simp) (matC_one _ _ _ _ _ _) ?_
    simp (maxSteps := 300000) (disch := omega) only [gws, ↓reduceIte, reduceEqDiff, reduceToNat, reduceMul, reduceAdd, Nat.reduceBEq, isLd, over, matC, y2, y5, y8, y9]
    refine hk (put G' b2 ⟨matC p R w (some ⟨bc, 0, none⟩) (R * w) cc, true⟩) bc cc P cq d (((s2.trans sH).trans s').skip hb2) ?_ (hO'.put (fun a ha x => ?_) _)
    · obtain ⟨q, rs, h1, h2⟩ := hF'
      exact ⟨q, rs, by rw [put_ne _ _ n2.symm]; exact h1, h2⟩
    · have := oP' a ha
      rw [x, sH _ _ g2] at this; cases this
  have mkFl : ∀ {Gx G2 : GH} {A2 : Option Addr} {c2 : Nat}, New Gx G2 A2 c2 ((flatL R w f).map I64) 1 (flatL R w f).length → ∃ bc, A2 = some ⟨bc, 0, none⟩ ∧ Gx bc = none ∧ Fl G2 bc R w f := by
    intro Gx G2 A2 c2 hN
    rw [flatL_len] at hN
    have hpos : 0 < R * w := Nat.mul_pos hR.1 hw.1
    rcases hN with ⟨_, _, h0, _, _⟩ | ⟨bc, rs, rfl, h1, rfl, h3⟩
    · omega
    · refine ⟨bc, rfl, h1, fun v => f ((v.toNat / w : Nat) : Int) ((v.toNat % w : Nat) : Int), rs, ?_, fun i j hi hj => ?_⟩
      · rw [put_same]
        refine congrArg (fun l => some (⟨l ++ rs, true⟩ : Ent)) ?_
        unfold flatL fcells
        rw [List.map_map]
        refine List.map_congr_left fun v _ => ?_
        simp only [Function.comp, Int.toNat_natCast]
      · have e : (i : Int) * w + j = ((i * w + j : Nat) : Int) := by push_cast; rfl
        have h1 : (i * w + j) / w = i := by rw [Nat.mul_comm, Nat.mul_add_div (by omega), Nat.div_eq_of_lt hj, Nat.add_zero]
        have h2 : (i * w + j) % w = j := by rw [Nat.mul_comm, Nat.mul_add_mod, Nat.mod_eq_of_lt hj]
        dsimp only
        rw [e, Int.toNat_natCast, h1, h2]
  have hbm : ∃ e, G1 bm = some e := by
    cases h : G1 bm with
    | none => simp [rd, h] at f0
    | some e => exact ⟨e, rfl⟩
  obtain ⟨em, hbm⟩ := hbm
  have hlen : (flatL R w f).length < 2 ^ 30 := by
    rw [flatL_len]
    have : R * w ≤ 2 ^ 10 * 2 ^ 10 := Nat.mul_le_mul hR.2 hw.2
    omega
  have hl : Value.slice A (R * w) c = .slice A (flatL R w f).length c := by rw [flatL_len]
  have hbld : ∀ bc c2 : Nat, bldV [.int .i64 0, .int .i64 0, .int .i64 0, .slice none 0 0] [(0, 1, .int .i64 p), (1, 1, .int .i64 R), (2, 1, .int .i64 w), (3, 1, .slice (some ⟨bc, 0, none⟩) (R * w) c2)] = some (matC p R w (some ⟨bc, 0, none⟩) (R * w) c2) := fun _ _ => rfl
  refine ⟨?_, ?_⟩
  · rw [hl]
    refine spec_l00Own_ok hI1 hlen fun G2 A2 c2 hN => ?_
    obtain ⟨bc, rfl, hbc, hF⟩ := mkFl hN
    rw [flatL_len]
    have sN := hN.sub
    simp (maxSteps := 300000) (disch := omega) only [gws, ↓reduceIte, reduceEqDiff, reduceToNat, reduceMul, reduceAdd, Nat.reduceBEq, isLd, rd_sub sN f0, rd_sub sN f1, rd_sub sN f2, rd_sub sN f3, hbld]
    intro b5 hb5
    have s5 := sN.trans (Sub.put hb5 ⟨[.int .i64 0, .int .i64 0, .int .i64 0, .slice none 0 0], true⟩)
    simp (maxSteps := 300000) (disch := omega) only [gws, ↓reduceIte, reduceEqDiff, reduceToNat, reduceMul, reduceAdd, Nat.reduceBEq, isLd, rd_sub s5 f0, rd_sub s5 f1, rd_sub s5 f2, rd_sub s5 f3]
    refine st_many (vs := matC p R w (some ⟨bc, 0, none⟩) (R * w) c2) rfl (put_same _ _ _) rfl (by simp) (matC_one _ _ _ _ _ _) ?_
    rw [put_put']
    have hov : over [Value.int .i64 0, .int .i64 0, .int .i64 0, .slice none 0 0] 0 (matC p R w (some ⟨bc, 0, none⟩) (R * w) c2) = matC p R w (some ⟨bc, 0, none⟩) (R * w) c2 := rfl
    rw [hov]
    have h15 : G1 b5 = none := sN.none hb5
    have sH : Sub G1 (put G1 b5 ⟨matC p R w (some ⟨bc, 0, none⟩) (R * w) c2, true⟩) := Sub.put h15 _
    have s6 : Sub (put G1 b5 ⟨matC p R w (some ⟨bc, 0, none⟩) (R * w) c2, true⟩) (put G2 b5 ⟨matC p R w (some ⟨bc, 0, none⟩) (R * w) c2, true⟩) := Sub.both sN
    have hM5 := MatB.box G1 b5 p R w (some ⟨bc, 0, none⟩) (R * w) c2
    have n5 : b5 ≠ bc := fun x => by
      obtain ⟨q, rs, h1, _⟩ := hF
      rw [x, h1] at hb5; cases hb5
    have nb : put G1 b5 ⟨matC p R w (some ⟨bc, 0, none⟩) (R * w) c2, true⟩ bc = none := by rw [put_ne _ _ n5.symm]; exact hbc
    have hF6 : Fl (put G2 b5 ⟨matC p R w (some ⟨bc, 0, none⟩) (R * w) c2, true⟩) bc R w f := by
      obtain ⟨q, rs, h1, h2⟩ := hF
      exact ⟨q, rs, by rw [put_ne _ _ n5.symm]; exact h1, h2⟩
    have hH : RdG (put G1 b5 ⟨matC p R w (some ⟨bc, 0, none⟩) (R * w) c2, true⟩) bm b5 bc R w c2 := ⟨rd_sub sH f1, hM5.f3, (fun x => by rw [x, hbc] at hbm; simp at hbm), n5⟩
    revert sH s6 hM5 nb hF6 hH
    generalize put G1 b5 ⟨matC p R w (some ⟨bc, 0, none⟩) (R * w) c2, true⟩ = H
    generalize put G2 b5 ⟨matC p R w (some ⟨bc, 0, none⟩) (R * w) c2, true⟩ = G3
    intro sH s6 hM5 nb hF6 hH
    have s7 := sH.trans s6
    simp (maxSteps := 300000) (disch := omega) only [gws, ↓reduceIte, reduceEqDiff, reduceToNat, reduceMul, reduceAdd, Nat.reduceBEq, isLd, rd_sub s7 f0, rd_sub s7 f1, rd_sub s7 f2, rd_sub s7 f3, gBs]
    refine ⟨by intro v hv; simp at hv, fun b8 hb8 => ?_⟩
    have hN8 := New.mk hb8 [] 1 0 rfl
    refine key H _ bc b5 c2 _ (P0 := some ⟨b8, 0, none⟩) hH nb sH hM5 (s6.trans (Sub.put hb8 _)) ?_ hN8.fresh (hN8.offs s6) ?_ (by simp (maxSteps := 300000) (disch := omega) only [gws, ↓reduceIte, reduceEqDiff, reduceToNat, reduceMul, reduceAdd, Nat.reduceBEq, isLd]) (by simp (maxSteps := 300000) (disch := omega) only [gws, ↓reduceIte, reduceEqDiff, reduceToNat, reduceMul, reduceAdd, Nat.reduceBEq, isLd]) (by simp (maxSteps := 300000) (disch := omega) only [gws, ↓reduceIte, reduceEqDiff, reduceToNat, reduceMul, reduceAdd, Nat.reduceBEq, isLd]) (by simp (maxSteps := 300000) (disch := omega) only [gws, ↓reduceIte, reduceEqDiff, reduceToNat, reduceMul, reduceAdd, Nat.reduceBEq, isLd]) (by simp (maxSteps := 300000) (disch := omega) only [gws, ↓reduceIte, reduceEqDiff, reduceToNat, reduceMul, reduceAdd, Nat.reduceBEq, isLd]) (by simp (maxSteps := 300000) (disch := omega) only [gws, ↓reduceIte, reduceEqDiff, reduceToNat, reduceMul, reduceAdd, Nat.reduceBEq, isLd] <;> rfl) (by simp (maxSteps := 300000) (disch := omega) only [gws, ↓reduceIte, reduceEqDiff, reduceToNat, reduceMul, reduceAdd, Nat.reduceBEq, isLd] <;> rfl) (by simp (maxSteps := 300000) (disch := omega) only [gws, ↓reduceIte, reduceEqDiff, reduceToNat, reduceMul, reduceAdd, Nat.reduceBEq, isLd] <;> rfl) (by simp (maxSteps := 300000) (disch := omega) only [gws, ↓reduceIte, reduceEqDiff, reduceToNat, reduceMul, reduceAdd, Nat.reduceBEq, isLd] <;> rfl)
    · obtain ⟨q, rs, h1, h2⟩ := hF6
      exact ⟨q, rs, Sub.put hb8 _ _ _ h1, h2⟩
    · obtain ⟨q, rs, h1, _⟩ := hF6
      exact hN8.nb h1
  · intro b5 hb5
    have s5 := Sub.put hb5 ⟨[.int .i64 0, .int .i64 0, .int .i64 0, .slice none 0 0], true⟩
    simp (maxSteps := 300000) (disch := omega) only [gws, ↓reduceIte, reduceEqDiff, reduceToNat, reduceMul, reduceAdd, Nat.reduceBEq, isLd, rd_sub s5 f0, rd_sub s5 f1, rd_sub s5 f2, rd_sub s5 f3]
    rw [hl]
    refine spec_l00Own_ok (hI1.sub s5) hlen fun G2 A2 c2 hN => ?_
    obtain ⟨bc, rfl, hbc, hF⟩ := mkFl hN
    rw [flatL_len]
    have sN := s5.trans hN.sub
    have g5 := hN.sub _ _ (put_same _ _ _)
    simp (maxSteps := 300000) (disch := omega) only [gws, ↓reduceIte, reduceEqDiff, reduceToNat, reduceMul, reduceAdd, Nat.reduceBEq, isLd, rd_sub sN f0, rd_sub sN f1, rd_sub sN f2, rd_sub sN f3, hbld]
    refine st_many (vs := matC p R w (some ⟨bc, 0, none⟩) (R * w) c2) rfl g5 rfl (by simp) (matC_one _ _ _ _ _ _) ?_
    have hov : over [Value.int .i64 0, .int .i64 0, .int .i64 0, .slice none 0 0] 0 (matC p R w (some ⟨bc, 0, none⟩) (R * w) c2) = matC p R w (some ⟨bc, 0, none⟩) (R * w) c2 := rfl
    rw [hov]
    have n5 : b5 ≠ bc := fun x => by
      rw [x, put_same] at hbc; cases hbc
    have hbc1 : G1 bc = none := by rwa [put_ne _ _ n5.symm] at hbc
    have sH : Sub G1 (put G1 b5 ⟨matC p R w (some ⟨bc, 0, none⟩) (R * w) c2, true⟩) := Sub.put hb5 _
    have s6 : Sub (put G1 b5 ⟨matC p R w (some ⟨bc, 0, none⟩) (R * w) c2, true⟩) (put G2 b5 ⟨matC p R w (some ⟨bc, 0, none⟩) (R * w) c2, true⟩) := Sub.both sN
    have hM5 := MatB.box G1 b5 p R w (some ⟨bc, 0, none⟩) (R * w) c2
    have nb : put G1 b5 ⟨matC p R w (some ⟨bc, 0, none⟩) (R * w) c2, true⟩ bc = none := by rw [put_ne _ _ n5.symm]; exact hbc1
    have hF6 : Fl (put G2 b5 ⟨matC p R w (some ⟨bc, 0, none⟩) (R * w) c2, true⟩) bc R w f := by
      obtain ⟨q, rs, h1, h2⟩ := hF
      exact ⟨q, rs, by rw [put_ne _ _ n5.symm]; exact h1, h2⟩
    have hH : RdG (put G1 b5 ⟨matC p R w (some ⟨bc, 0, none⟩) (R * w) c2, true⟩) bm b5 bc R w c2 := ⟨rd_sub sH f1, hM5.f3, (fun x => by rw [x, hbc1] at hbm; simp at hbm), n5⟩
    revert sH s6 hM5 nb hF6 hH
    generalize put G1 b5 ⟨matC p R w (some ⟨bc, 0, none⟩) (R * w) c2, true⟩ = H
    generalize put G2 b5 ⟨matC p R w (some ⟨bc, 0, none⟩) (R * w) c2, true⟩ = G3
    intro sH s6 hM5 nb hF6 hH
    have s7 := sH.trans s6
    simp (maxSteps := 300000) (disch := omega) only [gws, ↓reduceIte, reduceEqDiff, reduceToNat, reduceMul, reduceAdd, Nat.reduceBEq, isLd, rd_sub s7 f0, rd_sub s7 f1, rd_sub s7 f2, rd_sub s7 f3, gBs]
    refine ⟨by intro v hv; simp at hv, fun b8 hb8 => ?_⟩
    have hN8 := New.mk hb8 [] 1 0 rfl
    refine key H _ bc b5 c2 _ (P0 := some ⟨b8, 0, none⟩) hH nb sH hM5 (s6.trans (Sub.put hb8 _)) ?_ hN8.fresh (hN8.offs s6) ?_ (by simp (maxSteps := 300000) (disch := omega) only [gws, ↓reduceIte, reduceEqDiff, reduceToNat, reduceMul, reduceAdd, Nat.reduceBEq, isLd]) (by simp (maxSteps := 300000) (disch := omega) only [gws, ↓reduceIte, reduceEqDiff, reduceToNat, reduceMul, reduceAdd, Nat.reduceBEq, isLd]) (by simp (maxSteps := 300000) (disch := omega) only [gws, ↓reduceIte, reduceEqDiff, reduceToNat, reduceMul, reduceAdd, Nat.reduceBEq, isLd]) (by simp (maxSteps := 300000) (disch := omega) only [gws, ↓reduceIte, reduceEqDiff, reduceToNat, reduceMul, reduceAdd, Nat.reduceBEq, isLd]) (by simp (maxSteps := 300000) (disch := omega) only [gws, ↓reduceIte, reduceEqDiff, reduceToNat, reduceMul, reduceAdd, Nat.reduceBEq, isLd]) (by simp (maxSteps := 300000) (disch := omega) only [gws, ↓reduceIte, reduceEqDiff, reduceToNat, reduceMul, reduceAdd, Nat.reduceBEq, isLd] <;> rfl) (by simp (maxSteps := 300000) (disch := omega) only [gws, ↓reduceIte, reduceEqDiff, reduceToNat, reduceMul, reduceAdd, Nat.reduceBEq, isLd] <;> rfl) (by simp (maxSteps := 300000) (disch := omega) only [gws, ↓reduceIte, reduceEqDiff, reduceToNat, reduceMul, reduceAdd, Nat.reduceBEq, isLd] <;> rfl) (by simp (maxSteps := 300000) (disch := omega) only [gws, ↓reduceIte, reduceEqDiff, reduceToNat, reduceMul, reduceAdd, Nat.reduceBEq, isLd] <;> rfl)
    · obtain ⟨q, rs, h1, h2⟩ := hF6
      exact ⟨q, rs, Sub.put hb8 _ _ _ h1, h2⟩
    · obtain ⟨q, rs, h1, _⟩ := hF6
      exact hN8.nb h1
theorem flatL_one (n : Nat) (g : Int → Int → Int) : flatL n 1 g = rowL n fun i => g i 0 := by
  unfold flatL rowL
  rw [Nat.mul_one]
  refine List.map_congr_left fun v _ => ?_
  rw [Nat.div_one, Nat.mod_one]; rfl
theorem flatL_cong {R C : Nat} {f g : Int → Int → Int} (h : ∀ i j : Nat, i < R → j < C → f i j = g i j) : flatL R C f = flatL R C g := by
  unfold flatL
  refine List.map_congr_left fun v hv => ?_
  have hv := List.mem_range.1 hv
  have hC : 0 < C := by
    rcases Nat.eq_zero_or_pos C with h0 | h0
    · rw [h0] at hv; omega
    · exact h0
  exact h _ _ (Nat.div_lt_of_lt_mul (by rw [Nat.mul_comm]; exact hv)) (Nat.mod_lt _ hC)
theorem spec_l03Join2_ok {G : GH} {ba bb : Nat} {p : Int} {R w c d : Nat} {A B : Option Addr} {F : Int → Int → Int} (hA : MatB G ba p R w A (R * w) c) (hB : MatB G bb p R 1 B (R * 1) d) (hI : IntS G A c (flatL R w F)) (hJ : IntS G B d (flatL R 1 (fun i _ => F i w))) (hR : R ≤ 2 ^ 9) (hw : w ≤ 2 ^ 9) {K : Value → GH → Prop}
    (hk : ∀ G' A' c', Sub G G' → IntS G' A' c' (flatL R (w + 1) F) → K (matV p R (w + 1) A' (R * (w + 1)) c') G') : GC Tryz.prog 163 [.pointer (some ⟨ba, 0, none⟩), .pointer (some ⟨bb, 0, none⟩)] G K := by
  refine kx3 (by simp) ?_
  have hcA := hI.cap
  rw [flatL_len] at hcA
  have hcB := hJ.cap
  rw [flatL_len] at hcB
  simp (maxSteps := 300000) (disch := omega) only [gws, ↓reduceIte, reduceEqDiff, reduceToNat, reduceMul, reduceAdd, Nat.reduceBEq, isLd]
  intro b4 hb4
  have s4 := Sub.put hb4 ⟨[.int .i64 0, .int .i64 0, .int .i64 0, .slice none 0 0], true⟩
  have g4 : put G b4 ⟨[.int .i64 0, .int .i64 0, .int .i64 0, .slice none 0 0], true⟩ b4 = some ⟨[.int .i64 0, .int .i64 0, .int .i64 0, .slice none 0 0], true⟩ := put_same _ _ _
  revert s4 g4
  generalize put G b4 ⟨[.int .i64 0, .int .i64 0, .int .i64 0, .slice none 0 0], true⟩ = H
  intro s4 g4
  have hA := hA.sub s4
  have hB := hB.sub s4
  have hI := hI.sub s4
  have hJ := hJ.sub s4
  have a0 := hA.f0
  have a1 := hA.f1
  have a2 := hA.f2
  have a3 := hA.f3
  have q2 := hB.f2
  have q3 := hB.f3
  have ww := w64 ((w : Int) + ((1 : Nat) : Int)) (by omega) (by omega)
  have key : ∀ (G3 : GH) (b5 : Nat) (P0 : Option Addr) (T : Nat → Value), H b5 = none → Sub (put H b5 ⟨matC p R (w + 1) P0 0 0, true⟩) G3 → Off (put H b5 ⟨matC p R (w + 1) P0 0 0, true⟩) P0 → Own G3 P0 0 [] 1 0 →
      T 0 = .pointer (some ⟨ba, 0, none⟩) → T 1 = .pointer (some ⟨bb, 0, none⟩) → T 4 = .pointer (some ⟨b4, 0, none⟩) → T 5 = .pointer (some ⟨b5, 0, none⟩) → T 6 = .int .i64 0 →
      gLoop (gW Tryz.prog kwz) (BlkK 0 (SeqK (gW Tryz.prog (.seq (.reg kx0) .ret)) (RetK [.cn 4 4] K))) T G3 := by
    intro G3 b5 P0 T hb5 hS hO hW x0 x1 x4 x5 x6
    refine gLoop_intro (fun m T G' => ∃ (i : Nat) (Pl : Option Addr) (cl : Nat), T 0 = .pointer (some ⟨ba, 0, none⟩) ∧ T 1 = .pointer (some ⟨bb, 0, none⟩) ∧ T 4 = .pointer (some ⟨b4, 0, none⟩) ∧ T 5 = .pointer (some ⟨b5, 0, none⟩) ∧ T 6 = .int .i64 i ∧ m + i = R ∧ i ≤ R ∧
      Sub (put H b5 ⟨matC p R (w + 1) Pl (i * (w + 1)) cl, true⟩) G' ∧ Off (put H b5 ⟨matC p R (w + 1) Pl (i * (w + 1)) cl, true⟩) Pl ∧ Own G' Pl cl ((flatL i (w + 1) F).map I64) 1 (i * (w + 1))) R
      ⟨0, P0, 0, x0, x1, x4, x5, x6, by omega, by omega, by rw [Nat.zero_mul]; exact hS, by rw [Nat.zero_mul]; exact hO, by rw [Nat.zero_mul, flatL_zero]; exact hW⟩ ?_
    clear x0 x1 x4 x5 x6 hS hO hW
    rintro m T G' ⟨i, Pl, cl, x0, x1, x4, x5, x6, hm, hi, hS, hO, hW⟩
    have sH : Sub H G' := (Sub.put hb5 _).trans hS
    simp (maxSteps := 300000) (disch := omega) only [gws, ↓reduceIte, reduceEqDiff, reduceToNat, reduceMul, reduceAdd, Nat.reduceBEq, isLd, x0, x1, x4, x5, x6, rd_sub sH a1]
    by_cases hii : (i : Int) < R
    · have r3 : rd G' (some ⟨b5, 3, none⟩) = some (.slice Pl (i * (w + 1)) cl) := rd_sub hS (rd_box _ _ _ 3 _ rfl)
      have hbi := iw_bd (i := i) (w := w) (by omega) (by omega)
      have hbi1 := iw_bd (i := i + 1) (w := w) (by omega) (by omega)
      push_cast at hbi1
      have hiw1 : i * (w + 1) ≤ 2 ^ 10 * 2 ^ 10 := Nat.mul_le_mul (by omega) (by omega)
      have w1 := w64 ((i : Int) * w) (by omega) (by omega)
      have w2 := w64 ((i : Int) + 1) (by omega) (by omega)
      have w3 := w64 (((i : Int) + 1) * w) (by omega) (by omega)
      have w4 := w64 ((i : Int) * ((1 : Nat) : Int)) (by omega) (by omega)
      have w5 := w64 (((i : Int) + 1) * ((1 : Nat) : Int)) (by omega) (by omega)
      have sl1 := sl_row2 (A := A) (show i < R by omega) hcA
      have sl2 := sl_row (A := B) (C := 1) (show i < R by omega) (by omega) hcB
      rw [Nat.mul_one, Nat.mul_one] at sl2
      simp (maxSteps := 300000) (disch := omega) only [gws, ↓reduceIte, reduceEqDiff, reduceToNat, reduceMul, reduceAdd, Nat.reduceBEq, isLd, x0, x1, x4, x5, x6, hii, rd_sub sH a0, rd_sub sH a1, rd_sub sH a2, rd_sub sH a3, r3, w1, w2, w3, sl1]
      have hrow := row_ints2 (hI.sub sH) (show i < R by omega)
      refine ap_own hW (news := (rowL w (F i)).map I64) (m := w) hrow.cells (by simp [rowL_len]) (by intro v hv; obtain ⟨x, _, rfl⟩ := List.mem_map.1 hv; rfl) rfl (by omega) (by omega) (by omega) fun G3 P3 c3 hW3 keep => ?_
      obtain ⟨hS3, hO3⟩ := keep _ hS hO
      have sH3 : Sub H G3 := (Sub.put hb5 _).trans hS3
      simp (maxSteps := 300000) (disch := omega) only [gws, ↓reduceIte, reduceEqDiff, reduceToNat, reduceMul, reduceAdd, Nat.reduceBEq, isLd, x0, x1, x4, x5, x6, rd_sub sH3 a2, rd_sub sH3 a3]
      refine st_src (hS3 _ _ (put_same _ _ _)) rfl (by simp [matC]) fun G4 k4 g4' => ?_
      have hS4 : Sub (put H b5 ⟨matC p R (w + 1) P3 (i * (w + 1) + w) c3, true⟩) G4 := hS3.swap k4 g4'
      have hO4 : Off (put H b5 ⟨matC p R (w + 1) P3 (i * (w + 1) + w) c3, true⟩) P3 := hO3.put
      have hW4 := hW3.keep k4 hO3.pne
      have sH4 : Sub H G4 := (Sub.put hb5 _).trans hS4
      have r34 : rd G4 (some ⟨b5, 3, none⟩) = some (.slice P3 (i * (w + 1) + w) c3) := rd_sub hS4 (rd_box _ _ _ 3 _ rfl)
      clear hS hO hW hW3 keep hS3 hO3 hrow r3
      have hrow := row_ints (hJ.sub sH4) (show i < R by omega)
      rw [Nat.mul_one] at hrow
      have q3' := rd_sub sH4 q3
      rw [Nat.mul_one] at q3'
      simp (maxSteps := 300000) (disch := omega) only [gws, ↓reduceIte, reduceEqDiff, reduceToNat, reduceMul, reduceAdd, Nat.reduceBEq, isLd, x0, x1, x4, x5, x6, r34, rd_sub sH4 q2, q3', w4, w2, w5, sl2]
      refine ap_own hW4 (news := (rowL 1 (fun _ => F i w)).map I64) (m := 1) hrow.cells rfl (by intro v hv; obtain ⟨x, _, rfl⟩ := List.mem_map.1 hv; rfl) rfl (by omega) (by omega) (by omega) fun G5 P5 c5 hW5 keep => ?_
      obtain ⟨hS5, hO5⟩ := keep _ hS4 hO4
      have sH5 : Sub H G5 := (Sub.put hb5 _).trans hS5
      simp (maxSteps := 300000) (disch := omega) only [gws, ↓reduceIte, reduceEqDiff, reduceToNat, reduceMul, reduceAdd, Nat.reduceBEq, isLd, x0, x1, x4, x5, x6, rd_sub sH5 q2, rd_sub sH5 q3]
      refine st_src (hS5 _ _ (put_same _ _ _)) rfl (by simp [matC]) fun G6 k6 g6' => ?_
      have hlen : i * (w + 1) + w + 1 = (i + 1) * (w + 1) := by rw [Nat.add_mul i 1, Nat.one_mul]; omega
      have hS6 : Sub (put H b5 ⟨matC p R (w + 1) P5 (i * (w + 1) + w + 1) c5, true⟩) G6 := hS5.swap k6 g6'
      have hO6 : Off (put H b5 ⟨matC p R (w + 1) P5 (i * (w + 1) + w + 1) c5, true⟩) P5 := hO5.put
      have hW6 := hW5.keep k6 hO5.pne
      rw [hlen] at hS6 hO6 hW6
      simp (maxSteps := 300000) (disch := omega) only [gws, ↓reduceIte, reduceEqDiff, reduceToNat, reduceMul, reduceAdd, Nat.reduceBEq, isLd, x0, x1, x4, x5, x6, w2]
      refine ⟨m - 1, by omega, G6, Sub.refl _, i + 1, P5, c5, rfl, by omega, by omega, hS6, hO6, hW6.cast ?_ rfl⟩
      rw [flatL_succ, rowL_succ w (F i)]
      simp only [List.map_append, List.append_assoc]
      rfl
    · simp (maxSteps := 300000) (disch := omega) only [gws, ↓reduceIte, reduceEqDiff, reduceToNat, reduceMul, reduceAdd, Nat.reduceBEq, isLd, x0, x1, x4, x5, x6, hii]
      obtain rfl : i = R := by omega
      have r0 : rd G' (some ⟨b5, 0, none⟩) = some (.int .i64 p) := rd_sub hS (rd_box _ _ _ 0 _ rfl)
      have r1 : rd G' (some ⟨b5, 1, none⟩) = some (.int .i64 i) := rd_sub hS (rd_box _ _ _ 1 _ rfl)
      have r2 : rd G' (some ⟨b5, 2, none⟩) = some (.int .i64 ((w + 1 : Nat) : Int)) := rd_sub hS (rd_box _ _ _ 2 _ rfl)
      have r3 : rd G' (some ⟨b5, 3, none⟩) = some (.slice Pl (i * (w + 1)) cl) := rd_sub hS (rd_box _ _ _ 3 _ rfl)
      have n45 : b4 ≠ b5 := fun x => by rw [x, hb5] at g4; cases g4
      simp (maxSteps := 300000) (disch := omega) only [gws, ↓reduceIte, reduceEqDiff, reduceToNat, reduceMul, reduceAdd, Nat.reduceBEq, isLd, x4, x5, r0, r1, r2, r3]
      refine st_many (vs := matC p i (w + 1) Pl (i * (w + 1)) cl) rfl (sH _ _ g4) rfl (by simp) (matC_one _ _ _ _ _ _) ?_
      simp (maxSteps := 300000) (disch := omega) only [gws, ↓reduceIte, reduceEqDiff, reduceToNat, reduceMul, reduceAdd, Nat.reduceBEq, isLd, over, matC, x4]
      have oH : Off H Pl := hO.mono (Sub.put hb5 _)
      have nb : ∀ a, Pl = some a → a.block ≠ b4 := fun a ha x => by
        have := oH a ha
        rw [x, g4] at this; cases this
      exact hk _ _ _ ((s4.trans sH).skip hb4) ((hW.put nb _).ints' (by rw [flatL_len]))
  simp (maxSteps := 300000) (disch := omega) only [gws, ↓reduceIte, reduceEqDiff, reduceToNat, reduceMul, reduceAdd, Nat.reduceBEq, isLd, a0, a1, a2, a3, q2, q3, ww, gBs]
  have hbld : ∀ b8 : Nat, bldV [.int .i64 0, .int .i64 0, .int .i64 0, .slice none 0 0] [(0, 1, .int .i64 p), (1, 1, .int .i64 R), (2, 1, .int .i64 ((w : Int) + ((1 : Nat) : Int))), (3, 1, .slice (some ⟨b8, 0, none⟩) 0 0)] = some (matC p R (w + 1) (some ⟨b8, 0, none⟩) 0 0) := fun _ => rfl
  have fin : ∀ (G3 : GH) (b5 b8 : Nat), H b5 = none → H b8 = none → b8 ≠ b5 → Sub H G3 → G3 b8 = some ⟨[], true⟩ → ∀ T, T 0 = .pointer (some ⟨ba, 0, none⟩) → T 1 = .pointer (some ⟨bb, 0, none⟩) → T 4 = .pointer (some ⟨b4, 0, none⟩) → T 5 = .pointer (some ⟨b5, 0, none⟩) → T 6 = .int .i64 0 →
      gLoop (gW Tryz.prog kwz) (BlkK 0 (SeqK (gW Tryz.prog (.seq (.reg kx0) .ret)) (RetK [.cn 4 4] K))) T (put G3 b5 ⟨over [.int .i64 0, .int .i64 0, .int .i64 0, .slice none 0 0] 0 (matC p R (w + 1) (some ⟨b8, 0, none⟩) 0 0), true⟩) := by
    intro G3 b5 b8 hb5 hb8 hne s3 h8 T x0 x1 x4 x5 x6
    refine key _ b5 (some ⟨b8, 0, none⟩) T hb5 (Sub.both s3) (fun a ha => by cases ha; rw [put_ne _ _ hne]; exact hb8) (.inr ⟨b8, [], rfl, by rw [put_ne _ _ hne]; exact h8, rfl, rfl, Nat.le_refl _⟩) x0 x1 x4 x5 x6
  refine ⟨⟨by intro v hv; simp at hv, fun b8 hb8 => ?_⟩, fun b5 hb5 => ?_⟩
  · have s8 := Sub.put hb8 ⟨[], true⟩
    refine ⟨⟨rd_sub s8 q2, rd_sub s8 a2, rd_sub s8 a1, rd_sub s8 a0⟩, ?_⟩
    simp (maxSteps := 300000) (disch := omega) only [gws, ↓reduceIte, reduceEqDiff, reduceToNat, reduceMul, reduceAdd, Nat.reduceBEq, isLd, hbld]
    intro b5 hb5
    have s5 := s8.trans (Sub.put hb5 ⟨[.int .i64 0, .int .i64 0, .int .i64 0, .slice none 0 0], true⟩)
    refine ⟨⟨rd_sub s5 q2, rd_sub s5 a2, rd_sub s5 a1, rd_sub s5 a0, trivial⟩, ?_⟩
    have n8 : b8 ≠ b5 := blk_ne (put_same _ _ _) hb5
    refine st_many (vs := matC p R (w + 1) (some ⟨b8, 0, none⟩) 0 0) rfl (put_same _ _ _) rfl (by simp) (matC_one _ _ _ _ _ _) ?_
    simp (maxSteps := 300000) (disch := omega) only [gws, ↓reduceIte, reduceEqDiff, reduceToNat, reduceMul, reduceAdd, Nat.reduceBEq, isLd]
    refine fin _ b5 b8 (s8.none hb5) hb8 n8 s8 (put_same _ _ _) _ ?_ ?_ ?_ ?_ ?_
    · simp (maxSteps := 300000) (disch := omega) only [gws, ↓reduceIte, reduceEqDiff, reduceToNat, reduceMul, reduceAdd, Nat.reduceBEq, isLd]
    · simp (maxSteps := 300000) (disch := omega) only [gws, ↓reduceIte, reduceEqDiff, reduceToNat, reduceMul, reduceAdd, Nat.reduceBEq, isLd]
    · simp (maxSteps := 300000) (disch := omega) only [gws, ↓reduceIte, reduceEqDiff, reduceToNat, reduceMul, reduceAdd, Nat.reduceBEq, isLd]
    · simp (maxSteps := 300000) (disch := omega) only [gws, ↓reduceIte, reduceEqDiff, reduceToNat, reduceMul, reduceAdd, Nat.reduceBEq, isLd]
    · simp (maxSteps := 300000) (disch := omega) only [gws, ↓reduceIte, reduceEqDiff, reduceToNat, reduceMul, reduceAdd, Nat.reduceBEq, isLd] <;> rfl
  · have s5 := Sub.put hb5 ⟨[.int .i64 0, .int .i64 0, .int .i64 0, .slice none 0 0], true⟩
    refine ⟨⟨rd_sub s5 q2, rd_sub s5 a2, rd_sub s5 a1, rd_sub s5 a0, trivial⟩, by intro v hv; simp at hv, fun b8 hb8 => ?_⟩
    have s8 := s5.trans (Sub.put hb8 ⟨[], true⟩)
    refine ⟨⟨rd_sub s8 q2, rd_sub s8 a2, rd_sub s8 a1, rd_sub s8 a0, trivial⟩, ?_⟩
    simp (maxSteps := 300000) (disch := omega) only [gws, ↓reduceIte, reduceEqDiff, reduceToNat, reduceMul, reduceAdd, Nat.reduceBEq, isLd, hbld]
    have n8 : b8 ≠ b5 := (blk_ne (put_same _ _ _) hb8).symm
    refine st_many (vs := matC p R (w + 1) (some ⟨b8, 0, none⟩) 0 0) rfl (by rw [put_ne _ _ n8.symm]; exact put_same _ _ _) rfl (by simp) (matC_one _ _ _ _ _ _) ?_
    simp (maxSteps := 300000) (disch := omega) only [gws, ↓reduceIte, reduceEqDiff, reduceToNat, reduceMul, reduceAdd, Nat.reduceBEq, isLd]
    refine fin _ b5 b8 hb5 (s5.none hb8) n8 s8 (put_same _ _ _) _ (by simp (maxSteps := 300000) (disch := omega) only [gws, ↓reduceIte, reduceEqDiff, reduceToNat, reduceMul, reduceAdd, Nat.reduceBEq, isLd]) (by simp (maxSteps := 300000) (disch := omega) only [gws, ↓reduceIte, reduceEqDiff, reduceToNat, reduceMul, reduceAdd, Nat.reduceBEq, isLd]) (by simp (maxSteps := 300000) (disch := omega) only [gws, ↓reduceIte, reduceEqDiff, reduceToNat, reduceMul, reduceAdd, Nat.reduceBEq, isLd]) (by simp (maxSteps := 300000) (disch := omega) only [gws, ↓reduceIte, reduceEqDiff, reduceToNat, reduceMul, reduceAdd, Nat.reduceBEq, isLd]) (by simp (maxSteps := 300000) (disch := omega) only [gws, ↓reduceIte, reduceEqDiff, reduceToNat, reduceMul, reduceAdd, Nat.reduceBEq, isLd] <;> rfl)
theorem spec_l03SolveP_ok {G : GH} {bm : Nat} {p : Int} {A Bb : Option Addr} {R n c cb : Nat} {F : Int → Int → Int} (hM : MatB G bm p R n A (R * n) c) (h : IntS G A c (flatL R n F)) (hb : IntS G Bb cb (rowL R fun i => F i n)) (hR : 0 < R ∧ R < 2 ^ 8) (hn : n < 2 ^ 8) (hr : Rng F p) (hp : 1 < p ∧ p ≤ 251) {K : Value → GH → Prop}
    (h0 : (n : Int) ∈ (elF p R F (n + 1)).piv → K (.tuple [.slice none 0 0, .bool false].toArray) G)
    (h1 : ¬ (n : Int) ∈ (elF p R F (n + 1)).piv → ∀ G' b, Sub G G' → G b = none → G' b = some ⟨fcells n (solX (elF p R F (n + 1)) n (elF p R F (n + 1)).piv.length), true⟩ → K (.tuple [.slice (some ⟨b, 0, none⟩) n n, .bool true].toArray) G') :
    GC Tryz.prog 122 [.pointer (some ⟨bm, 0, none⟩), .slice Bb R cb] G K := by
  refine GC_drop (kzk (by simp) ?_)
  have a0 := hM.f0
  have a1 := hM.f1
  have a2 := hM.f2
  have hbld : bldV [.int .i64 0, .int .i64 0, .int .i64 0, .slice none 0 0] [(0, 1, .int .i64 p), (1, 1, .int .i64 R), (2, 1, .int .i64 1), (3, 1, .slice Bb R cb)] = some (matC p R 1 Bb R cb) := rfl
  simp (maxSteps := 300000) (disch := omega) only [gws, ↓reduceIte, reduceEqDiff, reduceToNat, reduceMul, reduceAdd, Nat.reduceBEq, isLd, a0, a1, hbld]
  intro b6 hb6
  have s6 := Sub.put hb6 ⟨[.int .i64 0, .int .i64 0, .int .i64 0, .slice none 0 0], true⟩
  simp (maxSteps := 300000) (disch := omega) only [gws, ↓reduceIte, reduceEqDiff, reduceToNat, reduceMul, reduceAdd, Nat.reduceBEq, isLd, rd_sub s6 a0, rd_sub s6 a1]
  refine st_many (vs := matC p R 1 Bb R cb) rfl (put_same _ _ _) rfl (by simp) (matC_one _ _ _ _ _ _) ?_
  rw [put_put']
  have hM6 : MatB (put G b6 ⟨matC p R 1 Bb R cb, true⟩) b6 p R 1 Bb R cb := MatB.box G b6 p R 1 Bb R cb
  have s7 : Sub G (put G b6 ⟨matC p R 1 Bb R cb, true⟩) := Sub.put hb6 _
  rw [show over [Value.int .i64 0, .int .i64 0, .int .i64 0, .slice none 0 0] 0 (matC p R 1 Bb R cb) = matC p R 1 Bb R cb from rfl]
  revert hM6 s7
  generalize put G b6 ⟨matC p R 1 Bb R cb, true⟩ = G1
  intro hM6 s7
  simp (maxSteps := 300000) (disch := omega) only [gws, ↓reduceIte, reduceEqDiff, reduceToNat, reduceMul, reduceAdd, Nat.reduceBEq, isLd]
  refine spec_l03Join2_ok (F := F) (hM.sub s7) (by rw [Nat.mul_one]; exact hM6) (h.sub s7) (by rw [flatL_one]; exact hb.sub s7) (by omega) (by omega) fun G2 A2 c2 s2 hI2 => ?_
  simp (maxSteps := 300000) (disch := omega) only [gws, ↓reduceIte, reduceEqDiff, reduceToNat, reduceMul, reduceAdd, Nat.reduceBEq, isLd]
  intro b7 hb7
  simp (maxSteps := 300000) (disch := omega) only [gws, ↓reduceIte, reduceEqDiff, reduceToNat, reduceMul, reduceAdd, Nat.reduceBEq, isLd]
  refine st_many (vs := matC p R (n + 1) A2 (R * (n + 1)) c2) rfl (put_same _ _ _) rfl (by simp) (matC_one _ _ _ _ _ _) ?_
  rw [put_put']
  rw [show over [Value.int .i64 0, .int .i64 0, .int .i64 0, .slice none 0 0] 0 (matC p R (n + 1) A2 (R * (n + 1)) c2) = matC p R (n + 1) A2 (R * (n + 1)) c2 from rfl]
  have hM7 := MatB.box G2 b7 p R (n + 1) A2 (R * (n + 1)) c2
  have s8 := Sub.put hb7 ⟨matC p R (n + 1) A2 (R * (n + 1)) c2, true⟩
  revert hM7 s8
  generalize put G2 b7 ⟨matC p R (n + 1) A2 (R * (n + 1)) c2, true⟩ = G3
  intro hM7 s8
  simp (maxSteps := 300000) (disch := omega) only [gws, ↓reduceIte, reduceEqDiff, reduceToNat, reduceMul, reduceAdd, Nat.reduceBEq, isLd]
  refine spec_l03Reduced_ok hM7 (hI2.sub s8) ⟨hR.1, by omega⟩ ⟨by omega, by omega⟩ hr hp fun G4 bc cc P cq d s9 hF hP => ?_
  simp (maxSteps := 300000) (disch := omega) only [gws, ↓reduceIte, reduceEqDiff, reduceToNat, reduceMul, reduceAdd, Nat.reduceBEq, isLd]
  intro b8 hb8
  simp (maxSteps := 300000) (disch := omega) only [gws, ↓reduceIte, reduceEqDiff, reduceToNat, reduceMul, reduceAdd, Nat.reduceBEq, isLd]
  refine st_many (vs := matC p R (n + 1) (some ⟨bc, 0, none⟩) (R * (n + 1)) cc) rfl (put_same _ _ _) rfl (by simp) (matC_one _ _ _ _ _ _) ?_
  rw [put_put']
  rw [show over [Value.int .i64 0, .int .i64 0, .int .i64 0, .slice none 0 0] 0 (matC p R (n + 1) (some ⟨bc, 0, none⟩) (R * (n + 1)) cc) = matC p R (n + 1) (some ⟨bc, 0, none⟩) (R * (n + 1)) cc from rfl]
  have hM8 := MatB.box G4 b8 p R (n + 1) (some ⟨bc, 0, none⟩) (R * (n + 1)) cc
  have s10 := Sub.put hb8 ⟨matC p R (n + 1) (some ⟨bc, 0, none⟩) (R * (n + 1)) cc, true⟩
  have hM7 := (hM7.sub s9).sub s10
  have hPi := hP.ints.sub s10
  have hF8 : Fl (put G4 b8 ⟨matC p R (n + 1) (some ⟨bc, 0, none⟩) (R * (n + 1)) cc, true⟩) bc R (n + 1) (elF p R F (n + 1)).f := by
    obtain ⟨q, rs, g1, g2⟩ := hF
    exact ⟨q, rs, s10 _ _ g1, g2⟩
  have sA := s7.trans (s2.trans (s8.trans (s9.trans s10)))
  revert hM7 hM8 hPi hF8 sA s10
  generalize put G4 b8 ⟨matC p R (n + 1) (some ⟨bc, 0, none⟩) (R * (n + 1)) cc, true⟩ = G5
  intro hM8 s10 hM7 hPi hF8 sA
  have hM := hM.sub sA
  have hpl := elF_len p R F (n + 1)
  have hpb := elF_piv p R F (n + 1)
  generalize elF p R F (n + 1) = E at *
  have a2 := hM.f2
  have m72 := hM7.f2
  have m83 := hM8.f3
  simp (maxSteps := 300000) (disch := omega) only [gws, ↓reduceIte, reduceEqDiff, reduceToNat, reduceMul, reduceAdd, Nat.reduceBEq, isLd, a2]
  refine ⟨n, n, rfl, rfl, Nat.le_refl _, by omega, by omega, fun bx hbx => ?_⟩
  have hz : zc [.int .i64 0] n = fcells n (solX E n 0) := by rw [zc_one, rep_range]; rfl
  rw [hz]
  simp (maxSteps := 300000) (disch := omega) only [gws, ↓reduceIte, reduceEqDiff, reduceToNat, reduceMul, reduceAdd, Nat.reduceBEq, isLd]
  refine gLoop_intro (fun m T G' => ∃ j : Nat, T 0 = .pointer (some ⟨bm, 0, none⟩) ∧ T 7 = .pointer (some ⟨b7, 0, none⟩) ∧ T 8 = .pointer (some ⟨b8, 0, none⟩) ∧ T 9 = .slice P E.piv.length cq ∧ T 11 = .slice (some ⟨bx, 0, none⟩) n n ∧ T 12 = .int .i64 j ∧ m + j = E.piv.length ∧ j ≤ E.piv.length ∧ Sub G5 G' ∧ G' bx = some ⟨fcells n (solX E n j), true⟩ ∧ ∀ i, i < j → E.piv.getD i 0 ≠ n)
    E.piv.length ⟨0, by simp (maxSteps := 300000) (disch := omega) only [gws, ↓reduceIte, reduceEqDiff, reduceToNat, reduceMul, reduceAdd, Nat.reduceBEq, isLd], by simp (maxSteps := 300000) (disch := omega) only [gws, ↓reduceIte, reduceEqDiff, reduceToNat, reduceMul, reduceAdd, Nat.reduceBEq, isLd], by simp (maxSteps := 300000) (disch := omega) only [gws, ↓reduceIte, reduceEqDiff, reduceToNat, reduceMul, reduceAdd, Nat.reduceBEq, isLd], by simp (maxSteps := 300000) (disch := omega) only [gws, ↓reduceIte, reduceEqDiff, reduceToNat, reduceMul, reduceAdd, Nat.reduceBEq, isLd], by simp (maxSteps := 300000) (disch := omega) only [gws, ↓reduceIte, reduceEqDiff, reduceToNat, reduceMul, reduceAdd, Nat.reduceBEq, isLd], by simp (maxSteps := 300000) (disch := omega) only [gws, ↓reduceIte, reduceEqDiff, reduceToNat, reduceMul, reduceAdd, Nat.reduceBEq, isLd] <;> rfl, by omega, by omega, Sub.put hbx _, put_same _ _ _, fun i hi => by omega⟩ ?_
  rintro m T G' ⟨j, e0, e7, e8, e9, e11, e12, hm, hjm, s6, hX, hne⟩
  have g2 := rd_sub s6 a2
  simp (maxSteps := 300000) (disch := omega) only [gws, ↓reduceIte, reduceEqDiff, reduceToNat, reduceMul, reduceAdd, Nat.reduceBEq, isLd, e0, e7, e8, e9, e11, e12]
  by_cases hjj : (j : Int) < E.piv.length
  · have hpj := (hPi.sub s6).rd j (by omega)
    have hsP := hPi.sn (by omega)
    have hpbj := hpb j (by omega)
    simp (maxSteps := 300000) (disch := omega) only [gws, ↓reduceIte, reduceEqDiff, reduceToNat, reduceMul, reduceAdd, Nat.reduceBEq, isLd, e0, e7, e8, e9, e11, e12, hjj, hpj, g2]
    by_cases hpn : E.piv.getD j 0 = n
    · simp (maxSteps := 300000) (disch := omega) only [gws, ↓reduceIte, reduceEqDiff, reduceToNat, reduceMul, reduceAdd, Nat.reduceBEq, isLd, eq_true hpn]
      exact ⟨G, sA.trans s6, h0 (by rw [← hpn]; simp [List.getD, show j < E.piv.length by omega])⟩
    · have hF' : Fl G' bc R (n + 1) E.f := by
        obtain ⟨q, rs, g1, g2⟩ := hF8
        exact ⟨q, rs, s6 _ _ g1, g2⟩
      have hc := hF'.rd (i := j) (j := n) (by omega) (by omega)
      have h1 := flat_lt (R := R) (w := n + 1) (i := j) (j := n) (by omega) (by omega)
      have h2 := flat_nn j n (n + 1)
      have hbt := iw_bd (i := j) (w := n + 1) (by omega) (by omega)
      have w3 := w64 ((j : Int) * ((n + 1 : Nat) : Int)) (by omega) (by omega)
      have w4 := w64 ((j : Int) * ((n + 1 : Nat) : Int) + n) (by omega) (by omega)
      simp (maxSteps := 300000) (disch := omega) only [gws, ↓reduceIte, reduceEqDiff, reduceToNat, reduceMul, reduceAdd, Nat.reduceBEq, isLd, eq_false hpn, e0, e7, e8, e9, e11, e12, hpj, g2, rd_sub s6 m72, rd_sub s6 m83, w3, w4, hc]
      refine st_fcells hX (v := E.piv.getD j 0) (by omega) (by omega) fun G7 hX7 hK7 => ?_
      simp (maxSteps := 300000) (disch := omega) only [gws, ↓reduceIte, reduceEqDiff, reduceToNat, reduceMul, reduceAdd, Nat.reduceBEq, isLd, e0, e7, e8, e9, e11, e12]
      exact ⟨m - 1, by omega, G7, Sub.refl _, j + 1, rfl, by omega, by omega, sub_keep hK7 hbx s6, hX7, fun i hi => by
        by_cases e : i = j
        · rw [e]; exact hpn
        · exact hne i (by omega)⟩
  · simp (maxSteps := 300000) (disch := omega) only [gws, ↓reduceIte, reduceEqDiff, reduceToNat, reduceMul, reduceAdd, Nat.reduceBEq, isLd, e0, e7, e8, e9, e11, e12, hjj]
    obtain rfl : j = E.piv.length := by omega
    have sG := sA.trans s6
    refine ⟨G', Sub.refl _, h1 (fun hmem => ?_) G' bx sG (sA.none hbx) hX⟩
    obtain ⟨i, hi, e⟩ := List.mem_iff_getElem.1 hmem
    exact hne i hi (by simp [List.getD, hi, e])
theorem spec_l03Reduced0_ok {G : GH} {bm : Nat} {p : Int} {w c : Nat} {A : Option Addr} (hM : MatB G bm p 0 w A 0 c) (hw : w ≤ 2 ^ 10) {K : Value → GH → Prop}
    (hk : ∀ G' D dc P cq d, Sub G G' → K (.tuple [matV p 0 w D 0 dc, .slice P 0 cq, .int .i64 d].toArray) G') :
    GC Tryz.prog 164 [.pointer (some ⟨bm, 0, none⟩)] G K := by
  refine kyr (by simp) ?_
  simp (maxSteps := 300000) (disch := omega) only [gws, ↓reduceIte, reduceEqDiff, reduceToNat, reduceMul, reduceAdd, Nat.reduceBEq, isLd]
  intro b2 hb2
  have s2 := Sub.put hb2 ⟨[.int .i64 0, .int .i64 0, .int .i64 0, .slice none 0 0], true⟩
  have g2 : put G b2 ⟨[.int .i64 0, .int .i64 0, .int .i64 0, .slice none 0 0], true⟩ b2 = some ⟨[.int .i64 0, .int .i64 0, .int .i64 0, .slice none 0 0], true⟩ := put_same _ _ _
  revert s2 g2
  generalize put G b2 ⟨[.int .i64 0, .int .i64 0, .int .i64 0, .slice none 0 0], true⟩ = G1
  intro s2 g2
  have hM1 := hM.sub s2
  have f0 := hM1.f0
  have f1 := hM1.f1
  have f2 := hM1.f2
  have f3 := hM1.f3
  have hI : IntS G1 A c ([] : List Int) := ⟨Nat.zero_le _, fun i hi => by simp at hi⟩
  simp (maxSteps := 300000) (disch := omega) only [gws, ↓reduceIte, reduceEqDiff, reduceToNat, reduceMul, reduceAdd, Nat.reduceBEq, isLd, f0, f1, f2, f3]
  have key : ∀ (G3 : GH) (b5 c2 : Nat) (A2 : Option Addr) (P0 : Option Addr) (T : Nat → Value), Sub G1 G3 → MatB G3 b5 p 0 w A2 0 c2 →
      T 0 = .pointer (some ⟨bm, 0, none⟩) → T 2 = .pointer (some ⟨b2, 0, none⟩) → T 5 = .pointer (some ⟨b5, 0, none⟩) → T 7 = .int .i64 w → T 8 = .slice P0 0 0 → T 9 = .int .i64 1 → T 10 = .int .i64 0 → T 11 = .int .i64 0 →
      gLoop (gW Tryz.prog kyn) (BlkK 0 (SeqK (gW Tryz.prog (.seq (.reg kyo) .ret)) (RetK [.cn 2 4, .t 3, .t 4] K))) T G3 := by
    intro G3 b5 c2 A2 P0 T s3 hM5 x0 x2 x5 x7 x8 x9 x10 x11
    refine gLoop_intro (fun m T' G' => T' = T ∧ G' = G3) 0 ⟨rfl, rfl⟩ ?_
    rintro m T' G' ⟨rfl, rfl⟩
    have m0 := hM5.f0
    have m1 := hM5.f1
    have m2 := hM5.f2
    have m3 := hM5.f3
    have hf1 := rd_sub s3 f1
    simp (maxSteps := 300000) (disch := omega) only [gws, ↓reduceIte, reduceEqDiff, reduceToNat, reduceMul, reduceAdd, Nat.reduceBEq, isLd, x0, x2, x5, x7, x8, x9, x10, x11]
    by_cases h0 : (0 : Int) < w
    · simp (maxSteps := 300000) (disch := omega) only [gws, ↓reduceIte, reduceEqDiff, reduceToNat, reduceMul, reduceAdd, Nat.reduceBEq, isLd, h0, x0, x2, x5, x7, x8, x9, x10, x11, hf1, m0, m1, m2, m3, show ((0 : Int) < ((0 : Nat) : Int)) = False from eq_false (by decide)]
      refine st_many (vs := matC p 0 w A2 0 c2) rfl (s3 _ _ g2) rfl (by simp) (matC_one _ _ _ _ _ _) ?_
      simp (maxSteps := 300000) (disch := omega) only [gws, ↓reduceIte, reduceEqDiff, reduceToNat, reduceMul, reduceAdd, Nat.reduceBEq, isLd, over, matC, x2, x5, x8, x9]
      exact hk _ A2 c2 P0 0 1 ((s2.trans s3).skip hb2)
    · simp (maxSteps := 300000) (disch := omega) only [gws, ↓reduceIte, reduceEqDiff, reduceToNat, reduceMul, reduceAdd, Nat.reduceBEq, isLd, h0, x0, x2, x5, x7, x8, x9, x10, x11, m0, m1, m2, m3]
      refine st_many (vs := matC p 0 w A2 0 c2) rfl (s3 _ _ g2) rfl (by simp) (matC_one _ _ _ _ _ _) ?_
      simp (maxSteps := 300000) (disch := omega) only [gws, ↓reduceIte, reduceEqDiff, reduceToNat, reduceMul, reduceAdd, Nat.reduceBEq, isLd, over, matC, x2, x5, x8, x9]
      exact hk _ A2 c2 P0 0 1 ((s2.trans s3).skip hb2)
  have hbld : ∀ (D : Option Addr) (c2 : Nat), bldV [.int .i64 0, .int .i64 0, .int .i64 0, .slice none 0 0] [(0, 1, .int .i64 p), (1, 1, .int .i64 ((0 : Nat) : Int)), (2, 1, .int .i64 w), (3, 1, .slice D 0 c2)] = some (matC p 0 w D 0 c2) := fun _ _ => rfl
  refine ⟨?_, ?_⟩
  · refine spec_l00Own_ok hI (by simp) fun G2 A2 c2 hN => ?_
    simp only [List.length_nil]
    have sN := hN.sub
    simp (maxSteps := 300000) (disch := omega) only [gws, ↓reduceIte, reduceEqDiff, reduceToNat, reduceMul, reduceAdd, Nat.reduceBEq, isLd, rd_sub sN f0, rd_sub sN f1, rd_sub sN f2, rd_sub sN f3, hbld]
    intro b5 hb5
    have s5 := sN.trans (Sub.put hb5 ⟨[.int .i64 0, .int .i64 0, .int .i64 0, .slice none 0 0], true⟩)
    simp (maxSteps := 300000) (disch := omega) only [gws, ↓reduceIte, reduceEqDiff, reduceToNat, reduceMul, reduceAdd, Nat.reduceBEq, isLd, rd_sub s5 f0, rd_sub s5 f1, rd_sub s5 f2, rd_sub s5 f3]
    refine st_many (vs := matC p 0 w A2 0 c2) rfl (put_same _ _ _) rfl (by simp) (matC_one _ _ _ _ _ _) ?_
    rw [put_put', show over [Value.int .i64 0, .int .i64 0, .int .i64 0, .slice none 0 0] 0 (matC p 0 w A2 0 c2) = matC p 0 w A2 0 c2 from rfl]
    have hM5 := MatB.box G2 b5 p 0 w A2 0 c2
    have s7 := sN.trans (Sub.put hb5 ⟨matC p 0 w A2 0 c2, true⟩)
    revert hM5 s7
    generalize put G2 b5 ⟨matC p 0 w A2 0 c2, true⟩ = G3
    intro hM5 s7
    simp (maxSteps := 300000) (disch := omega) only [gws, ↓reduceIte, reduceEqDiff, reduceToNat, reduceMul, reduceAdd, Nat.reduceBEq, isLd, rd_sub s7 f0, rd_sub s7 f1, rd_sub s7 f2, rd_sub s7 f3, gBs]
    refine ⟨by intro v hv; simp at hv, fun b8 hb8 => ?_⟩
    have s8 := Sub.put hb8 ⟨[], true⟩
    exact key _ b5 c2 A2 (some ⟨b8, 0, none⟩) _ (s7.trans s8) (hM5.sub s8) (by simp (maxSteps := 300000) (disch := omega) only [gws, ↓reduceIte, reduceEqDiff, reduceToNat, reduceMul, reduceAdd, Nat.reduceBEq, isLd]) (by simp (maxSteps := 300000) (disch := omega) only [gws, ↓reduceIte, reduceEqDiff, reduceToNat, reduceMul, reduceAdd, Nat.reduceBEq, isLd]) (by simp (maxSteps := 300000) (disch := omega) only [gws, ↓reduceIte, reduceEqDiff, reduceToNat, reduceMul, reduceAdd, Nat.reduceBEq, isLd]) (by simp (maxSteps := 300000) (disch := omega) only [gws, ↓reduceIte, reduceEqDiff, reduceToNat, reduceMul, reduceAdd, Nat.reduceBEq, isLd]) (by simp (maxSteps := 300000) (disch := omega) only [gws, ↓reduceIte, reduceEqDiff, reduceToNat, reduceMul, reduceAdd, Nat.reduceBEq, isLd] <;> rfl) (by simp (maxSteps := 300000) (disch := omega) only [gws, ↓reduceIte, reduceEqDiff, reduceToNat, reduceMul, reduceAdd, Nat.reduceBEq, isLd] <;> rfl) (by simp (maxSteps := 300000) (disch := omega) only [gws, ↓reduceIte, reduceEqDiff, reduceToNat, reduceMul, reduceAdd, Nat.reduceBEq, isLd] <;> rfl) (by simp (maxSteps := 300000) (disch := omega) only [gws, ↓reduceIte, reduceEqDiff, reduceToNat, reduceMul, reduceAdd, Nat.reduceBEq, isLd] <;> rfl)
  · intro b5 hb5
    have s5 := Sub.put hb5 ⟨[.int .i64 0, .int .i64 0, .int .i64 0, .slice none 0 0], true⟩
    simp (maxSteps := 300000) (disch := omega) only [gws, ↓reduceIte, reduceEqDiff, reduceToNat, reduceMul, reduceAdd, Nat.reduceBEq, isLd, rd_sub s5 f0, rd_sub s5 f1, rd_sub s5 f2, rd_sub s5 f3]
    refine spec_l00Own_ok (hI.sub s5) (by simp) fun G2 A2 c2 hN => ?_
    simp only [List.length_nil]
    have sN := s5.trans hN.sub
    have g5 := hN.sub _ _ (put_same _ _ _)
    simp (maxSteps := 300000) (disch := omega) only [gws, ↓reduceIte, reduceEqDiff, reduceToNat, reduceMul, reduceAdd, Nat.reduceBEq, isLd, rd_sub sN f0, rd_sub sN f1, rd_sub sN f2, rd_sub sN f3, hbld]
    refine st_many (vs := matC p 0 w A2 0 c2) rfl g5 rfl (by simp) (matC_one _ _ _ _ _ _) ?_
    rw [show over [Value.int .i64 0, .int .i64 0, .int .i64 0, .slice none 0 0] 0 (matC p 0 w A2 0 c2) = matC p 0 w A2 0 c2 from rfl]
    have hM5 := MatB.box G2 b5 p 0 w A2 0 c2
    have s7 : Sub G1 (put G2 b5 ⟨matC p 0 w A2 0 c2, true⟩) := sN.skip hb5
    revert hM5 s7
    generalize put G2 b5 ⟨matC p 0 w A2 0 c2, true⟩ = G3
    intro hM5 s7
    simp (maxSteps := 300000) (disch := omega) only [gws, ↓reduceIte, reduceEqDiff, reduceToNat, reduceMul, reduceAdd, Nat.reduceBEq, isLd, rd_sub s7 f0, rd_sub s7 f1, rd_sub s7 f2, rd_sub s7 f3, gBs]
    refine ⟨by intro v hv; simp at hv, fun b8 hb8 => ?_⟩
    have s8 := Sub.put hb8 ⟨[], true⟩
    exact key _ b5 c2 A2 (some ⟨b8, 0, none⟩) _ (s7.trans s8) (hM5.sub s8) (by simp (maxSteps := 300000) (disch := omega) only [gws, ↓reduceIte, reduceEqDiff, reduceToNat, reduceMul, reduceAdd, Nat.reduceBEq, isLd]) (by simp (maxSteps := 300000) (disch := omega) only [gws, ↓reduceIte, reduceEqDiff, reduceToNat, reduceMul, reduceAdd, Nat.reduceBEq, isLd]) (by simp (maxSteps := 300000) (disch := omega) only [gws, ↓reduceIte, reduceEqDiff, reduceToNat, reduceMul, reduceAdd, Nat.reduceBEq, isLd]) (by simp (maxSteps := 300000) (disch := omega) only [gws, ↓reduceIte, reduceEqDiff, reduceToNat, reduceMul, reduceAdd, Nat.reduceBEq, isLd]) (by simp (maxSteps := 300000) (disch := omega) only [gws, ↓reduceIte, reduceEqDiff, reduceToNat, reduceMul, reduceAdd, Nat.reduceBEq, isLd] <;> rfl) (by simp (maxSteps := 300000) (disch := omega) only [gws, ↓reduceIte, reduceEqDiff, reduceToNat, reduceMul, reduceAdd, Nat.reduceBEq, isLd] <;> rfl) (by simp (maxSteps := 300000) (disch := omega) only [gws, ↓reduceIte, reduceEqDiff, reduceToNat, reduceMul, reduceAdd, Nat.reduceBEq, isLd] <;> rfl) (by simp (maxSteps := 300000) (disch := omega) only [gws, ↓reduceIte, reduceEqDiff, reduceToNat, reduceMul, reduceAdd, Nat.reduceBEq, isLd] <;> rfl)
theorem spec_l03SolveRC_ok {G : GH} {bm : Nat} {p : Int} {A Bb : Option Addr} {R n c cb : Nat} {F : Int → Int → Int} (hM : MatB G bm p R n A (R * n) c) (h : IntS G A c (flatL R n F)) (hb : IntS G Bb cb (rowL R fun i => F i n)) (hR : R < 2 ^ 8) (hn : n < 2 ^ 8) (hr : Rng F p) (hp : 1 < p ∧ p ≤ 251) {K : Value → GH → Prop}
    (h0 : (n : Int) ∈ (elF p R F (n + 1)).piv → K (.tuple [.slice none 0 0, .bool false].toArray) G)
    (h1 : ¬ (n : Int) ∈ (elF p R F (n + 1)).piv → ∀ G' b, Sub G G' → G b = none → G' b = some ⟨fcells n (solX (elF p R F (n + 1)) n (elF p R F (n + 1)).piv.length), true⟩ → K (.tuple [.slice (some ⟨b, 0, none⟩) n n, .bool true].toArray) G') :
    GC Tryz.prog 122 [.pointer (some ⟨bm, 0, none⟩), .slice Bb R cb] G K := by
  by_cases hR0 : R = 0
  rotate_left
  · exact spec_l03SolveP_ok hM h hb ⟨by omega, hR⟩ hn hr hp h0 h1
  subst hR0
  rw [Nat.zero_mul] at hM
  refine GC_drop (kzk (by simp) ?_)
  have e0 := elF_R0 p F (n + 1)
  have a0 := hM.f0
  have a1 := hM.f1
  have a2 := hM.f2
  have hbld : bldV [.int .i64 0, .int .i64 0, .int .i64 0, .slice none 0 0] [(0, 1, .int .i64 p), (1, 1, .int .i64 ((0 : Nat) : Int)), (2, 1, .int .i64 1), (3, 1, .slice Bb 0 cb)] = some (matC p 0 1 Bb 0 cb) := rfl
  simp (maxSteps := 300000) (disch := omega) only [gws, ↓reduceIte, reduceEqDiff, reduceToNat, reduceMul, reduceAdd, Nat.reduceBEq, isLd, a0, a1, hbld]
  intro b6 hb6
  have s6 := Sub.put hb6 ⟨[.int .i64 0, .int .i64 0, .int .i64 0, .slice none 0 0], true⟩
  simp (maxSteps := 300000) (disch := omega) only [gws, ↓reduceIte, reduceEqDiff, reduceToNat, reduceMul, reduceAdd, Nat.reduceBEq, isLd, rd_sub s6 a0, rd_sub s6 a1]
  refine st_many (vs := matC p 0 1 Bb 0 cb) rfl (put_same _ _ _) rfl (by simp) (matC_one _ _ _ _ _ _) ?_
  rw [put_put']
  have hM6 : MatB (put G b6 ⟨matC p 0 1 Bb 0 cb, true⟩) b6 p 0 1 Bb 0 cb := MatB.box G b6 p 0 1 Bb 0 cb
  have s7 : Sub G (put G b6 ⟨matC p 0 1 Bb 0 cb, true⟩) := Sub.put hb6 _
  rw [show over [Value.int .i64 0, .int .i64 0, .int .i64 0, .slice none 0 0] 0 (matC p 0 1 Bb 0 cb) = matC p 0 1 Bb 0 cb from rfl]
  revert hM6 s7
  generalize put G b6 ⟨matC p 0 1 Bb 0 cb, true⟩ = G1
  intro hM6 s7
  simp (maxSteps := 300000) (disch := omega) only [gws, ↓reduceIte, reduceEqDiff, reduceToNat, reduceMul, reduceAdd, Nat.reduceBEq, isLd]
  refine spec_l03Join2_ok (R := 0) (w := n) (F := F) (by rw [Nat.zero_mul]; exact hM.sub s7) (by rw [Nat.zero_mul]; exact hM6) (h.sub s7) (by rw [flatL_one]; exact hb.sub s7) (by omega) (by omega) fun G2 A2 c2 s2 hI2 => ?_
  rw [Nat.zero_mul]
  simp (maxSteps := 300000) (disch := omega) only [gws, ↓reduceIte, reduceEqDiff, reduceToNat, reduceMul, reduceAdd, Nat.reduceBEq, isLd]
  intro b7 hb7
  simp (maxSteps := 300000) (disch := omega) only [gws, ↓reduceIte, reduceEqDiff, reduceToNat, reduceMul, reduceAdd, Nat.reduceBEq, isLd]
  refine st_many (vs := matC p 0 (n + 1) A2 0 c2) rfl (put_same _ _ _) rfl (by simp) (matC_one _ _ _ _ _ _) ?_
  rw [put_put']
  rw [show over [Value.int .i64 0, .int .i64 0, .int .i64 0, .slice none 0 0] 0 (matC p 0 (n + 1) A2 0 c2) = matC p 0 (n + 1) A2 0 c2 from rfl]
  have hM7 := MatB.box G2 b7 p 0 (n + 1) A2 0 c2
  have s8 := Sub.put hb7 ⟨matC p 0 (n + 1) A2 0 c2, true⟩
  revert hM7 s8
  generalize put G2 b7 ⟨matC p 0 (n + 1) A2 0 c2, true⟩ = G3
  intro hM7 s8
  simp (maxSteps := 300000) (disch := omega) only [gws, ↓reduceIte, reduceEqDiff, reduceToNat, reduceMul, reduceAdd, Nat.reduceBEq, isLd]
  refine spec_l03Reduced0_ok hM7 (by omega) fun G4 D dc P cq d s9 => ?_
  simp (maxSteps := 300000) (disch := omega) only [gws, ↓reduceIte, reduceEqDiff, reduceToNat, reduceMul, reduceAdd, Nat.reduceBEq, isLd]
  intro b8 hb8
  simp (maxSteps := 300000) (disch := omega) only [gws, ↓reduceIte, reduceEqDiff, reduceToNat, reduceMul, reduceAdd, Nat.reduceBEq, isLd]
  refine st_many (vs := matC p 0 (n + 1) D 0 dc) rfl (put_same _ _ _) rfl (by simp) (matC_one _ _ _ _ _ _) ?_
  rw [put_put']
  rw [show over [Value.int .i64 0, .int .i64 0, .int .i64 0, .slice none 0 0] 0 (matC p 0 (n + 1) D 0 dc) = matC p 0 (n + 1) D 0 dc from rfl]
  have s10 := Sub.put hb8 ⟨matC p 0 (n + 1) D 0 dc, true⟩
  have sA := s7.trans (s2.trans (s8.trans (s9.trans s10)))
  revert sA s10
  generalize put G4 b8 ⟨matC p 0 (n + 1) D 0 dc, true⟩ = G5
  intro s10 sA
  have a2 := rd_sub sA a2
  simp (maxSteps := 300000) (disch := omega) only [gws, ↓reduceIte, reduceEqDiff, reduceToNat, reduceMul, reduceAdd, Nat.reduceBEq, isLd, a2]
  refine ⟨n, n, rfl, rfl, Nat.le_refl _, by omega, by omega, fun bx hbx => ?_⟩
  have hz : zc [.int .i64 0] n = fcells n (solX (elF p 0 F (n + 1)) n (elF p 0 F (n + 1)).piv.length) := by rw [e0, zc_one, rep_range]; rfl
  rw [hz]
  simp (maxSteps := 300000) (disch := omega) only [gws, ↓reduceIte, reduceEqDiff, reduceToNat, reduceMul, reduceAdd, Nat.reduceBEq, isLd]
  have sx := Sub.put hbx ⟨fcells n (solX (elF p 0 F (n + 1)) n (elF p 0 F (n + 1)).piv.length), true⟩
  have gxx := put_same G5 bx ⟨fcells n (solX (elF p 0 F (n + 1)) n (elF p 0 F (n + 1)).piv.length), true⟩
  revert sx gxx
  generalize put G5 bx ⟨fcells n (solX (elF p 0 F (n + 1)) n (elF p 0 F (n + 1)).piv.length), true⟩ = G6
  intro sx gxx
  refine gLoop_intro (fun m T G' => T 9 = .slice P 0 cq ∧ T 11 = .slice (some ⟨bx, 0, none⟩) n n ∧ T 12 = .int .i64 0 ∧ G' = G6) 0 ⟨by simp (maxSteps := 300000) (disch := omega) only [gws, ↓reduceIte, reduceEqDiff, reduceToNat, reduceMul, reduceAdd, Nat.reduceBEq, isLd], by simp (maxSteps := 300000) (disch := omega) only [gws, ↓reduceIte, reduceEqDiff, reduceToNat, reduceMul, reduceAdd, Nat.reduceBEq, isLd], by simp (maxSteps := 300000) (disch := omega) only [gws, ↓reduceIte, reduceEqDiff, reduceToNat, reduceMul, reduceAdd, Nat.reduceBEq, isLd] <;> rfl, rfl⟩ ?_
  rintro m T G' ⟨e9, e11, e12, rfl⟩
  simp (maxSteps := 300000) (disch := omega) only [gws, ↓reduceIte, reduceEqDiff, reduceToNat, reduceMul, reduceAdd, Nat.reduceBEq, isLd, e9, e11, e12, show ((0 : Int) < ((0 : Nat) : Int)) = False from eq_false (by decide)]
  exact ⟨_, Sub.refl _, h1 (by rw [e0]; simp) _ bx (sA.trans sx) (sA.none hbx) gxx⟩
def seg (a : Int) (k : Nat) : List Int := (List.range k).map fun j : Nat => a + j
theorem seg_succ (a : Int) (k : Nat) : seg a (k + 1) = seg a k ++ [a + k] := by simp [seg, List.range_succ]
theorem seg_len (a : Int) (k : Nat) : (seg a k).length = k := by simp [seg]
/-- the columns of the first vertices of a list. -/
def colsN (s : Shf) (ws : List Int) : Nat → List Int
  | 0 => []
  | n + 1 => colsN s ws n ++ seg (fcol s (ws.getD n 0).toNat) (s.st.getD (ws.getD n 0).toNat 0).toNat
def colsL (s : Shf) (ws : List Int) : List Int := colsN s ws ws.length
/-- readings, 0 in some places. -/
def kz (x L : List Int) : List Int := L.foldl (fun l c => l.set c.toNat 0) x
theorem kz_snoc (x L : List Int) (c : Int) : kz x (L ++ [c]) = (kz x L).set c.toNat 0 := by simp [kz, List.foldl_append]
theorem kz_len (x : List Int) : ∀ L : List Int, (kz x L).length = x.length := by
  intro L
  unfold kz
  induction L generalizing x with
  | nil => rfl
  | cons a r ih => rw [List.foldl_cons, ih]; simp
theorem kz_bd {x : List Int} {M : Int} (hM : 0 ≤ M) (hx : InB x 0 M) : ∀ L, InB (kz x L) 0 M := by
  intro L
  unfold kz
  induction L generalizing x with
  | nil => exact hx
  | cons a r ih =>
    rw [List.foldl_cons]
    refine ih fun i hi => ?_
    rw [List.length_set] at hi
    by_cases e : a.toNat = i
    · subst e
      rw [show (x.set a.toNat 0).getD a.toNat 0 = 0 by simp [List.getD, hi]]
      omega
    · rw [show (x.set a.toNat 0).getD i 0 = x.getD i 0 by simp [List.getD, List.getElem?_set, e]]
      exact hx i hi
/-- what a vertex of a list is. -/
theorem vt_at {s : Shf} (hs : ShOk s) {ws : List Int} (hw : VtOk s ws) {n : Nat} (hn : n < ws.length) : ∃ v : Nat, ws.getD n 0 = v ∧ v < s.base.length ∧ 0 ≤ fcol s v ∧ fcol s v + s.st.getD v 0 ≤ nC s ∧ 0 ≤ s.st.getD v 0 ∧ s.st.getD v 0 ≤ 3 := by
  have hb := hw.2 n hn
  obtain ⟨v, hv⟩ : ∃ v : Nat, ws.getD n 0 = v := ⟨(ws.getD n 0).toNat, by omega⟩
  have hvl : v < (vsN s.base s.base.length).length := by omega
  obtain ⟨_, h2, h3⟩ := vs_get hs.b hvl
  have hl : (s.base.getD v []).length = 1 := by rw [h3]; rfl
  have h4 := fcol_nn hs.st v
  have h5 := fcol_end hs.st h2 (by omega)
  rw [show dimS s v = 0 by unfold dimS; omega] at h5
  have h6 := (nC_eq hs).1
  have h7 := hs.st.2.1 v (by have := hs.st.1; omega)
  exact ⟨v, hv, h2, h4, by omega, h7.1, h7.2⟩
theorem rise_len' {xs : List Int} {m : Nat} (h : Rise xs) (b : InB xs 0 ((m : Int) - 1)) : xs.length ≤ m := by
  apply Classical.byContradiction; intro c
  have hge : ∀ i, i < xs.length → (i : Int) ≤ xs.getD i 0 := by
    intro i
    induction i with
    | zero => intro hi; exact (b 0 hi).1
    | succ i ih => intro hi; have := ih (by omega); have := h i (by omega); omega
  have := hge m (by omega)
  have := (b m (by omega)).2
  omega
theorem vt_n {s : Shf} (hs : ShOk s) {ws : List Int} (hw : VtOk s ws) : ws.length ≤ 48 := by
  have := rise_len' hw.1 hw.2
  have := vs_len hs.b
  omega
theorem colsN_len {s : Shf} (hs : ShOk s) {ws : List Int} (hw : VtOk s ws) : ∀ n, n ≤ ws.length → (colsN s ws n).length ≤ 3 * n
  | 0, _ => by simp [colsN]
  | n + 1, hn => by
    have ih := colsN_len hs hw n (by omega)
    obtain ⟨v, hv, _, _, _, h5, h6⟩ := vt_at hs hw (n := n) (by omega)
    rw [colsN, hv, List.length_append, seg_len, Int.toNat_natCast]; omega
theorem colsN_bd {s : Shf} (hs : ShOk s) {ws : List Int} (hw : VtOk s ws) : ∀ n, n ≤ ws.length → ∀ c ∈ colsN s ws n, 0 ≤ c ∧ c < nC s
  | 0, _ => by simp [colsN]
  | n + 1, hn => by
    have ih := colsN_bd hs hw n (by omega)
    obtain ⟨v, hv, _, h3, h4, h5, h6⟩ := vt_at hs hw (n := n) (by omega)
    intro c hc
    rw [colsN, hv, Int.toNat_natCast, List.mem_append] at hc
    rcases hc with hc | hc
    · exact ih c hc
    · unfold seg at hc
      obtain ⟨j, hj, rfl⟩ := List.mem_map.1 hc
      have := List.mem_range.1 hj
      omega
theorem wB_rg {p : Int} {F g : Int → Int → Int} (hF : Rng F p) (hg : Rng g p) (top left : Int) (a : Nat) : ∀ b, Rng (wB F g top left a b) p
  | 0 => hF
  | b + 1 => fun i j => by
    show 0 ≤ upd2 (wB F g top left a b) (top + a) (left + b) (g a b) i j ∧ upd2 (wB F g top left a b) (top + a) (left + b) (g a b) i j < p
    unfold upd2; split
    · exact hg _ _
    · exact wB_rg hF hg top left a b i j
theorem wA_rg {p : Int} {F g : Int → Int → Int} (hF : Rng F p) (hg : Rng g p) (top left : Int) (C : Nat) : ∀ a, Rng (wA F g top left C a) p
  | 0 => hF
  | a + 1 => wB_rg (wA_rg hF hg top left C a) hg top left a C
theorem gF_rg {s : Shf} (hp : 2 ≤ s.p) (e i : Nat) : Rng (gF s e i) s.p := fun a b => ⟨Int.emod_nonneg _ (by omega), Int.emod_lt_of_pos _ (by omega)⟩
theorem wFa_rg {s : Shf} (hp : 2 ≤ s.p) {F : Int → Int → Int} (hF : Rng F s.p) (e : Nat) : ∀ i, Rng (wFa s F e i) s.p
  | 0 => hF
  | i + 1 => wA_rg (wFa_rg hp hF e i) (gF_rg hp e i) _ _ _ _
theorem wE_rg {s : Shf} (hp : 2 ≤ s.p) : ∀ n, Rng (wE s n) s.p
  | 0 => fun i j => ⟨Int.le_refl _, by show (0 : Int) < s.p; omega⟩
  | n + 1 => wFa_rg hp (wE_rg hp n) _ _
theorem cobF_rg {s : Shf} (hp : 2 ≤ s.p) : Rng (cobF s) s.p := wE_rg hp _
/-- what the repair has to reach. -/
def goalF (s : Shf) (k : List Int) (i : Int) : Int := (-(dsum (cobF s i) (colF k) (nC s) % s.p)) % s.p
/-- the system of equations of a repair. -/
def repF (s : Shf) (x ws : List Int) : Int → Int → Int := fun i j => if j < (colsL s ws).length then cobF s i ((colsL s ws).getD j.toNat 0) else goalF s (kz x (colsL s ws)) i
theorem repF_rg {s : Shf} (hp : 2 ≤ s.p) (x ws : List Int) : Rng (repF s x ws) s.p := fun i j => by
  unfold repF
  split
  · exact cobF_rg hp _ _
  · exact ⟨Int.emod_nonneg _ (by omega), Int.emod_lt_of_pos _ (by omega)⟩
noncomputable def repE (s : Shf) (x ws : List Int) : ElS := elF s.p (nR s) (repF s x ws) ((colsL s ws).length + 1)
/-- a repair can be done. -/
def RepP (s : Shf) (x ws : List Int) : Prop := ¬ ((colsL s ws).length : Int) ∈ (repE s x ws).piv
noncomputable def repY (s : Shf) (x ws : List Int) : Int → Int := solX (repE s x ws) (colsL s ws).length (repE s x ws).piv.length
/-- values are put into some places. -/
def kyN (L : List Int) (y : Int → Int) (k : List Int) : Nat → List Int
  | 0 => k
  | n + 1 => (kyN L y k n).set (L.getD n 0).toNat (y n)
theorem kyN_len (L : List Int) (y : Int → Int) (k : List Int) : ∀ n, (kyN L y k n).length = k.length
  | 0 => rfl
  | n + 1 => by rw [kyN, List.length_set]; exact kyN_len L y k n
noncomputable def repV (s : Shf) (x ws : List Int) : List Int := kyN (colsL s ws) (repY s x ws) (kz x (colsL s ws)) (colsL s ws).length
theorem repV_len (s : Shf) (x ws : List Int) : (repV s x ws).length = x.length := by unfold repV; rw [kyN_len, kz_len]
/-- two lists of one's own, besides what stays known. -/
structure RQ (D G : GH) (B Kp : Option Addr) (c kc : Nat) (cols kept : List Int) : Prop where
  sub : Sub D G
  own : Own G B c (cols.map I64) 1 cols.length
  kep : Own G Kp kc (kept.map I64) 1 kept.length
  dB : Off D B
  dK : Off D Kp
  dj : ∀ a b, B = some a → Kp = some b → a.block ≠ b.block
theorem RQ.up {D G G2 : GH} {B Kp : Option Addr} {c kc : Nat} {cols kept : List Int} (h : RQ D G B Kp c kc cols kept) (s : Sub G G2) : RQ D G2 B Kp c kc cols kept := ⟨h.sub.trans s, h.own.sub s, h.kep.sub s, h.dB, h.dK, h.dj⟩
/-- what is known besides two lists. -/
def rem2 (G : GH) (B Kp : Option Addr) : GH := wz (wz G B) Kp
theorem rem2_ne {G : GH} {B Kp : Option Addr} {x : Nat} (h1 : ∀ a, B = some a → a.block ≠ x) (h2 : ∀ a, Kp = some a → a.block ≠ x) : rem2 G B Kp x = G x := by unfold rem2; rw [wz_ne h2, wz_ne h1]
theorem RQ.grow {D G G2 : GH} {B Kp : Option Addr} {c kc : Nat} {cols kept : List Int} (h : RQ D G B Kp c kc cols kept) (s : Sub G G2) : RQ (rem2 G2 B Kp) G2 B Kp c kc cols kept ∧ Sub D (rem2 G2 B Kp) ∧ Sub (rest G G2) (rem2 G2 B Kp) := by
  refine ⟨⟨(Sub.wz _ _).trans (Sub.wz _ _), h.own.sub s, h.kep.sub s, fun a ha => ?_, Off.wz _ _, h.dj⟩, fun x e hx => ?_, fun x e hx => ?_⟩
  · cases hr : rem2 G2 B Kp a.block with
    | none => rfl
    | some y => (have h1 := Sub.wz _ _ _ _ hr; have := Off.wz G2 B a ha; rw [h1] at this; cases this)
  · rw [rem2_ne (fun a ha e' => by have := h.dB a ha; rw [e', hx] at this; cases this) (fun a ha e' => by have := h.dK a ha; rw [e', hx] at this; cases this)]
    exact s _ _ (h.sub _ _ hx)
  · obtain ⟨q1, q2⟩ := rest_some.1 hx
    rw [rem2_ne (fun a ha e' => by have := own_ne h.own a ha; rw [e'] at this; exact this q1) (fun a ha e' => by have := own_ne h.kep a ha; rw [e'] at this; exact this q1)]
    exact q2
theorem RQ.push {D G : GH} {B Kp X : Option Addr} {c kc d : Nat} {cols kept : List Int} {v : Int} (h : RQ D G B Kp c kc cols kept) (hn : Cells G X [.int .i64 v]) (hl : cols.length < 2 ^ 30) {K : Value → GH → Prop}
    (hK : ∀ G' B' c', RQ D G' B' Kp c' kc (cols ++ [v]) kept → K (.slice B' (cols.length + 1) c') G') : gAp 1 8 [.int .i64 0] (.slice B cols.length c) (.slice X 1 d) G K := by
  refine ap_own h.own (news := [.int .i64 v]) (m := 1) hn rfl (by intro u hu; simp at hu; subst hu; rfl) rfl (by omega) (by omega) (by omega) fun G' B' c' hO keep => ?_
  obtain ⟨s1, o1⟩ := keep D h.sub h.dB
  obtain ⟨s2, o2⟩ := keep _ (Sub.wz G B) (Off.wz G B)
  have hk2 : Own (wz G B) Kp kc (kept.map I64) 1 kept.length := h.kep.wz fun a b ha hb e => h.dj b a hb ha e.symm
  refine hK G' B' c' ⟨s1, hO.cast (by simp [I64]) (by simp), hk2.sub s2, o1, h.dK, fun a b ha hb e => ?_⟩
  have h3 := own_ne hk2 b hb
  rw [← e] at h3
  exact h3 (o2 a ha)
theorem RQ.store {D G : GH} {B Kp : Option Addr} {c kc i : Nat} {cols kept : List Int} {v : Int} (h : RQ D G B Kp c kc cols kept) (hi : i < kept.length) {K : Value → GH → Prop} (hK : ∀ G', RQ D G' B Kp c kc cols (kept.set i v) → K undef G') : gSt 1 (.pointer (pa Kp i)) (.int .i64 v) G K := by
  refine h.kep.storeG (by omega) rfl fun G' ho u => hK G' ⟨u.sub h.sub fun x ⟨a, ha, hx⟩ => by rw [← hx]; exact h.dK a ha, h.own.oth u fun a ha ⟨b, hb, hx⟩ => h.dj a b ha hb hx.symm, ?_, h.dB, h.dK, h.dj⟩
  refine ho.cast ?_ (by simp)
  rw [List.map_set]; rfl
/-- a box beside the lists is written. -/
theorem RQ.boxed {D G G' : GH} {b : Nat} {e e' : Ent} {B Kp : Option Addr} {c kc : Nat} {cols kept : List Int} (h : RQ (put D b e) G B Kp c kc cols kept) (k : Keep b G G') (g : G' b = some e') : RQ (put D b e') G' B Kp c kc cols kept :=
  ⟨h.sub.swap k g, h.own.keep k h.dB.pne, h.kep.keep k h.dK.pne, h.dB.put, h.dK.put, h.dj⟩
def SameB (T' T : Nat → Value) : Prop := ∀ l, l ≤ 13 ∨ (15 ≤ l ∧ l ≤ 34) → T' l = T l
def SameC (T' T : Nat → Value) : Prop := ∀ l, l ≤ 11 ∨ (15 ≤ l ∧ l ≤ 26) → T' l = T l
theorem rp_l0 {D G : GH} {b3 b10 n kc v : Nat} {Kp : Option Addr} {m : ShM} {s : Shf} {x L : List Int} {T : Nat → Value} {Q : Cont} (hP : ShP D (some ⟨b3, 0, none⟩) m s) (hs : ShOk s) (hd : D b10 = none) (hv : v < s.base.length) (h0 : 0 ≤ fcol s v) (h1 : fcol s v + s.st.getD v 0 ≤ n) (h2 : 0 ≤ s.st.getD v 0) (hn : n = x.length) (hn2 : n ≤ 2 ^ 10) (hL : L.length ≤ 2 ^ 10)
    {B : Option Addr} {c : Nat} (hQ0 : RQ (put D b10 ⟨[.slice B L.length c], true⟩) G B Kp c kc L (kz x L))
    (t3 : T 3 = .pointer (some ⟨b3, 0, none⟩)) (t9 : T 9 = .slice Kp n kc) (t10 : T 10 = .pointer (some ⟨b10, 0, none⟩)) (t12 : T 12 = .int .i64 v) (t13 : T 13 = .int .i64 (fcol s v)) (t14 : T 14 = .int .i64 (fcol s v))
    (hQ : ∀ T' G' B' c', SameB T' T → RQ (put D b10 ⟨[.slice B' (L ++ seg (fcol s v) (s.st.getD v 0).toNat).length c'], true⟩) G' B' Kp c' kc (L ++ seg (fcol s v) (s.st.getD v 0).toNat) (kz x (L ++ seg (fcol s v) (s.st.getD v 0).toNat)) → Q (.ex 2) T' G') : gLoop (gW Tryz.prog kdn) Q T G := by
  obtain ⟨a, ha⟩ : ∃ a : Nat, fcol s v = a := ⟨(fcol s v).toNat, by omega⟩
  obtain ⟨k, hk⟩ : ∃ k : Nat, s.st.getD v 0 = k := ⟨(s.st.getD v 0).toNat, by omega⟩
  rw [ha, hk] at h1
  rw [ha] at t13 t14 hQ
  rw [hk, Int.toNat_natCast] at hQ
  have hst := hs.st.1
  have hk3 := (hs.st.2.1 v (by omega)).2
  refine gLoop_intro (fun mm T' G' => ∃ (j : Nat) (B : Option Addr) (c : Nat), SameB T' T ∧ T' 14 = .int .i64 ((a + j : Nat) : Int) ∧ mm + j = k ∧ j ≤ k ∧ RQ (put D b10 ⟨[.slice B (L ++ seg a j).length c], true⟩) G' B Kp c kc (L ++ seg a j) (kz x (L ++ seg a j))) k
    ⟨0, B, c, fun _ _ => rfl, t14, by omega, by omega, by rw [show seg a 0 = [] from rfl, List.append_nil]; exact hQ0⟩ ?_
  clear hQ0
  rintro mm T1 G1 ⟨j, B, c, hT, e14, hm, hj, hR⟩
  have e3 : T1 3 = .pointer (some ⟨b3, 0, none⟩) := (hT 3 (by omega)).trans t3
  have e9 : T1 9 = .slice Kp n kc := (hT 9 (by omega)).trans t9
  have e10 : T1 10 = .pointer (some ⟨b10, 0, none⟩) := (hT 10 (by omega)).trans t10
  have e12 : T1 12 = .int .i64 v := (hT 12 (by omega)).trans t12
  have e13 : T1 13 = .int .i64 a := (hT 13 (by omega)).trans t13
  have hP1 := hP.sub ((Sub.put hd _).trans hR.sub)
  obtain ⟨f0, f1, f2, f3⟩ := hP1.b
  have rs := hP1.g.st.rd v (by omega)
  rw [hk] at rs
  have hssn := hP1.g.st.sn (by omega)
  have w1 := w64 ((a : Int) + k) (by omega) (by omega)
  simp (maxSteps := 300000) (disch := omega) only [gws, ↓reduceIte, reduceEqDiff, reduceToNat, reduceMul, reduceAdd, Nat.reduceBEq, isLd, e3, e9, e10, e12, e13, e14, f2, rs, w1]
  by_cases hjj : ((a + j : Nat) : Int) < (a : Int) + k
  · have r10 : rd G1 (some ⟨b10, 0, none⟩) = some (.slice B (L ++ seg a j).length c) := rd_sub hR.sub (rd_box _ _ _ 0 _ rfl)
    have hll : (L ++ seg a j).length = L.length + j := by rw [List.length_append, seg_len]
    simp (maxSteps := 300000) (disch := omega) only [gws, ↓reduceIte, reduceEqDiff, reduceToNat, reduceMul, reduceAdd, Nat.reduceBEq, isLd, e3, e9, e10, e12, e13, e14, hjj, r10, gBs]
    refine ⟨fun u hu => (by simp at hu; subst hu; rfl), fun b4 hb4 => ?_⟩
    have s4 := Sub.put hb4 ⟨[.int .i64 ((a + j : Nat) : Int)], true⟩
    refine (hR.up s4).push (v := ((a + j : Nat) : Int)) (cells_one [.int .i64 ((a + j : Nat) : Int)] true) (by omega) fun G2 B2 c2 hR2 => ?_
    simp (maxSteps := 300000) (disch := omega) only [gws, ↓reduceIte, reduceEqDiff, reduceToNat, reduceMul, reduceAdd, Nat.reduceBEq, isLd, e3, e9, e10, e12, e13, e14]
    have g10 := hR2.sub _ _ (put_same _ _ _)
    refine st_src g10 rfl (by simp) fun G3 k3 g3 => ?_
    have hR3 := hR2.boxed k3 g3
    rw [List.set_cons_zero] at hR3
    have hsg : L ++ seg a (j + 1) = (L ++ seg a j) ++ [((a + j : Nat) : Int)] := by rw [seg_succ, List.append_assoc]; rfl
    have hsl : (L ++ seg a (j + 1)).length = (L ++ seg a j).length + 1 := by rw [hsg, List.length_append]; rfl
    have hksn := hR3.kep.ints.sn (by rw [kz_len]; omega)
    simp (maxSteps := 300000) (disch := omega) only [gws, ↓reduceIte, reduceEqDiff, reduceToNat, reduceMul, reduceAdd, Nat.reduceBEq, isLd, e3, e9, e10, e12, e13, e14]
    refine hR3.store (i := a + j) (by rw [kz_len]; omega) fun G4 hR4 => ?_
    have hkz : (kz x (L ++ seg a j)).set (a + j) 0 = kz x (L ++ seg a (j + 1)) := by rw [hsg, kz_snoc, Int.toNat_natCast]
    rw [hkz, ← hsg, ← hsl] at hR4
    have w2 := w64 (((a + j : Nat) : Int) + 1) (by omega) (by omega)
    simp (maxSteps := 300000) (disch := omega) only [gws, ↓reduceIte, reduceEqDiff, reduceToNat, reduceMul, reduceAdd, Nat.reduceBEq, isLd, e14, w2]
    refine ⟨mm - 1, by omega, G4, Sub.refl _, j + 1, B2, c2, fun l hl => ?_, rfl, by omega, by omega, hR4⟩
    repeat first | rw [upd_app, if_neg (by omega)] | rw [if_neg (by omega)]
    exact hT l hl
  · obtain rfl : j = k := by omega
    simp (maxSteps := 300000) (disch := omega) only [gws, ↓reduceIte, reduceEqDiff, reduceToNat, reduceMul, reduceAdd, Nat.reduceBEq, isLd, e3, e9, e10, e12, e13, e14, hjj]
    refine hQ _ _ B c (fun l hl => ?_) hR
    repeat rw [upd_app, if_neg (by omega)]
    exact hT l hl
theorem rp_l1 {D G : GH} {b3 b10 n kc w : Nat} {Kp W : Option Addr} {m : ShM} {s : Shf} {x ws : List Int} {T : Nat → Value} {Q : Cont} (hP : ShP D (some ⟨b3, 0, none⟩) m s) (hs : ShOk s) (hd : D b10 = none) (hw : IntS D W w ws) (hv : VtOk s ws) (hn : n = x.length) (hnc : n = nC s)
    {B : Option Addr} {c : Nat} (hQ0 : RQ (put D b10 ⟨[.slice B 0 c], true⟩) G B Kp c kc [] x)
    (t3 : T 3 = .pointer (some ⟨b3, 0, none⟩)) (t9 : T 9 = .slice Kp n kc) (t10 : T 10 = .pointer (some ⟨b10, 0, none⟩)) (t25 : T 25 = .slice W ws.length w) (t26 : T 26 = .int .i64 ws.length) (t27 : T 27 = .int .i64 0)
    (hQ : ∀ T' G' B' c', SameC T' T → RQ (put D b10 ⟨[.slice B' (colsL s ws).length c'], true⟩) G' B' Kp c' kc (colsL s ws) (kz x (colsL s ws)) → Q (.ex 0) T' G') : gLoop (gW Tryz.prog kdp) Q T G := by
  have hwl := vt_n hs hv
  have hcn := (nC_eq hs).2
  have hwn := hw.sn
  refine gLoop_intro (fun mm T' G' => ∃ (i : Nat) (B : Option Addr) (c : Nat), SameC T' T ∧ T' 27 = .int .i64 i ∧ mm + i = ws.length ∧ i ≤ ws.length ∧ RQ (put D b10 ⟨[.slice B (colsN s ws i).length c], true⟩) G' B Kp c kc (colsN s ws i) (kz x (colsN s ws i))) ws.length
    ⟨0, B, c, fun _ _ => rfl, t27, by omega, by omega, hQ0⟩ ?_
  clear hQ0
  rintro mm T1 G1 ⟨i, B, c, hT, e27, hm, hi, hR⟩
  have e3 : T1 3 = .pointer (some ⟨b3, 0, none⟩) := (hT 3 (by omega)).trans t3
  have e9 : T1 9 = .slice Kp n kc := (hT 9 (by omega)).trans t9
  have e10 : T1 10 = .pointer (some ⟨b10, 0, none⟩) := (hT 10 (by omega)).trans t10
  have e25 : T1 25 = .slice W ws.length w := (hT 25 (by omega)).trans t25
  have e26 : T1 26 = .int .i64 ws.length := (hT 26 (by omega)).trans t26
  have sD := (Sub.put hd _).trans hR.sub
  have hP1 := hP.sub sD
  obtain ⟨f0, f1, f2, f3⟩ := hP1.b
  simp (maxSteps := 300000) (disch := omega) only [gws, ↓reduceIte, reduceEqDiff, reduceToNat, reduceMul, reduceAdd, Nat.reduceBEq, isLd, e26, e27]
  by_cases hii : (i : Int) < ws.length
  · obtain ⟨v, hv1, hv2, hv3, hv4, hv5, hv6⟩ := vt_at hs hv (n := i) (by omega)
    have rw1 := (hw.sub sD).rd i (by omega)
    rw [hv1] at rw1
    have hcl := colsN_len hs hv i (by omega)
    have hstep : colsN s ws (i + 1) = colsN s ws i ++ seg (fcol s v) (s.st.getD v 0).toNat := by rw [colsN, hv1, Int.toNat_natCast]
    simp (maxSteps := 300000) (disch := omega) only [gws, ↓reduceIte, reduceEqDiff, reduceToNat, reduceMul, reduceAdd, Nat.reduceBEq, isLd, e3, e9, e10, e25, e26, e27, hii, rw1, f0, f1, f2, f3]
    refine impl_firstColumn_ok (m := m) (s := s) (k := v) hP1.g hs.b hs.st hv2 ?_
    simp (maxSteps := 300000) (disch := omega) only [gws, ↓reduceIte, reduceEqDiff, reduceToNat, reduceMul, reduceAdd, Nat.reduceBEq, isLd, e3, e9, e10, e25, e26, e27]
    refine rp_l0 (n := n) (v := v) (x := x) (L := colsN s ws i) hP hs hd hv2 hv3 (by omega) hv5 hn (by omega) (by omega) hR (by simp (maxSteps := 300000) (disch := omega) only [gws, ↓reduceIte, reduceEqDiff, reduceToNat, reduceMul, reduceAdd, Nat.reduceBEq, isLd, e3]) (by simp (maxSteps := 300000) (disch := omega) only [gws, ↓reduceIte, reduceEqDiff, reduceToNat, reduceMul, reduceAdd, Nat.reduceBEq, isLd, e9]) (by simp (maxSteps := 300000) (disch := omega) only [gws, ↓reduceIte, reduceEqDiff, reduceToNat, reduceMul, reduceAdd, Nat.reduceBEq, isLd, e10]) (by simp (maxSteps := 300000) (disch := omega) only [gws, ↓reduceIte, reduceEqDiff, reduceToNat, reduceMul, reduceAdd, Nat.reduceBEq, isLd]) (by simp (maxSteps := 300000) (disch := omega) only [gws, ↓reduceIte, reduceEqDiff, reduceToNat, reduceMul, reduceAdd, Nat.reduceBEq, isLd]) (by simp (maxSteps := 300000) (disch := omega) only [gws, ↓reduceIte, reduceEqDiff, reduceToNat, reduceMul, reduceAdd, Nat.reduceBEq, isLd]) fun T' G' B' c' hT' hR' => ?_
    rw [← hstep] at hR'
    have u27 : T' 27 = .int .i64 i := by rw [hT' 27 (by omega)]; simp (maxSteps := 300000) (disch := omega) only [gws, ↓reduceIte, reduceEqDiff, reduceToNat, reduceMul, reduceAdd, Nat.reduceBEq, isLd, e27]
    have hT2 : SameC T' T := fun l hl => by
      rw [hT' l (by omega)]
      repeat rw [upd_app, if_neg (by omega)]
      exact hT l hl
    simp (maxSteps := 300000) (disch := omega) only [gws, ↓reduceIte, reduceEqDiff, reduceToNat, reduceMul, reduceAdd, Nat.reduceBEq, isLd, u27]
    refine ⟨mm - 1, by omega, G', Sub.refl _, i + 1, B', c', fun l hl => ?_, rfl, by omega, by omega, hR'⟩
    repeat first | rw [upd_app, if_neg (by omega)] | rw [if_neg (by omega)]
    exact hT2 l hl
  · obtain rfl : i = ws.length := by omega
    simp (maxSteps := 300000) (disch := omega) only [gws, ↓reduceIte, reduceEqDiff, reduceToNat, reduceMul, reduceAdd, Nat.reduceBEq, isLd, e26, e27, hii]
    refine hQ _ _ B c (fun l hl => ?_) hR
    repeat rw [upd_app, if_neg (by omega)]
    exact hT l hl
def SameU (T' T : Nat → Value) : Prop := ∀ l, l ≤ 18 → T' l = T l
theorem goal_neg {p g : Int} : (0 + (p - 1) * g) % p = (-g) % p := by
  have : 0 + (p - 1) * g = -g + p * g := by rw [Int.sub_mul]; omega
  rw [this, Int.add_mul_emod_self_left]
theorem goal_row (s : Shf) (k : List Int) (n : Nat) : appN s.p (nC s) (cobF s) k n = rowL n fun i => dsum (cobF s i) (colF k) (nC s) % s.p := rfl
theorem impl_repair_fn1_ok {G : GH} {b8 b10 R C c cc i j : Nat} {p : Int} {A B : Option Addr} {f : Int → Int → Int} {L : List Int} (hM : MB G b8 p R C A c f) (h10 : rd G (some ⟨b10, 0, none⟩) = some (.slice B L.length cc)) (hL : IntS G B cc L) (hi : i < R) (hj : j < L.length) (hb : 0 ≤ L.getD j 0 ∧ L.getD j 0 < C) (hR : R ≤ 2 ^ 10) (hC : C ≤ 2 ^ 10) {K : Value → GH → Prop}
    (hk : K (.int .i64 (f i (L.getD j 0))) G) : GC Tryz.prog 125 [.int .i64 (i : Int), .int .i64 (j : Int), .pointer (some ⟨b8, 0, none⟩), .pointer (some ⟨b10, 0, none⟩)] G K := by
  refine ke9 (by simp) ?_
  obtain ⟨q, hq⟩ : ∃ q : Nat, L.getD j 0 = q := ⟨(L.getD j 0).toNat, by omega⟩
  have rj := hL.rd j hj
  rw [hq] at rj hk
  have hsn := hL.sn (by omega)
  simp (maxSteps := 300000) (disch := omega) only [gws, ↓reduceIte, reduceEqDiff, reduceToNat, reduceMul, reduceAdd, Nat.reduceBEq, isLd, hM.f0, hM.f1, hM.f2, hM.f3, h10, rj]
  refine impl_at_ok (p := p) (R := R) (C := C) (A := A) (c := c) (f := f) (i := i) (j := q) hM.m hi (by omega) (by omega) (by omega) ?_
  simp (maxSteps := 300000) (disch := omega) only [gws, ↓reduceIte, reduceEqDiff, reduceToNat, reduceMul, reduceAdd, Nat.reduceBEq, isLd]
  exact ⟨h10, hk⟩
theorem rp_tree {G : GH} {b3 b8 b10 R C c cc : Nat} {A B : Option Addr} {m : ShM} {s : Shf} {f : Int → Int → Int} {L : List Int} {T : Nat → Value} {K : (Nat → Value) → GH → Prop} (hP : ShP G (some ⟨b3, 0, none⟩) m s) (hM : MB G b8 s.p R C A c f) (h10 : rd G (some ⟨b10, 0, none⟩) = some (.slice B L.length cc)) (hL : IntS G B cc L) (hb : ∀ j, j < L.length → 0 ≤ L.getD j 0 ∧ L.getD j 0 < C) (hR : R ≤ 2 ^ 10) (hC : C ≤ 2 ^ 10) (hll : L.length ≤ 2 ^ 10)
    (t3 : T 3 = .pointer (some ⟨b3, 0, none⟩)) (t8 : T 8 = .pointer (some ⟨b8, 0, none⟩)) (t10 : T 10 = .pointer (some ⟨b10, 0, none⟩))
    (hK : ∀ T' G' b15 A2 c2, Sub G G' → (∀ l, l ≤ 14 → T' l = T l) → T' 15 = .pointer (some ⟨b15, 0, none⟩) → G' b15 = some ⟨mat4 s.p R L.length A2 c2, true⟩ → IntS G' A2 c2 (flatL R L.length fun i j => f i (L.getD j.toNat 0)) → K T' G') : gT Tryz.prog kdq [] K T G := by
  have hcl : ∀ G', Sub G G' → ∀ i j : Nat, i < R → j < L.length → ∀ K' : Value → GH → Prop, K' (.int .i64 ((fun i j : Int => f i (L.getD j.toNat 0)) (i : Int) (j : Int))) G' → GC Tryz.prog 125 [.int .i64 (i : Int), .int .i64 (j : Int), .pointer (some ⟨b8, 0, none⟩), .pointer (some ⟨b10, 0, none⟩)] G' K' := fun G' u i j hi hj K' hK' =>
    impl_repair_fn1_ok (hM.sub u) (rd_sub u h10) (hL.sub u) hi hj (hb j hj) hR hC (by simpa using hK')
  have rds : ∀ {G' : GH}, Sub G G' → rd G' (some ⟨b3, 1, none⟩) = some (.int .i64 s.p) ∧ rd G' (some ⟨b8, 1, none⟩) = some (.int .i64 R) ∧ rd G' (some ⟨b10, 0, none⟩) = some (.slice B L.length cc) := fun u => ⟨(hP.sub u).b.2.1, (hM.sub u).f1, rd_sub u h10⟩
  obtain ⟨q1, q2, q3⟩ := rds (Sub.refl _)
  have one4 : ∀ {A2 : Option Addr} {c2 : Nat}, ∀ v ∈ [Value.int .i64 s.p, .int .i64 R, .int .i64 (L.length : Nat), .slice A2 (R * L.length) c2], oneB v = true := fun v hv => by simp at hv; rcases hv with rfl | rfl | rfl | rfl <;> rfl
  simp (maxSteps := 300000) (disch := omega) only [gws, ↓reduceIte, reduceEqDiff, reduceToNat, reduceMul, reduceAdd, Nat.reduceBEq, isLd, t3, t8, t10, q1, q2, q3]
  refine ⟨?_, fun b15 hb15 => ?_⟩
  · refine kf8 (by simp) ?_
    simp (maxSteps := 300000) (disch := omega) only [gws, ↓reduceIte, reduceEqDiff, reduceToNat, reduceMul, reduceAdd, Nat.reduceBEq, isLd, t3, t8, t10, q1, q2, q3]
    refine ⟨?_, fun b15 hb15 => ?_⟩
    · refine impl_filledF_ok (R := R) (C := L.length) (dl := fun i j => f i (L.getD j.toNat 0)) hR hll (fun G' u i j hi hj K' hK' => ?_) fun G2 A2 c2 u2 oA hW => ?_
      · simp (maxSteps := 300000) (disch := omega) only [gws, ↓reduceIte, reduceEqDiff, reduceToNat, reduceMul, reduceAdd, Nat.reduceBEq, isLd]
        exact hcl G' u i j hi hj K' hK'
      · unfold matV matC
        obtain ⟨q1, q2, q3⟩ := rds u2
        simp (maxSteps := 300000) (disch := omega) only [gws, ↓reduceIte, reduceEqDiff, reduceToNat, reduceMul, reduceAdd, Nat.reduceBEq, isLd, t3, t8, t10, q1, q2, q3]
        intro b15 hb15
        have u5 := u2.trans (Sub.put hb15 ⟨[.int .i64 0, .int .i64 0, .int .i64 0, .slice none 0 0], true⟩)
        obtain ⟨q1, q2, q3⟩ := rds u5
        simp (maxSteps := 300000) (disch := omega) only [gws, ↓reduceIte, reduceEqDiff, reduceToNat, reduceMul, reduceAdd, Nat.reduceBEq, isLd, t3, t8, t10, q1, q2, q3]
        refine st_fresh (vs := [.int .i64 s.p, .int .i64 R, .int .i64 (L.length : Nat), .slice A2 (R * L.length) c2]) rfl rfl rfl one4 ?_
        simp (maxSteps := 300000) (disch := omega) only [gws, ↓reduceIte, reduceEqDiff, reduceToNat, reduceMul, reduceAdd, Nat.reduceBEq, isLd]
        have s5 := Sub.put hb15 ⟨[.int .i64 s.p, .int .i64 R, .int .i64 (L.length : Nat), .slice A2 (R * L.length) c2], true⟩
        exact hK _ _ b15 A2 c2 (u2.trans s5) (fun l hl => by repeat rw [upd_app, if_neg (by omega)]) (by simp (maxSteps := 300000) (disch := omega) only [gws, ↓reduceIte, reduceEqDiff, reduceToNat, reduceMul, reduceAdd, Nat.reduceBEq, isLd]) (put_same _ _ _) (((hW.ints' (by rw [flatL_len])).sub s5))
    · have u5 := Sub.put hb15 ⟨[.int .i64 0, .int .i64 0, .int .i64 0, .slice none 0 0], true⟩
      obtain ⟨q1, q2, q3⟩ := rds u5
      simp (maxSteps := 300000) (disch := omega) only [gws, ↓reduceIte, reduceEqDiff, reduceToNat, reduceMul, reduceAdd, Nat.reduceBEq, isLd, t3, t8, t10, q1, q2, q3]
      refine impl_filledF_ok (R := R) (C := L.length) (dl := fun i j => f i (L.getD j.toNat 0)) hR hll (fun G' u i j hi hj K' hK' => ?_) fun G2 A2 c2 u2 oA hW => ?_
      · simp (maxSteps := 300000) (disch := omega) only [gws, ↓reduceIte, reduceEqDiff, reduceToNat, reduceMul, reduceAdd, Nat.reduceBEq, isLd]
        exact hcl G' (u5.trans u) i j hi hj K' hK'
      · unfold matV matC
        obtain ⟨q1, q2, q3⟩ := rds (u5.trans u2)
        simp (maxSteps := 300000) (disch := omega) only [gws, ↓reduceIte, reduceEqDiff, reduceToNat, reduceMul, reduceAdd, Nat.reduceBEq, isLd, t3, t8, t10, q1, q2, q3]
        refine st_many (vs := [.int .i64 s.p, .int .i64 R, .int .i64 (L.length : Nat), .slice A2 (R * L.length) c2]) rfl (u2 _ _ (put_same _ _ _)) rfl (by simp) one4 ?_
        simp (maxSteps := 300000) (disch := omega) only [gws, ↓reduceIte, reduceEqDiff, reduceToNat, reduceMul, reduceAdd, Nat.reduceBEq, isLd, over]
        have nb : ∀ a, A2 = some a → a.block ≠ b15 := fun a ha e => by have := oA a ha; rw [e, put_same] at this; cases this
        exact hK _ _ b15 A2 c2 ((u5.trans u2).skip hb15) (fun l hl => by repeat rw [upd_app, if_neg (by omega)]) (by simp (maxSteps := 300000) (disch := omega) only [gws, ↓reduceIte, reduceEqDiff, reduceToNat, reduceMul, reduceAdd, Nat.reduceBEq, isLd]) (put_same _ _ _) ((hW.put nb _).ints' (by rw [flatL_len]))
  · have u5 := Sub.put hb15 ⟨[.int .i64 0, .int .i64 0, .int .i64 0, .slice none 0 0], true⟩
    obtain ⟨q1, q2, q3⟩ := rds u5
    simp (maxSteps := 300000) (disch := omega) only [gws, ↓reduceIte, reduceEqDiff, reduceToNat, reduceMul, reduceAdd, Nat.reduceBEq, isLd, t3, t8, t10, q1, q2, q3]
    refine kf8 (by simp) ?_
    simp (maxSteps := 300000) (disch := omega) only [gws, ↓reduceIte, reduceEqDiff, reduceToNat, reduceMul, reduceAdd, Nat.reduceBEq, isLd, t3, t8, t10, q1, q2, q3]
    refine impl_filledF_ok (R := R) (C := L.length) (dl := fun i j => f i (L.getD j.toNat 0)) hR hll (fun G' u i j hi hj K' hK' => ?_) fun G2 A2 c2 u2 oA hW => ?_
    · simp (maxSteps := 300000) (disch := omega) only [gws, ↓reduceIte, reduceEqDiff, reduceToNat, reduceMul, reduceAdd, Nat.reduceBEq, isLd]
      exact hcl G' (u5.trans u) i j hi hj K' hK'
    · unfold matV matC
      obtain ⟨q1, q2, q3⟩ := rds (u5.trans u2)
      simp (maxSteps := 300000) (disch := omega) only [gws, ↓reduceIte, reduceEqDiff, reduceToNat, reduceMul, reduceAdd, Nat.reduceBEq, isLd, t3, t8, t10, q1, q2, q3]
      refine st_many (vs := [.int .i64 s.p, .int .i64 R, .int .i64 (L.length : Nat), .slice A2 (R * L.length) c2]) rfl (u2 _ _ (put_same _ _ _)) rfl (by simp) one4 ?_
      simp (maxSteps := 300000) (disch := omega) only [gws, ↓reduceIte, reduceEqDiff, reduceToNat, reduceMul, reduceAdd, Nat.reduceBEq, isLd, over]
      have nb : ∀ a, A2 = some a → a.block ≠ b15 := fun a ha e => by have := oA a ha; rw [e, put_same] at this; cases this
      exact hK _ _ b15 A2 c2 ((u5.trans u2).skip hb15) (fun l hl => by repeat rw [upd_app, if_neg (by omega)]) (by simp (maxSteps := 300000) (disch := omega) only [gws, ↓reduceIte, reduceEqDiff, reduceToNat, reduceMul, reduceAdd, Nat.reduceBEq, isLd]) (put_same _ _ _) ((hW.put nb _).ints' (by rw [flatL_len]))
theorem rp_l2 {D G : GH} {by' b10 n kc c : Nat} {B Kp : Option Addr} {L k : List Int} {y : Int → Int} {T : Nat → Value} {Q : Cont} (hR : RQ D G B Kp c kc L k) (h10 : rd D (some ⟨b10, 0, none⟩) = some (.slice B L.length c)) (hy : D by' = some ⟨fcells L.length y, true⟩) (hb : ∀ j, j < L.length → 0 ≤ L.getD j 0 ∧ L.getD j 0 < n) (hn : n = k.length) (hll : L.length ≤ 2 ^ 10)
    (t9 : T 9 = .slice Kp n kc) (t17 : T 17 = .slice (some ⟨by', 0, none⟩) L.length L.length) (t82 : T 82 = .slice B L.length c) (t83 : T 83 = .int .i64 L.length) (t84 : T 84 = .int .i64 0)
    (hQ : ∀ T' G', SameU T' T → RQ D G' B Kp c kc L (kyN L y k L.length) → Q (.ex 4) T' G') : gLoop (gW Tryz.prog ke0) Q T G := by
  refine gLoop_intro (fun mm T' G' => ∃ i : Nat, SameU T' T ∧ T' 82 = .slice B L.length c ∧ T' 83 = .int .i64 L.length ∧ T' 84 = .int .i64 i ∧ mm + i = L.length ∧ i ≤ L.length ∧ RQ D G' B Kp c kc L (kyN L y k i)) L.length
    ⟨0, fun _ _ => rfl, t82, t83, t84, by omega, by omega, hR⟩ ?_
  clear hR
  rintro mm T1 G1 ⟨i, hT, e82, e83, e84, hm, hi, hR⟩
  have e9 : T1 9 = .slice Kp n kc := (hT 9 (by omega)).trans t9
  have e17 : T1 17 = .slice (some ⟨by', 0, none⟩) L.length L.length := (hT 17 (by omega)).trans t17
  simp (maxSteps := 300000) (disch := omega) only [gws, ↓reduceIte, reduceEqDiff, reduceToNat, reduceMul, reduceAdd, Nat.reduceBEq, isLd, e82, e83, e84]
  by_cases hii : (i : Int) < L.length
  · have hbi := hb i (by omega)
    obtain ⟨q, hq⟩ : ∃ q : Nat, L.getD i 0 = q := ⟨(L.getD i 0).toNat, by omega⟩
    have ri := hR.own.ints.rd i (by omega)
    rw [hq] at ri hbi
    have hsB := hR.own.ints.sn (by omega)
    have hkl := kyN_len L y k i
    have hsK := hR.kep.ints.sn (by omega)
    have ry : rd G1 (some ⟨by', i, none⟩) = some (.int .i64 (y i)) := by
      have := rd_fcells (hR.sub _ _ hy) (v := (i : Int)) (by omega) hii
      rwa [Int.toNat_natCast] at this
    simp (maxSteps := 300000) (disch := omega) only [gws, ↓reduceIte, reduceEqDiff, reduceToNat, reduceMul, reduceAdd, Nat.reduceBEq, isLd, e9, e17, e82, e83, e84, hii, ri, ry]
    refine hR.store (i := q) (by omega) fun G2 hR2 => ?_
    have hst : (kyN L y k i).set q (y i) = kyN L y k (i + 1) := by rw [kyN, hq, Int.toNat_natCast]
    rw [hst] at hR2
    simp (maxSteps := 300000) (disch := omega) only [gws, ↓reduceIte, reduceEqDiff, reduceToNat, reduceMul, reduceAdd, Nat.reduceBEq, isLd, e9, e17, e82, e83, e84]
    refine ⟨mm - 1, by omega, G2, Sub.refl _, i + 1, fun l hl => ?_, rfl, by omega, by omega, hR2⟩
    repeat first | rw [upd_app, if_neg (by omega)] | rw [if_neg (by omega)]
    exact hT l hl
  · obtain rfl : i = L.length := by omega
    simp (maxSteps := 300000) (disch := omega) only [gws, ↓reduceIte, reduceEqDiff, reduceToNat, reduceMul, reduceAdd, Nat.reduceBEq, isLd, e82, e83, e84, hii]
    refine hQ _ _ (fun l hl => ?_) hR
    repeat rw [upd_app, if_neg (by omega)]
    exact hT l hl
theorem repF_lt {s : Shf} {x ws : List Int} (R : Nat) : flatL R (colsL s ws).length (fun i j => cobF s i ((colsL s ws).getD j.toNat 0)) = flatL R (colsL s ws).length (repF s x ws) :=
  flatL_cong fun i j hi hj => by unfold repF; rw [if_pos (by omega)]
theorem repF_at {s : Shf} {x ws : List Int} (i : Int) : repF s x ws i ((colsL s ws).length : Int) = goalF s (kz x (colsL s ws)) i := by unfold repF; rw [if_neg (by omega)]
theorem cols_ok {s : Shf} (hs : ShOk s) {ws : List Int} (hw : VtOk s ws) : (colsL s ws).length ≤ 144 ∧ ∀ j, j < (colsL s ws).length → 0 ≤ (colsL s ws).getD j 0 ∧ (colsL s ws).getD j 0 < nC s := by
  have h1 := colsN_len hs hw ws.length (Nat.le_refl _)
  have h2 := vt_n hs hw
  refine ⟨by unfold colsL; omega, fun j hj => colsN_bd hs hw ws.length (Nat.le_refl _) _ ?_⟩
  show (colsL s ws).getD j 0 ∈ colsL s ws
  simp [List.getD, hj]
theorem impl_repair_ok {G : GH} {X W : Option Addr} {c w : Nat} {m : ShM} {s : Shf} {x ws : List Int} (h : ShG G m s) (hs : ShOk s) (hms : s.ms.length ≤ 2 ^ 20) (hx : IntS G X c x) (hr : RdOk s x) (hw : IntS G W w ws) (hv : VtOk s ws) {K : Value → GH → Prop}
    (h0 : ¬ RepP s x ws → K (.tuple [.slice none 0 0, .bool false].toArray) G)
    (h1 : RepP s x ws → ∀ G' Y y, New G G' Y y ((repV s x ws).map I64) 1 (repV s x ws).length → K (.tuple [.slice Y (repV s x ws).length y, .bool true].toArray) G') : GC Tryz.prog 68 [shV m s, .slice X x.length c, .slice W ws.length w] G K := by
  refine GC_drop (ke4 (by simp) ?_)
  have hw1 := @rp_l1
  have hwt := @rp_tree
  have hw2 := @rp_l2
  unfold ke2
  generalize kdp = L1 at hw1 ⊢
  generalize kdq = D16 at hwt ⊢
  generalize ke0 = L2 at hw2 ⊢
  have hR := nR_eq hs
  have hC := nC_eq hs
  have hb := rd_bd hs hr
  obtain ⟨hcl, hcb⟩ := cols_ok hs hv
  have hp1 := hs.p.1
  have hp2 := hs.p.2.1
  unfold shV shC
  simp (maxSteps := 300000) (disch := omega) only [gws, ↓reduceIte, reduceEqDiff, reduceToNat, reduceMul, reduceAdd, Nat.reduceBEq, isLd]
  intro b3 hb3
  have s3 := Sub.put hb3 ⟨shC m s, true⟩
  have hP := ShP.box hb3 h
  unfold shC at s3 hP
  revert s3 hP
  generalize put G b3 ⟨[.slice m.A s.base.length m.c, .int .i64 s.p, .slice m.S s.st.length m.e, .slice m.M s.ms.length m.l], true⟩ = G1
  intro s3 hP
  obtain ⟨f0, f1, f2, f3⟩ := hP.b
  simp (maxSteps := 300000) (disch := omega) only [gws, ↓reduceIte, reduceEqDiff, reduceToNat, reduceMul, reduceAdd, Nat.reduceBEq, isLd, f0, f1, f2, f3]
  refine impl_coboundaryMatrix_ok (m := m) (s := s) (R := nR s) (C := nC s) hP.g hs hms hR.1 hC.1 fun G2 D e s2 oD hI => ?_
  unfold matV matC
  simp (maxSteps := 300000) (disch := omega) only [gws, ↓reduceIte, reduceEqDiff, reduceToNat, reduceMul, reduceAdd, Nat.reduceBEq, isLd]
  intro b8 hb8
  simp (maxSteps := 300000) (disch := omega) only [gws, ↓reduceIte, reduceEqDiff, reduceToNat, reduceMul, reduceAdd, Nat.reduceBEq, isLd]
  refine st_fresh (vs := [.int .i64 s.p, .int .i64 (nR s), .int .i64 (nC s), .slice D (nR s * nC s) e]) rfl rfl rfl (by intro v hv; simp at hv; rcases hv with rfl | rfl | rfl | rfl <;> rfl) ?_
  have s8 := Sub.put hb8 ⟨[.int .i64 s.p, .int .i64 (nR s), .int .i64 (nC s), .slice D (nR s * nC s) e], true⟩
  have hB := MB.mk' (p := s.p) hb8 hI
  unfold mat4 at hB
  revert s8 hB
  generalize put G2 b8 ⟨[.int .i64 s.p, .int .i64 (nR s), .int .i64 (nC s), .slice D (nR s * nC s) e], true⟩ = G3
  intro s8 hB
  have s03 := (s3.trans s2).trans s8
  have hP3 := hP.sub (s2.trans s8)
  simp (maxSteps := 300000) (disch := omega) only [gws, ↓reduceIte, reduceEqDiff, reduceToNat, reduceMul, reduceAdd, Nat.reduceBEq, isLd]
  refine slices_Clone_ok (hx.sub s03) (by omega) fun G4 Kp kc hN => ?_
  simp (maxSteps := 300000) (disch := omega) only [gws, ↓reduceIte, reduceEqDiff, reduceToNat, reduceMul, reduceAdd, Nat.reduceBEq, isLd]
  intro b10 hb10
  have n10 : G3 b10 = none := hN.sub.none hb10
  have s10 := Sub.put hb10 ⟨[.slice none 0 0], true⟩
  have oK : ∀ a, Kp = some a → a.block ≠ b10 := fun a ha e' => by
    have := own_ne (hN.own.sub (Sub.rest _ _)) a ha
    rw [e'] at this; exact this hb10
  have hQ0 : RQ (put G3 b10 ⟨[.slice none 0 0], true⟩) (put G4 b10 ⟨[.slice none 0 0], true⟩) none Kp 0 kc [] x := by
    refine ⟨Sub.both hN.sub, Own.nil _ _, (hN.own.sub (Sub.rest _ _)).sub s10, Off.nil _, fun a ha => ?_, fun a b ha => by cases ha⟩
    rw [put_ne _ _ (oK a ha)]
    exact on_rest (own_ne hN.own a ha)
  have dK3 : Off G3 Kp := fun a ha => on_rest (own_ne hN.own a ha)
  revert hQ0
  generalize put G4 b10 ⟨[.slice none 0 0], true⟩ = G5
  intro hQ0
  clear hN s10 hb10
  simp (maxSteps := 300000) (disch := omega) only [gws, ↓reduceIte, reduceEqDiff, reduceToNat, reduceMul, reduceAdd, Nat.reduceBEq, isLd]
  refine hw1 (D := G3) (n := x.length) (kc := kc) (ws := ws) hP3 hs n10 (hw.sub s03) hv rfl hb.2 hQ0 (by simp (maxSteps := 300000) (disch := omega) only [gws, ↓reduceIte, reduceEqDiff, reduceToNat, reduceMul, reduceAdd, Nat.reduceBEq, isLd]) (by simp (maxSteps := 300000) (disch := omega) only [gws, ↓reduceIte, reduceEqDiff, reduceToNat, reduceMul, reduceAdd, Nat.reduceBEq, isLd]) (by simp (maxSteps := 300000) (disch := omega) only [gws, ↓reduceIte, reduceEqDiff, reduceToNat, reduceMul, reduceAdd, Nat.reduceBEq, isLd]) (by simp (maxSteps := 300000) (disch := omega) only [gws, ↓reduceIte, reduceEqDiff, reduceToNat, reduceMul, reduceAdd, Nat.reduceBEq, isLd]) (by simp (maxSteps := 300000) (disch := omega) only [gws, ↓reduceIte, reduceEqDiff, reduceToNat, reduceMul, reduceAdd, Nat.reduceBEq, isLd]) (by simp (maxSteps := 300000) (disch := omega) only [gws, ↓reduceIte, reduceEqDiff, reduceToNat, reduceMul, reduceAdd, Nat.reduceBEq, isLd] <;> rfl) fun T1 G6 B c1 hT1 hQ1 => ?_
  have t1 : T1 1 = .slice X x.length c := by rw [hT1 1 (by omega)]; simp (maxSteps := 300000) (disch := omega) only [gws, ↓reduceIte, reduceEqDiff, reduceToNat, reduceMul, reduceAdd, Nat.reduceBEq, isLd]
  have t3 : T1 3 = .pointer (some ⟨b3, 0, none⟩) := by rw [hT1 3 (by omega)]; simp (maxSteps := 300000) (disch := omega) only [gws, ↓reduceIte, reduceEqDiff, reduceToNat, reduceMul, reduceAdd, Nat.reduceBEq, isLd]
  have t8 : T1 8 = .pointer (some ⟨b8, 0, none⟩) := by rw [hT1 8 (by omega)]; simp (maxSteps := 300000) (disch := omega) only [gws, ↓reduceIte, reduceEqDiff, reduceToNat, reduceMul, reduceAdd, Nat.reduceBEq, isLd]
  have t9 : T1 9 = .slice Kp x.length kc := by rw [hT1 9 (by omega)]; simp (maxSteps := 300000) (disch := omega) only [gws, ↓reduceIte, reduceEqDiff, reduceToNat, reduceMul, reduceAdd, Nat.reduceBEq, isLd]
  have t10 : T1 10 = .pointer (some ⟨b10, 0, none⟩) := by rw [hT1 10 (by omega)]; simp (maxSteps := 300000) (disch := omega) only [gws, ↓reduceIte, reduceEqDiff, reduceToNat, reduceMul, reduceAdd, Nat.reduceBEq, isLd]
  clear hT1 hQ0 G5
  have s36 : Sub G3 G6 := (Sub.put n10 _).trans hQ1.sub
  have h10 : rd G6 (some ⟨b10, 0, none⟩) = some (.slice B (colsL s ws).length c1) := rd_sub hQ1.sub (rd_box _ _ _ 0 _ rfl)
  simp (maxSteps := 300000) (disch := omega) only [gws, ↓reduceIte, reduceEqDiff, reduceToNat, reduceMul, reduceAdd, Nat.reduceBEq, isLd, t1, t3, t8, t9, t10]
  refine hwt (hP3.sub s36) (hB.sub s36) h10 hQ1.own.ints hcb (by omega) (by omega) (by omega) t3 t8 t10 fun T2 G7 b15 A2 c2 s7 hT2 t15 g15 hI2 => ?_
  rw [repF_lt (x := x)] at hI2
  have t1 : T2 1 = .slice X x.length c := by rw [hT2 1 (by omega)]; exact t1
  have t3 : T2 3 = .pointer (some ⟨b3, 0, none⟩) := by rw [hT2 3 (by omega)]; exact t3
  have t8 : T2 8 = .pointer (some ⟨b8, 0, none⟩) := by rw [hT2 8 (by omega)]; exact t8
  have t9 : T2 9 = .slice Kp x.length kc := by rw [hT2 9 (by omega)]; exact t9
  have t10 : T2 10 = .pointer (some ⟨b10, 0, none⟩) := by rw [hT2 10 (by omega)]; exact t10
  clear hT2
  have hB7 := hB.sub (s36.trans s7)
  have hQ7 := hQ1.up s7
  have hk7 := hQ7.kep.ints
  have hkl := kz_len x (colsL s ws)
  simp (maxSteps := 300000) (disch := omega) only [gws, ↓reduceIte, reduceEqDiff, reduceToNat, reduceMul, reduceAdd, Nat.reduceBEq, isLd, t1, t3, t8, t9, t10, t15, hB7.f0, hB7.f1, hB7.f2, hB7.f3]
  have key := fun K => impl_apply_ok (p := s.p) (R := nR s) (C := nC s) hB7.m hk7 (by rw [hkl]; exact hb.2) (by omega) (by omega) ⟨hp1, hp2⟩ (cobF_bd ⟨hp1, hp2⟩) (kz_bd (by omega) hb.1 _) (K := K)
  rw [hkl] at key
  refine key _ fun G8 Y8 y8 hN8 => ?_
  rw [goal_row] at hN8
  have s78 := hN8.sub
  have hI8 : IntS G8 Y8 y8 (rowL (nR s) fun i => dsum (cobF s i) (colF (kz x (colsL s ws))) (nC s) % s.p) := (hN8.own.ints' (rowL_len _ _).symm).sub (Sub.rest _ _)
  have hP8 := hP3.sub ((s36.trans s7).trans s78)
  have x1 := hP8.b.2.1
  have y15 : ∀ {F : GH}, Sub G7 F → rd F (some ⟨b15, 0, none⟩) = some (.int .i64 s.p) ∧ rd F (some ⟨b15, 1, none⟩) = some (.int .i64 (nR s)) ∧ rd F (some ⟨b15, 2, none⟩) = some (.int .i64 ((colsL s ws).length : Nat)) ∧ rd F (some ⟨b15, 3, none⟩) = some (.slice A2 (nR s * (colsL s ws).length) c2) := fun u => by
    have := u _ _ g15
    unfold mat4 at this
    simp only [rd, this]; exact ⟨rfl, rfl, rfl, rfl⟩
  obtain ⟨z0, z1, z2, z3⟩ := y15 s78
  have w1 := w64 (s.p - 1) (by omega) (by omega)
  simp (maxSteps := 300000) (disch := omega) only [gws, ↓reduceIte, reduceEqDiff, reduceToNat, reduceMul, reduceAdd, Nat.reduceBEq, isLd, t1, t3, t8, t9, t10, t15, x1, z0, z1, z2, z3, w1]
  refine ⟨nR s, nR s, rfl, rfl, Nat.le_refl _, by omega, by omega, fun bz hbz => ?_⟩
  have sz := Sub.put hbz ⟨zc [.int .i64 0] (nR s), true⟩
  have hz : zc [.int .i64 0] (nR s) = (rowL (nR s) fun _ => 0).map I64 := by rw [zc_one, rep_range]; unfold rowL; rw [List.map_map]; rfl
  have gz := put_same G8 bz ⟨zc [.int .i64 0] (nR s), true⟩
  rw [hz] at gz
  revert sz gz
  rw [hz]
  generalize put G8 bz ⟨(rowL (nR s) fun _ => 0).map I64, true⟩ = G9
  intro sz gz
  have hIz : IntS G9 (some ⟨bz, 0, none⟩) (nR s) (rowL (nR s) fun _ => 0) := (Own.blk (n := nR s) (sz := 1) gz (by simp [rowL_len])).ints' (rowL_len _ _).symm
  have s79 := s78.trans sz
  have x1 := (hP8.sub sz).b.2.1
  obtain ⟨z0, z1, z2, z3⟩ := y15 s79
  simp (maxSteps := 300000) (disch := omega) only [gws, ↓reduceIte, reduceEqDiff, reduceToNat, reduceMul, reduceAdd, Nat.reduceBEq, isLd, t1, t3, t8, t9, t10, t15, x1, z0, z1, z2, z3, w1]
  refine impl_addTimes_ok hIz (hI8.sub sz) ⟨by omega, by omega⟩ ⟨by omega, by omega⟩ (fun j _ => ⟨Int.le_refl _, by omega⟩) (fun j _ => ⟨Int.emod_nonneg _ (by omega), Int.emod_lt_of_pos _ (by omega)⟩) (by omega) fun G10 Yb yb hN10 => ?_
  have s710 := s79.trans hN10.sub
  have hIb : IntS G10 Yb yb (rowL (nR s) fun j => (0 + (s.p - 1) * (dsum (cobF s j) (colF (kz x (colsL s ws))) (nC s) % s.p)) % s.p) := (hN10.own.ints' (rowL_len _ _).symm).sub (Sub.rest _ _)
  have hgl : (rowL (nR s) fun j => (0 + (s.p - 1) * (dsum (cobF s j) (colF (kz x (colsL s ws))) (nC s) % s.p)) % s.p) = rowL (nR s) fun j => repF s x ws j ((colsL s ws).length : Int) := rowL_congr fun j hj => by rw [goal_neg, repF_at]; rfl
  rw [hgl] at hIb
  obtain ⟨z0, z1, z2, z3⟩ := y15 s710
  have hP10 := hP8.sub (sz.trans hN10.sub)
  have x1 := hP10.b.2.1
  simp (maxSteps := 300000) (disch := omega) only [gws, ↓reduceIte, reduceEqDiff, reduceToNat, reduceMul, reduceAdd, Nat.reduceBEq, isLd, t1, t3, t8, t9, t10, t15, x1, z0, z1, z2, z3]
  have hQ10 := (hQ7.grow s710)
  refine impl_solveRC_ok (F := repF s x ws) (bs := rowL (nR s) fun j => repF s x ws j ((colsL s ws).length : Int)) (hI2.sub s710) hIb (rowL_len _ _) (fun i hi => rowL_get _ hi) (by omega) (by omega) (repF_rg (by omega) x ws) ⟨by omega, by omega⟩ (fun hm => ?_) fun hm G11 bx s11 nx gx1 => ?_
  · simp (maxSteps := 300000) (disch := omega) only [gws, ↓reduceIte, reduceEqDiff, reduceToNat, reduceMul, reduceAdd, Nat.reduceBEq, isLd, t1, t3, t8, t9, t10, t15, x1, z0, z1, z2, z3]
    exact ⟨G, (s03.trans s36).trans (s7.trans s710), h0 fun y => y hm⟩
  · have hy : RepP s x ws := hm
    obtain ⟨hQ11, hs11, hr11⟩ := (hQ7.up s710).grow s11
    have hby : rem2 G11 B Kp bx = some ⟨fcells (colsL s ws).length (repY s x ws), true⟩ := hr11 _ _ (rest_some.2 ⟨nx, gx1⟩)
    have h10' : rd (rem2 G11 B Kp) (some ⟨b10, 0, none⟩) = some (.slice B (colsL s ws).length c1) := rd_sub hs11 (rd_box _ _ _ 0 _ rfl)
    have r10 := rd_sub hQ11.sub h10'
    obtain ⟨z0, z1, z2, z3⟩ := y15 (s710.trans s11)
    have x1 := (hP10.sub s11).b.2.1
    simp (maxSteps := 300000) (disch := omega) only [gws, ↓reduceIte, reduceEqDiff, reduceToNat, reduceMul, reduceAdd, Nat.reduceBEq, isLd, t1, t3, t8, t9, t10, t15, x1, z0, z1, z2, z3, r10]
    refine hw2 (n := x.length) hQ11 h10' hby (fun j hj => by have := hcb j hj; rw [hb.2]; exact this) hkl.symm (by omega) (by simp (maxSteps := 300000) (disch := omega) only [gws, ↓reduceIte, reduceEqDiff, reduceToNat, reduceMul, reduceAdd, Nat.reduceBEq, isLd, t9]) (by simp (maxSteps := 300000) (disch := omega) only [gws, ↓reduceIte, reduceEqDiff, reduceToNat, reduceMul, reduceAdd, Nat.reduceBEq, isLd]) (by simp (maxSteps := 300000) (disch := omega) only [gws, ↓reduceIte, reduceEqDiff, reduceToNat, reduceMul, reduceAdd, Nat.reduceBEq, isLd]) (by simp (maxSteps := 300000) (disch := omega) only [gws, ↓reduceIte, reduceEqDiff, reduceToNat, reduceMul, reduceAdd, Nat.reduceBEq, isLd]) (by simp (maxSteps := 300000) (disch := omega) only [gws, ↓reduceIte, reduceEqDiff, reduceToNat, reduceMul, reduceAdd, Nat.reduceBEq, isLd] <;> rfl) fun T3 G12 hT3 hQ12 => ?_
    have u9 : T3 9 = .slice Kp x.length kc := by rw [hT3 9 (by omega)]; simp (maxSteps := 300000) (disch := omega) only [gws, ↓reduceIte, reduceEqDiff, reduceToNat, reduceMul, reduceAdd, Nat.reduceBEq, isLd, t9]
    simp (maxSteps := 300000) (disch := omega) only [gws, ↓reduceIte, reduceEqDiff, reduceToNat, reduceMul, reduceAdd, Nat.reduceBEq, isLd, u9]
    have hs12 : Sub G3 G12 := (Sub.put n10 _).trans (hs11.trans hQ12.sub)
    obtain ⟨G'', u1, hN''⟩ := (hQ12.kep.new hs12 dK3)
    obtain ⟨G3', u2, hN3⟩ := hN''.low s03
    have := h1 hy G3' Kp kc hN3
    unfold repV at this
    rw [kyN_len, kz_len] at this
    exact ⟨G3', u2.trans u1, this⟩
noncomputable def repW (s : Shf) (x ws : List Int) : List Int × Int := open Classical in if codeR s x ws = 0 then (if RepP s x ws then (repV s x ws, 0) else ([], 3)) else ([], codeR s x ws)
theorem repW_len (s : Shf) (x ws : List Int) (h : x.length ≤ 2 ^ 20) : (repW s x ws).1.length ≤ 2 ^ 20 := by
  unfold repW
  by_cases h1 : codeR s x ws = 0
  · rw [if_pos h1]
    by_cases h2 : RepP s x ws
    · rw [if_pos h2]; show (repV s x ws).length ≤ _; rw [repV_len]; exact h
    · rw [if_neg h2]; simp
  · rw [if_neg h1]; simp
theorem impl_RepairWith_ok {G : GH} {X W : Option Addr} {c w : Nat} {m : ShM} {s : Shf} {x ws : List Int} (h : ShG G m s) (hsm : ShSm s) (hx : IntS G X c x) (hl : x.length < 2 ^ 40) (hw : IntS G W w ws) (hwl : ws.length < 2 ^ 40) {K : Value → GH → Prop}
    (hk : LI (repW s x ws) K G) : GC Tryz.prog 30 [shV m s, .slice X x.length c, .slice W ws.length w] G K := by
  refine GC_drop (k2d (by simp) ?_)
  unfold shV shC
  simp (maxSteps := 300000) (disch := omega) only [gws, ↓reduceIte, reduceEqDiff, reduceToNat, reduceMul, reduceAdd, Nat.reduceBEq, isLd]
  intro b2 hb2
  have s1 := Sub.put hb2 ⟨shC m s, true⟩
  have hP := ShP.box hb2 h
  unfold shC at s1 hP
  revert s1 hP
  generalize put G b2 ⟨[.slice m.A s.base.length m.c, .int .i64 s.p, .slice m.S s.st.length m.e, .slice m.M s.ms.length m.l], true⟩ = G1
  intro s1 hP
  obtain ⟨f0, f1, f2, f3⟩ := hP.b
  simp (maxSteps := 300000) (disch := omega) only [gws, ↓reduceIte, reduceEqDiff, reduceToNat, reduceMul, reduceAdd, Nat.reduceBEq, isLd, f0, f1, f2, f3]
  refine impl_read_ok hP.g hsm (hx.sub s1) hl (hw.sub s1) hwl ?_
  by_cases h0 : codeR s x ws = 0
  · obtain ⟨hc, hv⟩ := codeR_iff.1 h0
    obtain ⟨hs, hr⟩ := codeC_ok hc
    rw [h0]
    simp (maxSteps := 300000) (disch := omega) only [gws, ↓reduceIte, reduceEqDiff, reduceToNat, reduceMul, reduceAdd, Nat.reduceBEq, isLd, f0, f1, f2, f3]
    refine impl_repair_ok hP.g hs hsm.ms (hx.sub s1) hr (hw.sub s1) hv (fun hn => ?_) fun hy G' Y y hN => ?_
    · simp (maxSteps := 300000) (disch := omega) only [gws, ↓reduceIte, reduceEqDiff, reduceToNat, reduceMul, reduceAdd, Nat.reduceBEq, isLd]
      exact ⟨G, s1, hk.err (by unfold repW; rw [if_pos h0, if_neg hn])⟩
    · simp (maxSteps := 300000) (disch := omega) only [gws, ↓reduceIte, reduceEqDiff, reduceToNat, reduceMul, reduceAdd, Nat.reduceBEq, isLd]
      have hd : repW s x ws = (repV s x ws, 0) := by unfold repW; rw [if_pos h0, if_pos hy]
      obtain ⟨G'', s'', hN''⟩ := hN.low s1
      rw [hd] at hk
      exact ⟨G'', s'', hk _ _ _ hN''⟩
  · simp (maxSteps := 300000) (disch := omega) only [gws, ↓reduceIte, reduceEqDiff, reduceToNat, reduceMul, reduceAdd, Nat.reduceBEq, isLd, decide_eq_false h0, h0]
    exact ⟨G, s1, hk.err (by unfold repW; rw [if_neg h0])⟩
def SameF (n : Nat) (T' T : Nat → Value) : Prop := ∀ l, l ≤ n → T' l = T l
def SameG (T' T : Nat → Value) : Prop := ∀ l, l ≤ 12 → l ≠ 10 → T' l = T l
def SameH (T' T : Nat → Value) : Prop := ∀ l, l ≤ 9 → T' l = T l
theorem rq_l0 {D G : GH} {q W : Option Addr} {n kc v w i : Nat} {Kp : Option Addr} {m : ShM} {s : Shf} {x L ws : List Int} {T : Nat → Value} {Q : Cont} (hP : ShP D q m s) (hs : ShOk s) (hv : v < s.base.length) (h0 : 0 ≤ fcol s v) (h1 : fcol s v + s.st.getD v 0 ≤ n) (h2 : 0 ≤ s.st.getD v 0) (hn : n = x.length) (hn2 : n ≤ 2 ^ 10) (hL : L.length ≤ 2 ^ 10)
    (hw : IntS D W w ws) (hi : i < ws.length) (hwi : ws.getD i 0 = (v : Nat)) (hwl : ws.length ≤ 48)
    {B : Option Addr} {c : Nat} (hQ0 : RQ D G B Kp c kc L (kz x L))
    (t0 : T 0 = .pointer q) (t2 : T 2 = .slice W ws.length w) (t9 : T 9 = .slice Kp n kc) (t10 : T 10 = .slice B L.length c) (t11 : T 11 = .int .i64 i) (t12 : T 12 = .int .i64 (fcol s v)) (t13 : T 13 = .int .i64 (fcol s v))
    (hQ : ∀ T' G' B' c', SameG T' T → T' 10 = .slice B' (L ++ seg (fcol s v) (s.st.getD v 0).toNat).length c' → RQ D G' B' Kp c' kc (L ++ seg (fcol s v) (s.st.getD v 0).toNat) (kz x (L ++ seg (fcol s v) (s.st.getD v 0).toNat)) → Q (.ex 2) T' G') : gLoop (gW Tryz.prog k17u) Q T G := by
  obtain ⟨a, ha⟩ : ∃ a : Nat, fcol s v = a := ⟨(fcol s v).toNat, by omega⟩
  obtain ⟨k, hk⟩ : ∃ k : Nat, s.st.getD v 0 = k := ⟨(s.st.getD v 0).toNat, by omega⟩
  rw [ha, hk] at h1
  rw [ha] at t12 t13 hQ
  rw [hk, Int.toNat_natCast] at hQ
  have hst := hs.st.1
  have hk3 := (hs.st.2.1 v (by omega)).2
  have hq := rd_some hP.f0
  refine gLoop_intro (fun mm T' G' => ∃ (j : Nat) (B : Option Addr) (c : Nat), SameG T' T ∧ T' 10 = .slice B (L ++ seg a j).length c ∧ T' 13 = .int .i64 ((a + j : Nat) : Int) ∧ mm + j = k ∧ j ≤ k ∧ RQ D G' B Kp c kc (L ++ seg a j) (kz x (L ++ seg a j))) k
    ⟨0, B, c, fun _ _ _ => rfl, by rw [show seg a 0 = [] from rfl, List.append_nil]; exact t10, t13, by omega, by omega, by rw [show seg a 0 = [] from rfl, List.append_nil]; exact hQ0⟩ ?_
  clear hQ0
  rintro mm T1 G1 ⟨j, B, c, hT, e10, e13, hm, hj, hR⟩
  have e0 : T1 0 = .pointer q := (hT 0 (by omega) (by omega)).trans t0
  have e2 : T1 2 = .slice W ws.length w := (hT 2 (by omega) (by omega)).trans t2
  have e9 : T1 9 = .slice Kp n kc := (hT 9 (by omega) (by omega)).trans t9
  have e11 : T1 11 = .int .i64 i := (hT 11 (by omega) (by omega)).trans t11
  have e12 : T1 12 = .int .i64 a := (hT 12 (by omega) (by omega)).trans t12
  have hP1 := hP.sub hR.sub
  have f2 := hP1.f2
  have rs := hP1.g.st.rd v (by omega)
  rw [hk] at rs
  have hssn := hP1.g.st.sn (by omega)
  have rw1 := (hw.sub hR.sub).rd i hi
  rw [hwi] at rw1
  have hwn := hw.sn (by omega)
  have w1 := w64 ((a : Int) + k) (by omega) (by omega)
  simp (maxSteps := 300000) (disch := omega) only [gws, ↓reduceIte, reduceEqDiff, reduceToNat, reduceMul, reduceAdd, Nat.reduceBEq, isLd, e0, e2, e9, e10, e11, e12, e13, f2, rw1, rs, w1]
  by_cases hjj : ((a + j : Nat) : Int) < (a : Int) + k
  · have hll : (L ++ seg a j).length = L.length + j := by rw [List.length_append, seg_len]
    have hksn := hR.kep.ints.sn (by rw [kz_len]; omega)
    simp (maxSteps := 300000) (disch := omega) only [gws, ↓reduceIte, reduceEqDiff, reduceToNat, reduceMul, reduceAdd, Nat.reduceBEq, isLd, e0, e2, e9, e10, e11, e12, e13, hjj]
    refine hR.store (i := a + j) (by rw [kz_len]; omega) fun G2 hR2 => ?_
    simp (maxSteps := 300000) (disch := omega) only [gws, ↓reduceIte, reduceEqDiff, reduceToNat, reduceMul, reduceAdd, Nat.reduceBEq, isLd, e0, e2, e9, e10, e11, e12, e13, gBs]
    refine ⟨fun u hu => (by simp at hu; subst hu; rfl), fun b4 hb4 => ?_⟩
    have s4 := Sub.put hb4 ⟨[.int .i64 ((a + j : Nat) : Int)], true⟩
    refine (hR2.up s4).push (v := ((a + j : Nat) : Int)) (cells_one [.int .i64 ((a + j : Nat) : Int)] true) (by omega) fun G3 B2 c2 hR3 => ?_
    have hsg : L ++ seg a (j + 1) = (L ++ seg a j) ++ [((a + j : Nat) : Int)] := by rw [seg_succ, List.append_assoc]; rfl
    have hsl : (L ++ seg a (j + 1)).length = (L ++ seg a j).length + 1 := by rw [hsg, List.length_append]; rfl
    have hkz : (kz x (L ++ seg a j)).set (a + j) 0 = kz x (L ++ seg a (j + 1)) := by rw [hsg, kz_snoc, Int.toNat_natCast]
    rw [hkz, ← hsg] at hR3
    have w2 := w64 (((a + j : Nat) : Int) + 1) (by omega) (by omega)
    simp (maxSteps := 300000) (disch := omega) only [gws, ↓reduceIte, reduceEqDiff, reduceToNat, reduceMul, reduceAdd, Nat.reduceBEq, isLd, e13, w2]
    refine ⟨mm - 1, by omega, G3, Sub.refl _, j + 1, B2, c2, fun l hl hl2 => ?_, by rw [hsl], rfl, by omega, by omega, hR3⟩
    repeat first | rw [upd_app, if_neg (by omega)] | rw [if_neg (by omega)]
    exact hT l hl hl2
  · obtain rfl : j = k := by omega
    simp (maxSteps := 300000) (disch := omega) only [gws, ↓reduceIte, reduceEqDiff, reduceToNat, reduceMul, reduceAdd, Nat.reduceBEq, isLd, e0, e2, e9, e10, e11, e12, e13, hjj]
    refine hQ _ _ B c (fun l hl hl2 => ?_) (by simp (maxSteps := 300000) (disch := omega) only [gws, ↓reduceIte, reduceEqDiff, reduceToNat, reduceMul, reduceAdd, Nat.reduceBEq, isLd, e10]) hR
    repeat rw [upd_app, if_neg (by omega)]
    exact hT l hl hl2
theorem rq_l1 {D G : GH} {q W : Option Addr} {n kc w : Nat} {Kp : Option Addr} {m : ShM} {s : Shf} {x ws : List Int} {T : Nat → Value} {Q : Cont} (hP : ShP D q m s) (hs : ShOk s) (hw : IntS D W w ws) (hv : VtOk s ws) (hn : n = x.length) (hnc : n = nC s)
    {B : Option Addr} {c : Nat} (hQ0 : RQ D G B Kp c kc [] x)
    (t0 : T 0 = .pointer q) (t2 : T 2 = .slice W ws.length w) (t9 : T 9 = .slice Kp n kc) (t10 : T 10 = .slice B 0 c) (t11 : T 11 = .int .i64 0)
    (hQ : ∀ T' G' B' c', SameH T' T → T' 10 = .slice B' (colsL s ws).length c' → RQ D G' B' Kp c' kc (colsL s ws) (kz x (colsL s ws)) → Q (.ex 0) T' G') : gLoop (gW Tryz.prog k17w) Q T G := by
  have hwl := vt_n hs hv
  have hcn := (nC_eq hs).2
  have hwn := hw.sn
  refine gLoop_intro (fun mm T' G' => ∃ (i : Nat) (B : Option Addr) (c : Nat), SameH T' T ∧ T' 10 = .slice B (colsN s ws i).length c ∧ T' 11 = .int .i64 i ∧ mm + i = ws.length ∧ i ≤ ws.length ∧ RQ D G' B Kp c kc (colsN s ws i) (kz x (colsN s ws i))) ws.length
    ⟨0, B, c, fun _ _ => rfl, t10, t11, by omega, by omega, hQ0⟩ ?_
  clear hQ0
  rintro mm T1 G1 ⟨i, B, c, hT, e10, e11, hm, hi, hR⟩
  have e0 : T1 0 = .pointer q := (hT 0 (by omega)).trans t0
  have e2 : T1 2 = .slice W ws.length w := (hT 2 (by omega)).trans t2
  have e9 : T1 9 = .slice Kp n kc := (hT 9 (by omega)).trans t9
  have hP1 := hP.sub hR.sub
  simp (maxSteps := 300000) (disch := omega) only [gws, ↓reduceIte, reduceEqDiff, reduceToNat, reduceMul, reduceAdd, Nat.reduceBEq, isLd, e2, e11]
  by_cases hii : (i : Int) < ws.length
  · obtain ⟨v, hv1, hv2, hv3, hv4, hv5, hv6⟩ := vt_at hs hv (n := i) (by omega)
    have rw1 := (hw.sub hR.sub).rd i (by omega)
    rw [hv1] at rw1
    have hcl := colsN_len hs hv i (by omega)
    have hstep : colsN s ws (i + 1) = colsN s ws i ++ seg (fcol s v) (s.st.getD v 0).toNat := by rw [colsN, hv1, Int.toNat_natCast]
    simp (maxSteps := 300000) (disch := omega) only [gws, ↓reduceIte, reduceEqDiff, reduceToNat, reduceMul, reduceAdd, Nat.reduceBEq, isLd, e0, e2, e9, e10, e11, hii, rw1]
    refine spec_l11At_ok (k := v) hP1 hs.b hs.st hv2 ?_
    simp (maxSteps := 300000) (disch := omega) only [gws, ↓reduceIte, reduceEqDiff, reduceToNat, reduceMul, reduceAdd, Nat.reduceBEq, isLd, e0, e2, e9, e10, e11]
    refine rq_l0 (n := n) (v := v) (i := i) (x := x) (L := colsN s ws i) hP hs hv2 hv3 (by omega) hv5 hn (by omega) (by omega) hw (by omega) hv1 (by omega) hR (by simp (maxSteps := 300000) (disch := omega) only [gws, ↓reduceIte, reduceEqDiff, reduceToNat, reduceMul, reduceAdd, Nat.reduceBEq, isLd, e0]) (by simp (maxSteps := 300000) (disch := omega) only [gws, ↓reduceIte, reduceEqDiff, reduceToNat, reduceMul, reduceAdd, Nat.reduceBEq, isLd, e2]) (by simp (maxSteps := 300000) (disch := omega) only [gws, ↓reduceIte, reduceEqDiff, reduceToNat, reduceMul, reduceAdd, Nat.reduceBEq, isLd, e9]) (by simp (maxSteps := 300000) (disch := omega) only [gws, ↓reduceIte, reduceEqDiff, reduceToNat, reduceMul, reduceAdd, Nat.reduceBEq, isLd, e10]) (by simp (maxSteps := 300000) (disch := omega) only [gws, ↓reduceIte, reduceEqDiff, reduceToNat, reduceMul, reduceAdd, Nat.reduceBEq, isLd, e11]) (by simp (maxSteps := 300000) (disch := omega) only [gws, ↓reduceIte, reduceEqDiff, reduceToNat, reduceMul, reduceAdd, Nat.reduceBEq, isLd]) (by simp (maxSteps := 300000) (disch := omega) only [gws, ↓reduceIte, reduceEqDiff, reduceToNat, reduceMul, reduceAdd, Nat.reduceBEq, isLd]) fun T' G' B' c' hT' u10 hR' => ?_
    rw [← hstep] at hR' u10
    have u11 : T' 11 = .int .i64 i := by rw [hT' 11 (by omega) (by omega)]; simp (maxSteps := 300000) (disch := omega) only [gws, ↓reduceIte, reduceEqDiff, reduceToNat, reduceMul, reduceAdd, Nat.reduceBEq, isLd, e11]
    have hT2 : SameH T' T := fun l hl => by
      rw [hT' l (by omega) (by omega)]
      repeat rw [upd_app, if_neg (by omega)]
      exact hT l hl
    simp (maxSteps := 300000) (disch := omega) only [gws, ↓reduceIte, reduceEqDiff, reduceToNat, reduceMul, reduceAdd, Nat.reduceBEq, isLd, u10, u11]
    refine ⟨mm - 1, by omega, G', Sub.refl _, i + 1, B', c', fun l hl => ?_, rfl, rfl, by omega, by omega, hR'⟩
    repeat first | rw [upd_app, if_neg (by omega)] | rw [if_neg (by omega)]
    exact hT2 l hl
  · obtain rfl : i = ws.length := by omega
    simp (maxSteps := 300000) (disch := omega) only [gws, ↓reduceIte, reduceEqDiff, reduceToNat, reduceMul, reduceAdd, Nat.reduceBEq, isLd, e2, e11, hii]
    refine hQ _ _ B c (fun l hl => ?_) (by simp (maxSteps := 300000) (disch := omega) only [gws, ↓reduceIte, reduceEqDiff, reduceToNat, reduceMul, reduceAdd, Nat.reduceBEq, isLd, e10]; rfl) hR
    repeat rw [upd_app, if_neg (by omega)]
    exact hT l hl
/-- the cells of the part's first rows. -/
theorem rq_l2 {H G : GH} {b8 b14 R C i c a cb : Nat} {A D B : Option Addr} {p : Int} {f : Int → Int → Int} {L : List Int} {F : Int → Int → Int} {T : Nat → Value} {Q : Cont} (hM : MB H b8 p R C D c f) (h14 : H b14 = some ⟨mat4 p R L.length A a, true⟩) (hL : IntS H B cb L) (hb : ∀ j, j < L.length → 0 ≤ L.getD j 0 ∧ L.getD j 0 < C) (hR : R ≤ 2 ^ 10) (hC : C ≤ 2 ^ 10) (hll : L.length ≤ 2 ^ 10) (hi : i < R) (hF : WF H G A a R L.length F)
    (t8 : T 8 = .pointer (some ⟨b8, 0, none⟩)) (t10 : T 10 = .slice B L.length cb) (t14 : T 14 = .pointer (some ⟨b14, 0, none⟩)) (t15 : T 15 = .int .i64 i) (t16 : T 16 = .int .i64 0)
    (hQ : ∀ T' G' F', SameF 15 T' T → WF H G' A a R L.length F' → (∀ j : Nat, j < L.length → F' i j = f i (L.getD j 0)) → (∀ a b : Int, a ≠ i → F' a b = F a b) → Q (.ex 6) T' G') : gLoop (gW Tryz.prog k184) Q T G := by
  have m14 : ∀ {G' : GH}, Sub H G' → rd G' (some ⟨b14, 2, none⟩) = some (.int .i64 (L.length : Nat)) ∧ rd G' (some ⟨b14, 3, none⟩) = some (.slice A (R * L.length) a) := fun u => by
    simp only [rd, u _ _ h14]; exact ⟨rfl, rfl⟩
  refine gLoop_intro (fun mm T' G' => ∃ (k : Nat) (F' : Int → Int → Int), SameF 15 T' T ∧ T' 16 = .int .i64 k ∧ mm + k = L.length ∧ k ≤ L.length ∧ WF H G' A a R L.length F' ∧ (∀ j : Nat, j < k → F' i j = f i (L.getD j 0)) ∧ (∀ a b : Int, a ≠ i → F' a b = F a b)) L.length
    ⟨0, F, fun _ _ => rfl, t16, by omega, by omega, hF, fun j hj => by omega, fun _ _ _ => rfl⟩ ?_
  clear hF
  rintro mm T1 G1 ⟨k, F', hT, e16, hm, hk, hF, hd, ho⟩
  have e8 : T1 8 = .pointer (some ⟨b8, 0, none⟩) := (hT 8 (by omega)).trans t8
  have e10 : T1 10 = .slice B L.length cb := (hT 10 (by omega)).trans t10
  have e14 : T1 14 = .pointer (some ⟨b14, 0, none⟩) := (hT 14 (by omega)).trans t14
  have e15 : T1 15 = .int .i64 i := (hT 15 (by omega)).trans t15
  obtain ⟨z2, z3⟩ := m14 hF.s
  simp (maxSteps := 300000) (disch := omega) only [gws, ↓reduceIte, reduceEqDiff, reduceToNat, reduceMul, reduceAdd, Nat.reduceBEq, isLd, e14, e16, z2]
  by_cases hkk : (k : Int) < (L.length : Nat)
  · have hk' : k < L.length := by omega
    obtain ⟨hb0, hb1⟩ := hb k hk'
    obtain ⟨q, hq⟩ : ∃ q : Nat, L.getD k 0 = q := ⟨(L.getD k 0).toNat, by omega⟩
    have rk := (hL.sub hF.s).rd k hk'
    rw [hq] at rk
    have hLn := hL.sn (by omega)
    have hM1 := hM.sub hF.s
    have hq' : q < C := by omega
    have hcell : rd G1 (pa D (i * C + q)) = some (.int .i64 (f i q)) := by
      have := hM1.m.rd (i * C + q) (by rw [flatL_len]; exact flat_nat hi hq')
      rwa [flatL_get f hi hq'] at this
    have hDn := hM1.m.sn (by rw [flatL_len]; have := flat_nat hi hq'; omega)
    have l1 := flat_nat hi hk'
    have l2 := flat_nat hi hq'
    have hAn := hF.sn (by omega)
    have m1 := mulB (a := (i : Int)) (b := (L.length : Int)) (A := 2 ^ 10) (B := 2 ^ 10) (by omega) (by omega)
    have m2 := mulB (a := (i : Int)) (b := (C : Int)) (A := 2 ^ 10) (B := 2 ^ 10) (by omega) (by omega)
    have w1 := w64 ((i : Int) * (L.length : Nat)) (by omega) (by omega)
    have w2 := w64 ((i : Int) * (L.length : Nat) + k) (by omega) (by omega)
    have w3 := w64 ((i : Int) * C) (by omega) (by omega)
    have w4 := w64 ((i : Int) * C + q) (by omega) (by omega)
    have e1 : (i : Int) * (L.length : Nat) + k = ((i * L.length + k : Nat) : Int) := by push_cast; rfl
    have e2 : (i : Int) * C + q = ((i * C + q : Nat) : Int) := by push_cast; rfl
    simp (maxSteps := 300000) (disch := omega) only [gws, ↓reduceIte, reduceEqDiff, reduceToNat, reduceMul, reduceAdd, Nat.reduceBEq, isLd, e8, e10, e14, e15, e16, hkk, z2, z3, rk, hM1.f2, hM1.f3, w1, w2, w3, w4, e1, e2, hcell]
    refine hF.st hi hk' fun G2 hF2 => ?_
    simp (maxSteps := 300000) (disch := omega) only [gws, ↓reduceIte, reduceEqDiff, reduceToNat, reduceMul, reduceAdd, Nat.reduceBEq, isLd, e16]
    refine ⟨mm - 1, by omega, G2, Sub.refl _, k + 1, _, fun l hl => ?_, rfl, by omega, by omega, hF2, fun j hj => ?_, fun a' b' hab => ?_⟩
    · repeat first | rw [upd_app, if_neg (by omega)] | rw [if_neg (by omega)]
      exact hT l hl
    · unfold upd2
      by_cases e : j = k
      · subst e; rw [if_pos ⟨rfl, rfl⟩, hq]
      · rw [if_neg (fun y => e (by have := y.2; omega))]; exact hd j (by omega)
    · unfold upd2
      rw [if_neg (fun y => hab y.1)]; exact ho a' b' hab
  · obtain rfl : k = L.length := by omega
    simp (maxSteps := 300000) (disch := omega) only [gws, ↓reduceIte, reduceEqDiff, reduceToNat, reduceMul, reduceAdd, Nat.reduceBEq, isLd, e14, e16, z2, hkk]
    refine hQ _ _ F' (fun l hl => ?_) hF hd ho
    repeat rw [upd_app, if_neg (by omega)]
    exact hT l hl
theorem rq_l3 {H G : GH} {b8 b14 R C c a cb : Nat} {A D B : Option Addr} {p : Int} {f : Int → Int → Int} {L : List Int} {F : Int → Int → Int} {T : Nat → Value} {Q : Cont} (hM : MB H b8 p R C D c f) (h14 : H b14 = some ⟨mat4 p R L.length A a, true⟩) (hL : IntS H B cb L) (hb : ∀ j, j < L.length → 0 ≤ L.getD j 0 ∧ L.getD j 0 < C) (hR : R ≤ 2 ^ 10) (hC : C ≤ 2 ^ 10) (hll : L.length ≤ 2 ^ 10) (hF : WF H G A a R L.length F)
    (t8 : T 8 = .pointer (some ⟨b8, 0, none⟩)) (t10 : T 10 = .slice B L.length cb) (t14 : T 14 = .pointer (some ⟨b14, 0, none⟩)) (t15 : T 15 = .int .i64 0)
    (hQ : ∀ T' G', SameF 14 T' T → WF H G' A a R L.length (fun i j => f i (L.getD j.toNat 0)) → Q (.ex 4) T' G') : gLoop (gW Tryz.prog k186) Q T G := by
  refine gLoop_intro (fun mm T' G' => ∃ (i : Nat) (F' : Int → Int → Int), SameF 14 T' T ∧ T' 15 = .int .i64 i ∧ mm + i = R ∧ i ≤ R ∧ WF H G' A a R L.length F' ∧ (∀ i' j : Nat, i' < i → j < L.length → F' i' j = f i' (L.getD j 0))) R
    ⟨0, F, fun _ _ => rfl, t15, by omega, by omega, hF, fun i' j hi => by omega⟩ ?_
  clear hF
  rintro mm T1 G1 ⟨i, F', hT, e15, hm, hi, hF, hd⟩
  have e8 : T1 8 = .pointer (some ⟨b8, 0, none⟩) := (hT 8 (by omega)).trans t8
  have e10 : T1 10 = .slice B L.length cb := (hT 10 (by omega)).trans t10
  have e14 : T1 14 = .pointer (some ⟨b14, 0, none⟩) := (hT 14 (by omega)).trans t14
  have hM1 := hM.sub hF.s
  simp (maxSteps := 300000) (disch := omega) only [gws, ↓reduceIte, reduceEqDiff, reduceToNat, reduceMul, reduceAdd, Nat.reduceBEq, isLd, e8, e15, hM1.f1]
  by_cases hii : (i : Int) < R
  · simp (maxSteps := 300000) (disch := omega) only [gws, ↓reduceIte, reduceEqDiff, reduceToNat, reduceMul, reduceAdd, Nat.reduceBEq, isLd, e8, e15, hM1.f1, hii]
    refine rq_l2 (i := i) hM h14 hL hb hR hC hll (by omega) hF (by simp (maxSteps := 300000) (disch := omega) only [gws, ↓reduceIte, reduceEqDiff, reduceToNat, reduceMul, reduceAdd, Nat.reduceBEq, isLd, e8]) (by simp (maxSteps := 300000) (disch := omega) only [gws, ↓reduceIte, reduceEqDiff, reduceToNat, reduceMul, reduceAdd, Nat.reduceBEq, isLd, e10]) (by simp (maxSteps := 300000) (disch := omega) only [gws, ↓reduceIte, reduceEqDiff, reduceToNat, reduceMul, reduceAdd, Nat.reduceBEq, isLd, e14]) (by simp (maxSteps := 300000) (disch := omega) only [gws, ↓reduceIte, reduceEqDiff, reduceToNat, reduceMul, reduceAdd, Nat.reduceBEq, isLd, e15]) (by simp (maxSteps := 300000) (disch := omega) only [gws, ↓reduceIte, reduceEqDiff, reduceToNat, reduceMul, reduceAdd, Nat.reduceBEq, isLd] <;> rfl) fun T' G' F2 hT' hF2 h1 h2 => ?_
    have u15 : T' 15 = .int .i64 i := by rw [hT' 15 (by omega)]; simp (maxSteps := 300000) (disch := omega) only [gws, ↓reduceIte, reduceEqDiff, reduceToNat, reduceMul, reduceAdd, Nat.reduceBEq, isLd, e15]
    have hT2 : SameF 14 T' T := fun l hl => by
      rw [hT' l (by omega)]
      repeat rw [upd_app, if_neg (by omega)]
      exact hT l hl
    simp (maxSteps := 300000) (disch := omega) only [gws, ↓reduceIte, reduceEqDiff, reduceToNat, reduceMul, reduceAdd, Nat.reduceBEq, isLd, u15]
    refine ⟨mm - 1, by omega, G', Sub.refl _, i + 1, F2, fun l hl => ?_, rfl, by omega, by omega, hF2, fun i' j hi' hj => ?_⟩
    · repeat first | rw [upd_app, if_neg (by omega)] | rw [if_neg (by omega)]
      exact hT2 l hl
    · by_cases e : i' = i
      · subst e; exact h1 j hj
      · rw [h2 _ _ (by omega)]; exact hd i' j (by omega) hj
  · obtain rfl : i = R := by omega
    simp (maxSteps := 300000) (disch := omega) only [gws, ↓reduceIte, reduceEqDiff, reduceToNat, reduceMul, reduceAdd, Nat.reduceBEq, isLd, e8, e15, hM1.f1, hii]
    have hfl : flatL i L.length F' = flatL i L.length (fun i j => f i (L.getD j.toNat 0)) := flatL_cong fun a b ha hb' => by rw [hd a b ha hb', Int.toNat_natCast]
    refine hQ _ _ (fun l hl => ?_) ⟨by rw [← hfl]; exact hF.o, hF.s, hF.f⟩
    repeat rw [upd_app, if_neg (by omega)]
    exact hT l hl
theorem rowL_set {R k : Nat} {f : Int → Int} {v : Int} : (rowL R f).set k v = rowL R fun i => if i = k then v else f i := by
  refine List.ext_getElem (by simp [rowL_len]) fun i h1 h2 => ?_
  simp only [List.getElem_set, rowL, List.getElem_map, List.getElem_range]
  by_cases e : k = i
  · subst e; rw [if_pos rfl, if_pos rfl]
  · rw [if_neg e, if_neg (by omega)]
theorem rq_tree {G : GH} {q B : Option Addr} {b8 R n cb : Nat} {m : ShM} {s : Shf} {T : Nat → Value} {K : (Nat → Value) → GH → Prop} (hP : ShP G q m s) (h8 : rd G (some ⟨b8, 1, none⟩) = some (.int .i64 R)) (hR : R ≤ 2 ^ 10) (hn : n ≤ 2 ^ 10)
    (t0 : T 0 = .pointer q) (t8 : T 8 = .pointer (some ⟨b8, 0, none⟩)) (t10 : T 10 = .slice B n cb)
    (hK : ∀ T' G' b14 bz, Sub G G' → G bz = none → b14 ≠ bz → (∀ l, l ≤ 13 → T' l = T l) → T' 14 = .pointer (some ⟨b14, 0, none⟩) → G' b14 = some ⟨mat4 s.p R n (some ⟨bz, 0, none⟩) (R * n), true⟩ → G' bz = some ⟨zc [.int .i64 0] (R * n), true⟩ → K T' G') : gT Tryz.prog k17x [] K T G := by
  have f1 := hP.f1
  have hq := rd_some hP.f0
  have one4 : ∀ {bz : Nat}, ∀ v ∈ [Value.int .i64 s.p, .int .i64 R, .int .i64 n, .slice (some ⟨bz, 0, none⟩) (R * n) (R * n)], oneB v = true := fun v hv => by simp at hv; rcases hv with rfl | rfl | rfl | rfl <;> rfl
  simp (maxSteps := 300000) (disch := omega) only [gws, ↓reduceIte, reduceEqDiff, reduceToNat, reduceMul, reduceAdd, Nat.reduceBEq, isLd, t0, t8, t10, f1, h8]
  refine ⟨spec_l03Zero_ok hR hn fun bz hbz => ?_, fun b5 hb5 => ?_⟩
  · have sz := Sub.put hbz ⟨zc [.int .i64 0] (R * n), true⟩
    unfold matV matC
    simp (maxSteps := 300000) (disch := omega) only [gws, ↓reduceIte, reduceEqDiff, reduceToNat, reduceMul, reduceAdd, Nat.reduceBEq, isLd, t0, t8, t10, rd_sub sz f1, rd_sub sz h8]
    intro b5 hb5
    have nz : b5 ≠ bz := (put_none.1 hb5).1
    have s5 := Sub.put hb5 ⟨[.int .i64 s.p, .int .i64 R, .int .i64 n, .slice (some ⟨bz, 0, none⟩) (R * n) (R * n)], true⟩
    have s5z := Sub.put hb5 ⟨[.int .i64 0, .int .i64 0, .int .i64 0, .slice none 0 0], true⟩
    refine ⟨⟨rd_sub s5z (rd_sub sz h8), rd_sub s5z (rd_sub sz f1), trivial⟩, ?_⟩
    simp (maxSteps := 300000) (disch := omega) only [gws, ↓reduceIte, reduceEqDiff, reduceToNat, reduceMul, reduceAdd, Nat.reduceBEq, isLd]
    refine st_fresh (vs := [.int .i64 s.p, .int .i64 R, .int .i64 n, .slice (some ⟨bz, 0, none⟩) (R * n) (R * n)]) rfl rfl rfl one4 ?_
    simp (maxSteps := 300000) (disch := omega) only [gws, ↓reduceIte, reduceEqDiff, reduceToNat, reduceMul, reduceAdd, Nat.reduceBEq, isLd]
    exact hK _ _ b5 bz (sz.trans s5) hbz nz (fun i hi => by repeat rw [upd_app, if_neg (by omega)]) (by simp (maxSteps := 300000) (disch := omega) only [gws, ↓reduceIte, reduceEqDiff, reduceToNat, reduceMul, reduceAdd, Nat.reduceBEq, isLd]) (put_same _ _ _) (s5 _ _ (put_same _ _ _))
  · have s5 := Sub.put hb5 ⟨[.int .i64 0, .int .i64 0, .int .i64 0, .slice none 0 0], true⟩
    refine ⟨⟨rd_sub s5 h8, rd_sub s5 f1, trivial⟩, ?_⟩
    simp (maxSteps := 300000) (disch := omega) only [gws, ↓reduceIte, reduceEqDiff, reduceToNat, reduceMul, reduceAdd, Nat.reduceBEq, isLd]
    refine spec_l03Zero_ok hR hn fun bz hbz => ?_
    have nz : bz ≠ b5 := (put_none.1 hbz).1
    have gz : G bz = none := (put_none.1 hbz).2
    have sz := Sub.put hbz ⟨zc [.int .i64 0] (R * n), true⟩
    unfold matV matC
    simp (maxSteps := 300000) (disch := omega) only [gws, ↓reduceIte, reduceEqDiff, reduceToNat, reduceMul, reduceAdd, Nat.reduceBEq, isLd]
    refine st_many (vs := [.int .i64 s.p, .int .i64 R, .int .i64 n, .slice (some ⟨bz, 0, none⟩) (R * n) (R * n)]) rfl (sz _ _ (put_same _ _ _)) rfl (by simp) one4 ?_
    simp (maxSteps := 300000) (disch := omega) only [gws, ↓reduceIte, reduceEqDiff, reduceToNat, reduceMul, reduceAdd, Nat.reduceBEq, isLd, over]
    exact hK _ _ b5 bz ((s5.trans sz).skip hb5) gz (Ne.symm nz) (fun i hi => by repeat rw [upd_app, if_neg (by omega)]) (by simp (maxSteps := 300000) (disch := omega) only [gws, ↓reduceIte, reduceEqDiff, reduceToNat, reduceMul, reduceAdd, Nat.reduceBEq, isLd]) (put_same _ _ _) (by rw [put_ne _ _ nz]; exact put_same _ _ _)
theorem rq_l4 {D G : GH} {q Y : Option Addr} {R y : Nat} {m : ShM} {s : Shf} {g : Int → Int} {T : Nat → Value} {Q : Cont} (hP : ShP D q m s) (hp : 2 ≤ s.p ∧ s.p ≤ 251) (hg : ∀ i, 0 ≤ g i ∧ g i < s.p) (hR : R ≤ 2 ^ 10) (hS : Sub D G) (hO : Own G Y y ((rowL R g).map I64) 1 R) (oY : Off D Y)
    (t0 : T 0 = .pointer q) (t17 : T 17 = .slice Y R y) (t18 : T 18 = .int .i64 0)
    (hQ : ∀ T' G', SameF 17 T' T → Sub D G' → Own G' Y y ((rowL R fun i => (-(g i)) % s.p).map I64) 1 R → Q (.ex 8) T' G') : gLoop (gW Tryz.prog k18c) Q T G := by
  have hq := rd_some hP.f0
  refine gLoop_intro (fun mm T' G' => ∃ i : Nat, SameF 17 T' T ∧ T' 18 = .int .i64 i ∧ mm + i = R ∧ i ≤ R ∧ Sub D G' ∧ Own G' Y y ((rowL R fun a => if a < i then (-(g a)) % s.p else g a).map I64) 1 R) R
    ⟨0, fun _ _ => rfl, t18, by omega, by omega, hS, hO.cast (congrArg (List.map I64) (rowL_congr fun j hj => by rw [if_neg (by omega)])) rfl⟩ ?_
  clear hS hO
  rintro mm T1 G1 ⟨i, hT, e18, hm, hi, hS, hO⟩
  have e0 : T1 0 = .pointer q := (hT 0 (by omega)).trans t0
  have e17 : T1 17 = .slice Y R y := (hT 17 (by omega)).trans t17
  simp (maxSteps := 300000) (disch := omega) only [gws, ↓reduceIte, reduceEqDiff, reduceToNat, reduceMul, reduceAdd, Nat.reduceBEq, isLd, e17, e18]
  by_cases hii : (i : Int) < R
  · have hI := hO.ints' (rowL_len _ _).symm
    have ri := hI.rd i (by rw [rowL_len]; omega)
    rw [rowL_get _ (by omega), if_neg (by omega)] at ri
    have hYn := hI.sn (by rw [rowL_len]; omega)
    have hP1 := hP.sub hS
    have f1 := hP1.f1
    have hgi := hg i
    have w1 := w64 (-(g i)) (by omega) (by omega)
    simp (maxSteps := 300000) (disch := omega) only [gws, ↓reduceIte, reduceEqDiff, reduceToNat, reduceMul, reduceAdd, Nat.reduceBEq, isLd, e0, e17, e18, hii, ri, f1, w1]
    refine spec_l03Mod_ok ⟨by omega, by omega⟩ ?_
    simp (maxSteps := 300000) (disch := omega) only [gws, ↓reduceIte, reduceEqDiff, reduceToNat, reduceMul, reduceAdd, Nat.reduceBEq, isLd, ri]
    refine hO.storeG (k := i) (by omega) rfl fun G2 hO2 u => ?_
    have hset : ((rowL R fun a => if a < i then (-(g a)) % s.p else g a).map I64).set i (.int .i64 ((-(g i)) % s.p)) = (rowL R fun a => if a < ((i + 1 : Nat) : Int) then (-(g a)) % s.p else g a).map I64 := by
      rw [show Value.int .i64 ((-(g i)) % s.p) = I64 ((-(g i)) % s.p) from rfl, ← List.map_set, rowL_set]
      refine congrArg (List.map I64) (rowL_congr fun j hj => ?_)
      by_cases e : (j : Int) = i
      · rw [if_pos e, if_pos (by omega), e]
      · rw [if_neg e]
        by_cases e2 : (j : Int) < i
        · rw [if_pos e2, if_pos (by omega)]
        · rw [if_neg e2, if_neg (by omega)]
    rw [Int.zero_sub, hset] at hO2
    simp (maxSteps := 300000) (disch := omega) only [gws, ↓reduceIte, reduceEqDiff, reduceToNat, reduceMul, reduceAdd, Nat.reduceBEq, isLd, e18]
    refine ⟨mm - 1, by omega, G2, Sub.refl _, i + 1, fun l hl => ?_, rfl, by omega, by omega, u.sub hS fun x ⟨a, ha, hx⟩ => by rw [← hx]; exact oY a ha, hO2⟩
    repeat first | rw [upd_app, if_neg (by omega)] | rw [if_neg (by omega)]
    exact hT l hl
  · obtain rfl : i = R := by omega
    simp (maxSteps := 300000) (disch := omega) only [gws, ↓reduceIte, reduceEqDiff, reduceToNat, reduceMul, reduceAdd, Nat.reduceBEq, isLd, e17, e18, hii]
    refine hQ _ _ (fun l hl => ?_) hS (hO.cast (congrArg (List.map I64) (rowL_congr fun j hj => by rw [if_pos (by omega)])) rfl)
    repeat rw [upd_app, if_neg (by omega)]
    exact hT l hl
theorem rq_l5 {D G : GH} {by' n kc c : Nat} {B Kp : Option Addr} {L k : List Int} {y : Int → Int} {T : Nat → Value} {Q : Cont} (hR : RQ D G B Kp c kc L k) (hy : D by' = some ⟨fcells L.length y, true⟩) (hb : ∀ j, j < L.length → 0 ≤ L.getD j 0 ∧ L.getD j 0 < n) (hn : n = k.length) (hll : L.length ≤ 2 ^ 10)
    (t9 : T 9 = .slice Kp n kc) (t10 : T 10 = .slice B L.length c) (t19 : T 19 = .slice (some ⟨by', 0, none⟩) L.length L.length) (t20 : T 20 = .bool true) (t21 : T 21 = .int .i64 0)
    (hQ : ∀ T' G', SameF 20 T' T → RQ D G' B Kp c kc L (kyN L y k L.length) → Q (.ex 10) T' G') : gLoop (gW Tryz.prog k18i) Q T G := by
  refine gLoop_intro (fun mm T' G' => ∃ i : Nat, SameF 20 T' T ∧ T' 21 = .int .i64 i ∧ mm + i = L.length ∧ i ≤ L.length ∧ RQ D G' B Kp c kc L (kyN L y k i)) L.length
    ⟨0, fun _ _ => rfl, t21, by omega, by omega, hR⟩ ?_
  clear hR
  rintro mm T1 G1 ⟨i, hT, e21, hm, hi, hR⟩
  have e9 : T1 9 = .slice Kp n kc := (hT 9 (by omega)).trans t9
  have e10 : T1 10 = .slice B L.length c := (hT 10 (by omega)).trans t10
  have e19 : T1 19 = .slice (some ⟨by', 0, none⟩) L.length L.length := (hT 19 (by omega)).trans t19
  have e20 : T1 20 = .bool true := (hT 20 (by omega)).trans t20
  simp (maxSteps := 300000) (disch := omega) only [gws, ↓reduceIte, reduceEqDiff, reduceToNat, reduceMul, reduceAdd, Nat.reduceBEq, isLd, e10, e20, e21]
  by_cases hii : (i : Int) < L.length
  · have hbi := hb i (by omega)
    obtain ⟨q, hq⟩ : ∃ q : Nat, L.getD i 0 = q := ⟨(L.getD i 0).toNat, by omega⟩
    have ri := hR.own.ints.rd i (by omega)
    rw [hq] at ri hbi
    have hsB := hR.own.ints.sn (by omega)
    have hkl := kyN_len L y k i
    have hsK := hR.kep.ints.sn (by omega)
    have ry : rd G1 (some ⟨by', i, none⟩) = some (.int .i64 (y i)) := by
      have := rd_fcells (hR.sub _ _ hy) (v := (i : Int)) (by omega) hii
      rwa [Int.toNat_natCast] at this
    simp (maxSteps := 300000) (disch := omega) only [gws, ↓reduceIte, reduceEqDiff, reduceToNat, reduceMul, reduceAdd, Nat.reduceBEq, isLd, e9, e10, e19, e20, e21, hii, ri, ry]
    refine hR.store (i := q) (by omega) fun G2 hR2 => ?_
    have hst : (kyN L y k i).set q (y i) = kyN L y k (i + 1) := by rw [kyN, hq, Int.toNat_natCast]
    rw [hst] at hR2
    simp (maxSteps := 300000) (disch := omega) only [gws, ↓reduceIte, reduceEqDiff, reduceToNat, reduceMul, reduceAdd, Nat.reduceBEq, isLd, e21]
    refine ⟨mm - 1, by omega, G2, Sub.refl _, i + 1, fun l hl => ?_, rfl, by omega, by omega, hR2⟩
    repeat first | rw [upd_app, if_neg (by omega)] | rw [if_neg (by omega)]
    exact hT l hl
  · obtain rfl : i = L.length := by omega
    simp (maxSteps := 300000) (disch := omega) only [gws, ↓reduceIte, reduceEqDiff, reduceToNat, reduceMul, reduceAdd, Nat.reduceBEq, isLd, e10, e20, e21, hii]
    refine hQ _ _ (fun l hl => ?_) hR
    repeat rw [upd_app, if_neg (by omega)]
    exact hT l hl
theorem spec_l17Repair_ok {G : GH} {q X W : Option Addr} {c w : Nat} {m : ShM} {s : Shf} {x ws : List Int} (h : ShP G q m s) (hs : ShOk s) (hms : s.ms.length ≤ 2 ^ 20) (hx : IntS G X c x) (hr : RdOk s x) (hw : IntS G W w ws) (hv : VtOk s ws) {K : Value → GH → Prop}
    (h0 : ¬ RepP s x ws → ∀ G' Y y, Sub G G' → K (.tuple [.slice Y x.length y, .bool false].toArray) G')
    (h1 : RepP s x ws → ∀ G' Y y, New G G' Y y ((repV s x ws).map I64) 1 (repV s x ws).length → K (.tuple [.slice Y (repV s x ws).length y, .bool true].toArray) G') : GC Tryz.prog 67 [.pointer q, .slice X x.length c, .slice W ws.length w] G K := by
  refine GC_drop (k18m (by simp) ?_)
  have hw1 := @rq_l1
  have hwt := @rq_tree
  have hw3 := @rq_l3
  have hw4 := @rq_l4
  have hw5 := @rq_l5
  unfold k18k
  generalize k17w = L1 at hw1 ⊢
  generalize k17x = D15 at hwt ⊢
  generalize k186 = L3 at hw3 ⊢
  generalize k18c = L4 at hw4 ⊢
  generalize hL5 : k18i = L5 at hw5 ⊢
  have hR := nR_eq hs
  have hC := nC_eq hs
  have hb := rd_bd hs hr
  obtain ⟨hcl, hcb⟩ := cols_ok hs hv
  have hp1 := hs.p.1
  have hp2 := hs.p.2.1
  have hq := rd_some h.f0
  simp (maxSteps := 300000) (disch := omega) only [gws, ↓reduceIte, reduceEqDiff, reduceToNat, reduceMul, reduceAdd, Nat.reduceBEq, isLd]
  refine spec_l11Matrix_ok (m := m) (s := s) (R := nR s) (C := nC s) h hs hms hR.1 hC.1 fun G2 D e s2 oD hI => ?_
  unfold matV matC
  simp (maxSteps := 300000) (disch := omega) only [gws, ↓reduceIte, reduceEqDiff, reduceToNat, reduceMul, reduceAdd, Nat.reduceBEq, isLd]
  intro b8 hb8
  simp (maxSteps := 300000) (disch := omega) only [gws, ↓reduceIte, reduceEqDiff, reduceToNat, reduceMul, reduceAdd, Nat.reduceBEq, isLd]
  refine st_fresh (vs := [.int .i64 s.p, .int .i64 (nR s), .int .i64 (nC s), .slice D (nR s * nC s) e]) rfl rfl rfl (by intro v hv; simp at hv; rcases hv with rfl | rfl | rfl | rfl <;> rfl) ?_
  have s8 := Sub.put hb8 ⟨[.int .i64 s.p, .int .i64 (nR s), .int .i64 (nC s), .slice D (nR s * nC s) e], true⟩
  have hB := MB.mk' (p := s.p) hb8 hI
  unfold mat4 at hB
  revert s8 hB
  generalize put G2 b8 ⟨[.int .i64 s.p, .int .i64 (nR s), .int .i64 (nC s), .slice D (nR s * nC s) e], true⟩ = G3
  intro s8 hB
  have s03 := s2.trans s8
  have hP3 := h.sub s03
  simp (maxSteps := 300000) (disch := omega) only [gws, ↓reduceIte, reduceEqDiff, reduceToNat, reduceMul, reduceAdd, Nat.reduceBEq, isLd]
  refine spec_l00Own_ok (hx.sub s03) (by omega) fun G4 Kp kc hN => ?_
  simp (maxSteps := 300000) (disch := omega) only [gws, ↓reduceIte, reduceEqDiff, reduceToNat, reduceMul, reduceAdd, Nat.reduceBEq, isLd, gBs]
  refine ⟨fun v hv => (by cases hv), fun b10 hb10 => ?_⟩
  simp only [List.flatMap_nil]
  have s10 := Sub.put hb10 ⟨[], true⟩
  have n10 : G3 b10 = none := hN.sub.none hb10
  have dK3 : Off G3 Kp := fun a ha => on_rest (own_ne hN.own a ha)
  have hQ0 : RQ G3 (put G4 b10 ⟨[], true⟩) (some ⟨b10, 0, none⟩) Kp 0 kc [] x := by
    refine ⟨hN.sub.trans s10, .inr ⟨b10, [], rfl, put_same _ _ _, rfl, rfl, Nat.le_refl _⟩, (hN.own.sub (Sub.rest _ _)).sub s10, fun a ha => by cases ha; exact n10, dK3, fun a b ha hb' e' => ?_⟩
    cases ha
    have := own_ne (hN.own.sub (Sub.rest _ _)) b hb'
    rw [← e'] at this; exact this hb10
  revert hQ0
  generalize put G4 b10 ⟨[], true⟩ = G5
  intro hQ0
  clear hN s10 hb10
  refine hw1 (D := G3) (n := x.length) (kc := kc) (ws := ws) hP3 hs (hw.sub s03) hv rfl hb.2 hQ0 (by simp (maxSteps := 300000) (disch := omega) only [gws, ↓reduceIte, reduceEqDiff, reduceToNat, reduceMul, reduceAdd, Nat.reduceBEq, isLd]) (by simp (maxSteps := 300000) (disch := omega) only [gws, ↓reduceIte, reduceEqDiff, reduceToNat, reduceMul, reduceAdd, Nat.reduceBEq, isLd]) (by simp (maxSteps := 300000) (disch := omega) only [gws, ↓reduceIte, reduceEqDiff, reduceToNat, reduceMul, reduceAdd, Nat.reduceBEq, isLd]) (by simp (maxSteps := 300000) (disch := omega) only [gws, ↓reduceIte, reduceEqDiff, reduceToNat, reduceMul, reduceAdd, Nat.reduceBEq, isLd] <;> rfl) (by simp (maxSteps := 300000) (disch := omega) only [gws, ↓reduceIte, reduceEqDiff, reduceToNat, reduceMul, reduceAdd, Nat.reduceBEq, isLd] <;> rfl) fun T1 G6 B c1 hT1 t10 hQ1 => ?_
  have t0 : T1 0 = .pointer q := by rw [hT1 0 (by omega)]; simp (maxSteps := 300000) (disch := omega) only [gws, ↓reduceIte, reduceEqDiff, reduceToNat, reduceMul, reduceAdd, Nat.reduceBEq, isLd]
  have t8 : T1 8 = .pointer (some ⟨b8, 0, none⟩) := by rw [hT1 8 (by omega)]; simp (maxSteps := 300000) (disch := omega) only [gws, ↓reduceIte, reduceEqDiff, reduceToNat, reduceMul, reduceAdd, Nat.reduceBEq, isLd]
  have t9 : T1 9 = .slice Kp x.length kc := by rw [hT1 9 (by omega)]; simp (maxSteps := 300000) (disch := omega) only [gws, ↓reduceIte, reduceEqDiff, reduceToNat, reduceMul, reduceAdd, Nat.reduceBEq, isLd]
  clear hT1 hQ0 G5
  have s36 := hQ1.sub
  simp (maxSteps := 300000) (disch := omega) only [gws, ↓reduceIte, reduceEqDiff, reduceToNat, reduceMul, reduceAdd, Nat.reduceBEq, isLd, t0, t8, t9, t10]
  refine hwt (hP3.sub s36) (hB.sub s36).f1 (by omega) (by omega) t0 t8 t10 fun T2 G7 b14 bz s7 nz n14 hT2 t14 g14 gz => ?_
  have t0 : T2 0 = .pointer q := by rw [hT2 0 (by omega)]; exact t0
  have t8 : T2 8 = .pointer (some ⟨b8, 0, none⟩) := by rw [hT2 8 (by omega)]; exact t8
  have t9 : T2 9 = .slice Kp x.length kc := by rw [hT2 9 (by omega)]; exact t9
  have t10 : T2 10 = .slice B (colsL s ws).length c1 := by rw [hT2 10 (by omega)]; exact t10
  clear hT2
  -- the ground: all but the part's cells
  have sH : Sub G6 (del G7 bz) := s7.in_del nz
  have h14 : del G7 bz b14 = some ⟨mat4 s.p (nR s) (colsL s ws).length (some ⟨bz, 0, none⟩) (nR s * (colsL s ws).length), true⟩ := by rw [del_ne _ n14]; exact g14
  have hWF : WF (del G7 bz) G7 (some ⟨bz, 0, none⟩) (nR s * (colsL s ws).length) (nR s) (colsL s ws).length (fun _ _ => 0) := by
    refine ⟨.inr ⟨bz, [], rfl, ?_, by simp [flatL_len], by simp [flatL_len], Nat.le_refl _⟩, Sub.del _ _, fun a ha => by cases ha; exact del_none _ _⟩
    rw [gz, List.append_nil, zc_one]
    congr 2
    refine List.ext_getElem (by simp [flatL_len]) fun i h1 h2 => ?_
    simp [flatL, I64]
  have hBH := hB.sub (s36.trans sH)
  simp (maxSteps := 300000) (disch := omega) only [gws, ↓reduceIte, reduceEqDiff, reduceToNat, reduceMul, reduceAdd, Nat.reduceBEq, isLd, t0, t8, t9, t10, t14]
  refine hw3 hBH h14 (hQ1.own.ints.sub sH) hcb (by omega) (by omega) (by omega) hWF (by simp (maxSteps := 300000) (disch := omega) only [gws, ↓reduceIte, reduceEqDiff, reduceToNat, reduceMul, reduceAdd, Nat.reduceBEq, isLd, t8]) (by simp (maxSteps := 300000) (disch := omega) only [gws, ↓reduceIte, reduceEqDiff, reduceToNat, reduceMul, reduceAdd, Nat.reduceBEq, isLd, t10]) (by simp (maxSteps := 300000) (disch := omega) only [gws, ↓reduceIte, reduceEqDiff, reduceToNat, reduceMul, reduceAdd, Nat.reduceBEq, isLd, t14]) (by simp (maxSteps := 300000) (disch := omega) only [gws, ↓reduceIte, reduceEqDiff, reduceToNat, reduceMul, reduceAdd, Nat.reduceBEq, isLd] <;> rfl) fun T3 G8 hT3 hF => ?_
  have t0 : T3 0 = .pointer q := by rw [hT3 0 (by omega)]; simp (maxSteps := 300000) (disch := omega) only [gws, ↓reduceIte, reduceEqDiff, reduceToNat, reduceMul, reduceAdd, Nat.reduceBEq, isLd, t0]
  have t8 : T3 8 = .pointer (some ⟨b8, 0, none⟩) := by rw [hT3 8 (by omega)]; simp (maxSteps := 300000) (disch := omega) only [gws, ↓reduceIte, reduceEqDiff, reduceToNat, reduceMul, reduceAdd, Nat.reduceBEq, isLd, t8]
  have t9 : T3 9 = .slice Kp x.length kc := by rw [hT3 9 (by omega)]; simp (maxSteps := 300000) (disch := omega) only [gws, ↓reduceIte, reduceEqDiff, reduceToNat, reduceMul, reduceAdd, Nat.reduceBEq, isLd, t9]
  have t10 : T3 10 = .slice B (colsL s ws).length c1 := by rw [hT3 10 (by omega)]; simp (maxSteps := 300000) (disch := omega) only [gws, ↓reduceIte, reduceEqDiff, reduceToNat, reduceMul, reduceAdd, Nat.reduceBEq, isLd, t10]
  have t14 : T3 14 = .pointer (some ⟨b14, 0, none⟩) := by rw [hT3 14 (by omega)]; simp (maxSteps := 300000) (disch := omega) only [gws, ↓reduceIte, reduceEqDiff, reduceToNat, reduceMul, reduceAdd, Nat.reduceBEq, isLd, t14]
  clear hT3
  have s68 := sH.trans hF.s
  have hQ8 := hQ1.up s68
  have hB8 := hBH.sub hF.s
  have h14 := hF.s _ _ h14
  have hI2 := hF.ints
  rw [repF_lt (x := x)] at hI2
  have hM8 : MQ G8 (some ⟨b8, 0, none⟩) s.p (nR s) (nC s) D e (cobF s) := ⟨hB8.f0, by rw [pa_mk]; exact hB8.f1, by rw [pa_mk]; exact hB8.f2, by rw [pa_mk]; exact hB8.f3, hB8.m⟩
  have hk8 := hQ8.kep.ints
  have hkl := kz_len x (colsL s ws)
  clear hF hBH hWF
  simp (maxSteps := 300000) (disch := omega) only [gws, ↓reduceIte, reduceEqDiff, reduceToNat, reduceMul, reduceAdd, Nat.reduceBEq, isLd, t0, t8, t9, t10, t14]
  have key := fun K => spec_l03Apply_ok (p := s.p) (R := nR s) (C := nC s) hM8 hk8 (by rw [hkl]; exact hb.2) (by omega) (by omega) ⟨hp1, hp2⟩ (cobF_bd ⟨hp1, hp2⟩) (kz_bd (by omega) hb.1 _) (K := K)
  rw [hkl] at key
  refine key _ fun G9 Y9 y9 hN9 => ?_
  rw [goal_row] at hN9
  have hP9 := hP3.sub ((s36.trans s68))
  simp (maxSteps := 300000) (disch := omega) only [gws, ↓reduceIte, reduceEqDiff, reduceToNat, reduceMul, reduceAdd, Nat.reduceBEq, isLd, t0, t8, t9, t10, t14]
  refine hw4 (D := G8) (g := fun i => dsum (cobF s i) (colF (kz x (colsL s ws))) (nC s) % s.p) hP9 ⟨hp1, hp2⟩ (fun i => ⟨Int.emod_nonneg _ (by omega), Int.emod_lt_of_pos _ (by omega)⟩) (by omega) hN9.sub (hN9.own.sub (Sub.rest _ _)) (fun a ha => on_rest (own_ne hN9.own a ha)) (by simp (maxSteps := 300000) (disch := omega) only [gws, ↓reduceIte, reduceEqDiff, reduceToNat, reduceMul, reduceAdd, Nat.reduceBEq, isLd, t0]) (by simp (maxSteps := 300000) (disch := omega) only [gws, ↓reduceIte, reduceEqDiff, reduceToNat, reduceMul, reduceAdd, Nat.reduceBEq, isLd]) (by simp (maxSteps := 300000) (disch := omega) only [gws, ↓reduceIte, reduceEqDiff, reduceToNat, reduceMul, reduceAdd, Nat.reduceBEq, isLd] <;> rfl) fun T4 G10 hT4 s910 hO10 => ?_
  have t9 : T4 9 = .slice Kp x.length kc := by rw [hT4 9 (by omega)]; simp (maxSteps := 300000) (disch := omega) only [gws, ↓reduceIte, reduceEqDiff, reduceToNat, reduceMul, reduceAdd, Nat.reduceBEq, isLd, t9]
  have t10 : T4 10 = .slice B (colsL s ws).length c1 := by rw [hT4 10 (by omega)]; simp (maxSteps := 300000) (disch := omega) only [gws, ↓reduceIte, reduceEqDiff, reduceToNat, reduceMul, reduceAdd, Nat.reduceBEq, isLd, t10]
  have t14 : T4 14 = .pointer (some ⟨b14, 0, none⟩) := by rw [hT4 14 (by omega)]; simp (maxSteps := 300000) (disch := omega) only [gws, ↓reduceIte, reduceEqDiff, reduceToNat, reduceMul, reduceAdd, Nat.reduceBEq, isLd, t14]
  have t17 : T4 17 = .slice Y9 (nR s) y9 := by rw [hT4 17 (by omega)]; simp (maxSteps := 300000) (disch := omega) only [gws, ↓reduceIte, reduceEqDiff, reduceToNat, reduceMul, reduceAdd, Nat.reduceBEq, isLd]
  clear hT4
  have hIb : IntS G10 Y9 y9 (rowL (nR s) fun j => repF s x ws j ((colsL s ws).length : Int)) := by
    have := hO10.ints' (rowL_len _ _).symm
    rwa [show (rowL (nR s) fun i => (-(dsum (cobF s i) (colF (kz x (colsL s ws))) (nC s) % s.p)) % s.p) = rowL (nR s) fun j => repF s x ws j ((colsL s ws).length : Int) from rowL_congr fun j hj => by rw [repF_at]; rfl] at this
  have hMB : MatB G10 b14 s.p (nR s) (colsL s ws).length (some ⟨bz, 0, none⟩) (nR s * (colsL s ws).length) (nR s * (colsL s ws).length) := by
    have := s910 _ _ h14
    unfold mat4 at this
    exact ⟨by simp only [rd, this]; rfl, by simp only [rd, this]; rfl, by simp only [rd, this]; rfl, by simp only [rd, this]; rfl⟩
  have s06 := s03.trans s36
  simp (maxSteps := 300000) (disch := omega) only [gws, ↓reduceIte, reduceEqDiff, reduceToNat, reduceMul, reduceAdd, Nat.reduceBEq, isLd, t9, t10, t14, t17]
  refine spec_l03SolveRC_ok (F := repF s x ws) hMB (hI2.sub s910) hIb (by omega) (by omega) (repF_rg (by omega) x ws) ⟨by omega, by omega⟩ (fun hm => ?_) fun hm G11 bx s11 nx gx1 => ?_
  · simp (maxSteps := 300000) (disch := omega) only [gws, ↓reduceIte, reduceEqDiff, reduceToNat, reduceMul, reduceAdd, Nat.reduceBEq, isLd, t9, t10, t14, t17]
    subst hL5
    refine gLoop_intro (fun mm T' G' => T' 9 = .slice Kp x.length kc ∧ T' 10 = .slice B (colsL s ws).length c1 ∧ T' 20 = .bool false ∧ T' 21 = .int .i64 0 ∧ G' = G10) 0 ⟨by simp (maxSteps := 300000) (disch := omega) only [gws, ↓reduceIte, reduceEqDiff, reduceToNat, reduceMul, reduceAdd, Nat.reduceBEq, isLd, t9], by simp (maxSteps := 300000) (disch := omega) only [gws, ↓reduceIte, reduceEqDiff, reduceToNat, reduceMul, reduceAdd, Nat.reduceBEq, isLd, t10], by simp (maxSteps := 300000) (disch := omega) only [gws, ↓reduceIte, reduceEqDiff, reduceToNat, reduceMul, reduceAdd, Nat.reduceBEq, isLd], by simp (maxSteps := 300000) (disch := omega) only [gws, ↓reduceIte, reduceEqDiff, reduceToNat, reduceMul, reduceAdd, Nat.reduceBEq, isLd] <;> rfl, rfl⟩ ?_
    rintro mm T' G' ⟨e9, e10, e20, e21, rfl⟩
    have fin : K (.tuple [.slice Kp x.length kc, .bool false].toArray) G' := h0 (fun y => y hm) _ _ _ ((s06.trans s68).trans s910)
    by_cases hz : (0 : Int) < ((colsL s ws).length : Nat)
    · simp (maxSteps := 300000) (disch := omega) only [gws, ↓reduceIte, reduceEqDiff, reduceToNat, reduceMul, reduceAdd, Nat.reduceBEq, isLd, e9, e10, e20, e21, hz]
      exact ⟨_, Sub.refl _, fin⟩
    · simp (maxSteps := 300000) (disch := omega) only [gws, ↓reduceIte, reduceEqDiff, reduceToNat, reduceMul, reduceAdd, Nat.reduceBEq, isLd, e9, e10, e20, e21, hz]
      exact ⟨_, Sub.refl _, fin⟩
  · have hy : RepP s x ws := hm
    obtain ⟨hQ11, hs11, hr11⟩ := (hQ8.up s910).grow s11
    have hby : rem2 G11 B Kp bx = some ⟨fcells (colsL s ws).length (repY s x ws), true⟩ := hr11 _ _ (rest_some.2 ⟨nx, gx1⟩)
    simp (maxSteps := 300000) (disch := omega) only [gws, ↓reduceIte, reduceEqDiff, reduceToNat, reduceMul, reduceAdd, Nat.reduceBEq, isLd, t9, t10, t14, t17]
    refine hw5 (n := x.length) hQ11 hby (fun j hj => by have := hcb j hj; rw [hb.2]; exact this) hkl.symm (by omega) (by simp (maxSteps := 300000) (disch := omega) only [gws, ↓reduceIte, reduceEqDiff, reduceToNat, reduceMul, reduceAdd, Nat.reduceBEq, isLd, t9]) (by simp (maxSteps := 300000) (disch := omega) only [gws, ↓reduceIte, reduceEqDiff, reduceToNat, reduceMul, reduceAdd, Nat.reduceBEq, isLd, t10]) (by simp (maxSteps := 300000) (disch := omega) only [gws, ↓reduceIte, reduceEqDiff, reduceToNat, reduceMul, reduceAdd, Nat.reduceBEq, isLd]) (by simp (maxSteps := 300000) (disch := omega) only [gws, ↓reduceIte, reduceEqDiff, reduceToNat, reduceMul, reduceAdd, Nat.reduceBEq, isLd]) (by simp (maxSteps := 300000) (disch := omega) only [gws, ↓reduceIte, reduceEqDiff, reduceToNat, reduceMul, reduceAdd, Nat.reduceBEq, isLd] <;> rfl) fun T5 G12 hT5 hQ12 => ?_
    have u9 : T5 9 = .slice Kp x.length kc := by rw [hT5 9 (by omega)]; simp (maxSteps := 300000) (disch := omega) only [gws, ↓reduceIte, reduceEqDiff, reduceToNat, reduceMul, reduceAdd, Nat.reduceBEq, isLd, t9]
    have u20 : T5 20 = .bool true := by rw [hT5 20 (by omega)]; simp (maxSteps := 300000) (disch := omega) only [gws, ↓reduceIte, reduceEqDiff, reduceToNat, reduceMul, reduceAdd, Nat.reduceBEq, isLd]
    simp (maxSteps := 300000) (disch := omega) only [gws, ↓reduceIte, reduceEqDiff, reduceToNat, reduceMul, reduceAdd, Nat.reduceBEq, isLd, u9, u20]
    have hs12 : Sub G3 G12 := hs11.trans hQ12.sub
    obtain ⟨G'', u1, hN''⟩ := (hQ12.kep.new hs12 dK3)
    obtain ⟨G3', u2, hN3⟩ := hN''.low s03
    have := h1 hy G3' Kp kc hN3
    unfold repV at this
    rw [kyN_len, kz_len] at this
    exact ⟨G3', u2.trans u1, this⟩
theorem spec_RepairWith_ok {G : GH} {X W : Option Addr} {c w : Nat} {m : ShM} {s : Shf} {x ws : List Int} (h : ShG G m s) (hsm : ShSm s) (hx : IntS G X c x) (hl : x.length < 2 ^ 40) (hw : IntS G W w ws) (hwl : ws.length < 2 ^ 40) {K : Value → GH → Prop}
    (hk : LI (repW s x ws) K G) : GC Tryz.prog 29 [shV m s, .slice X x.length c, .slice W ws.length w] G K := by
  refine GC_drop (ku8 (by simp) ?_)
  unfold shV shC
  simp (maxSteps := 300000) (disch := omega) only [gws, ↓reduceIte, reduceEqDiff, reduceToNat, reduceMul, reduceAdd, Nat.reduceBEq, isLd]
  intro b2 hb2
  have s1 := Sub.put hb2 ⟨shC m s, true⟩
  have hP := ShP.box hb2 h
  unfold shC at s1 hP
  revert s1 hP
  generalize put G b2 ⟨[.slice m.A s.base.length m.c, .int .i64 s.p, .slice m.S s.st.length m.e, .slice m.M s.ms.length m.l], true⟩ = G1
  intro s1 hP
  simp (maxSteps := 300000) (disch := omega) only [gws, ↓reduceIte, reduceEqDiff, reduceToNat, reduceMul, reduceAdd, Nat.reduceBEq, isLd]
  refine spec_l11Cochain_ok hP hsm (hx.sub s1) hl ?_
  by_cases h0 : codeC s x = 0
  · obtain ⟨hs, hr⟩ := codeC_ok h0
    rw [h0]
    simp (maxSteps := 300000) (disch := omega) only [gws, ↓reduceIte, reduceEqDiff, reduceToNat, reduceMul, reduceAdd, Nat.reduceBEq, isLd]
    refine spec_l17Vertices_ok hP hs.b (hw.sub s1) hwl fun z hz => ?_
    cases z
    · have hnv : ¬ VtOk s ws := fun y => by have := hz.2 y; cases this
      have hn : codeR s x ws = 7 := by
        unfold codeR codeC at *
        by_cases h1 : ShG' s
        · rw [if_pos h1]; rw [if_pos h1] at h0
          by_cases h2 : RdOk s x
          · rw [if_pos h2, if_neg hnv]
          · exact absurd hr h2
        · rw [if_neg h1] at h0; cases h0
      simp (maxSteps := 300000) (disch := omega) only [gws, ↓reduceIte, reduceEqDiff, reduceToNat, reduceMul, reduceAdd, Nat.reduceBEq, isLd]
      exact ⟨G, s1, hk.err (by unfold repW; rw [hn]; rfl)⟩
    · have hv : VtOk s ws := hz.1 rfl
      have h0' : codeR s x ws = 0 := codeR_iff.2 ⟨h0, hv⟩
      simp (maxSteps := 300000) (disch := omega) only [gws, ↓reduceIte, reduceEqDiff, reduceToNat, reduceMul, reduceAdd, Nat.reduceBEq, isLd]
      refine spec_l17Repair_ok hP hs hsm.ms (hx.sub s1) hr (hw.sub s1) hv (fun hn G' Y y sG => ?_) fun hy G' Y y hN => ?_
      · simp (maxSteps := 300000) (disch := omega) only [gws, ↓reduceIte, reduceEqDiff, reduceToNat, reduceMul, reduceAdd, Nat.reduceBEq, isLd]
        exact ⟨G, s1.trans sG, hk.err (by unfold repW; rw [if_pos h0', if_neg hn])⟩
      · simp (maxSteps := 300000) (disch := omega) only [gws, ↓reduceIte, reduceEqDiff, reduceToNat, reduceMul, reduceAdd, Nat.reduceBEq, isLd]
        have hd : repW s x ws = (repV s x ws, 0) := by unfold repW; rw [if_pos h0', if_pos hy]
        obtain ⟨G'', s'', hN''⟩ := hN.low s1
        rw [hd] at hk
        exact ⟨G'', s'', hk _ _ _ hN''⟩
  · have hn : ¬ codeR s x ws = 0 := fun y => h0 (codeR_iff.1 y).1
    have he : codeR s x ws = codeC s x := by
      unfold codeR codeC at *
      by_cases h1 : ShG' s
      · rw [if_pos h1, if_pos h1]; rw [if_pos h1] at h0
        by_cases h2 : RdOk s x
        · rw [if_pos h2] at h0; exact absurd rfl h0
        · rw [if_neg h2, if_neg h2]
      · rw [if_neg h1, if_neg h1]
    simp (maxSteps := 300000) (disch := omega) only [gws, ↓reduceIte, reduceEqDiff, reduceToNat, reduceMul, reduceAdd, Nat.reduceBEq, isLd, decide_eq_false h0, h0]
    exact ⟨G, s1, hk.err (by unfold repW; rw [if_neg hn, he])⟩
/-- a sheaf whose lists are one's own. -/
structure OwnS (G : GH) (m : ShM) (s : Shf) : Prop where
  rows : OwnR G m.A m.c m.hs s.base
  st : Own G m.S m.e (s.st.map I64) 1 s.st.length
  ms : OwnMS G m.M m.l m.Hm s.ms
  d1 : ∀ x, lB m.A m.hs s.base.length x → ¬ sB m.S x
  d2 : ∀ x, lB m.A m.hs s.base.length x → ¬ lB m.M m.Hm s.ms.length x
  d3 : ∀ x, sB m.S x → ¬ lB m.M m.Hm s.ms.length x
def shB (m : ShM) (s : Shf) : Nat → Prop := fun x => lB m.A m.hs s.base.length x ∨ sB m.S x ∨ lB m.M m.Hm s.ms.length x
theorem OwnS.sub {G G' : GH} {m : ShM} {s : Shf} (h : OwnS G m s) (u : Sub G G') : OwnS G' m s := ⟨h.rows.sub u, h.st.sub u, h.ms.sub u, h.d1, h.d2, h.d3⟩
theorem OwnS.g {G : GH} {m : ShM} {s : Shf} (h : OwnS G m s) : ShG G m s := ⟨h.rows.rows, h.st.ints, h.ms.mss⟩
theorem OwnS.on {G : GH} {m : ShM} {s : Shf} (h : OwnS G m s) : ∀ x, shB m s x → G x ≠ none := by
  rintro x (hx | hx | hx)
  · exact h.rows.on x hx
  · exact h.st.on x hx
  · exact h.ms.on x hx
/-- a new sheaf. -/
structure NewS (G G' : GH) (m : ShM) (s : Shf) : Prop where
  sub : Sub G G'
  own : OwnS (rest G G') m s
theorem NewS.off {G G' : GH} {m : ShM} {s : Shf} (h : NewS G G' m s) : ∀ x, shB m s x → G x = none := fun x hx => on_rest (h.own.on x hx)
def OffS (H : GH) (m : ShM) (s : Shf) : Prop := ∀ x, shB m s x → H x = none
theorem NewS.offS {G G' : GH} {m : ShM} {s : Shf} (h : NewS G G' m s) : OffS G m s := h.off
theorem OffS.mono {G H : GH} {m : ShM} {s : Shf} (h : OffS G m s) (u : Sub H G) : OffS H m s := fun x hx => u.none (h x hx)
theorem OffS.rest {G G' : GH} {m : ShM} {s : Shf} (h : ∀ x, shB m s x → G x ≠ none) : OffS (Gh.rest G G') m s := fun x hx => by
  cases hr : Gh.rest G G' x with
  | none => rfl
  | some e => exact absurd (rest_some.1 hr).1 (h x hx)
theorem NewS.o {G G' : GH} {m : ShM} {s : Shf} (h : NewS G G' m s) : OwnS G' m s := h.own.sub (Sub.rest _ _)
/-- sizes that fit. -/
structure ShSz (s : Shf) : Prop where
  sm : ShSm s
  p1 : pre s.base s.base.length ≤ 2 ^ 20
  p2 : preM s.ms s.ms.length ≤ 2 ^ 20
/-- lengths that fit a machine. -/
structure ShMx (s : Shf) : Prop where
  b : s.base.length ≤ 2 ^ 63 - 1
  bi : ∀ i, i < s.base.length → (s.base.getD i []).length ≤ 2 ^ 63 - 1
  st : s.st.length ≤ 2 ^ 63 - 1
  ms : s.ms.length ≤ 2 ^ 63 - 1
  mi : ∀ i, i < s.ms.length → (s.ms.getD i m0).m.length ≤ 2 ^ 63 - 1
theorem laws_szComplex_ok {G : GH} {A : Option Addr} {c : Nat} {hs : Nat → Option Addr × Nat} {xss : List (List Int)} {left : Int} (h : RowS G A c hs xss) (h0 : 0 ≤ left ∧ left ≤ 2 ^ 20) (hn : xss.length ≤ 2 ^ 63 - 1) (hn' : ∀ i, i < xss.length → (xss.getD i []).length ≤ 2 ^ 63 - 1) {K : Value → GH → Prop}
    (hk : ∀ l : Int, -1 ≤ l → l ≤ 2 ^ 20 → (0 ≤ l → l ≤ left ∧ Sm xss ∧ pre xss xss.length ≤ 2 ^ 20) → K (.int .i64 l) G) : GC Tryz.prog 42 [cxV A xss.length c, .int .i64 left] G K := by
  refine GC_drop (kna (by simp) ?_)
  unfold cxV
  simp (maxSteps := 300000) (disch := omega) only [gws, ↓reduceIte, reduceEqDiff, reduceToNat, reduceMul, reduceAdd, Nat.reduceBEq, isLd]
  intro b1 hb1
  have s1 := Sub.put hb1 ⟨[.slice A xss.length c], true⟩
  simp (maxSteps := 300000) (disch := omega) only [gws, ↓reduceIte, reduceEqDiff, reduceToNat, reduceMul, reduceAdd, Nat.reduceBEq, isLd]
  refine laws_szInt64SS_ok2 (h.sub s1) h0 hn hn' fun l q1 q2 q3 => ?_
  simp (maxSteps := 300000) (disch := omega) only [gws, ↓reduceIte, reduceEqDiff, reduceToNat, reduceMul, reduceAdd, Nat.reduceBEq, isLd]
  by_cases h1 : l < 0
  · simp (maxSteps := 300000) (disch := omega) only [gws, ↓reduceIte, reduceEqDiff, reduceToNat, reduceMul, reduceAdd, Nat.reduceBEq, isLd, h1]; exact ⟨G, s1, hk _ (by omega) (by omega) (by omega)⟩
  simp (maxSteps := 300000) (disch := omega) only [gws, ↓reduceIte, reduceEqDiff, reduceToNat, reduceMul, reduceAdd, Nat.reduceBEq, isLd, h1]
  exact ⟨G, s1, hk _ (by omega) (by omega) fun _ => q3 (by omega)⟩
theorem laws_szSheaf_ok {G : GH} {m : ShM} {s : Shf} {left : Int} (h : ShG G m s) (hx : ShMx s) (h0 : 0 ≤ left ∧ left ≤ 2 ^ 20) {K : Value → GH → Prop}
    (hk : ∀ l : Int, -1 ≤ l → l ≤ 2 ^ 20 → (0 ≤ l → ShSz s) → K (.int .i64 l) G) : GC Tryz.prog 11 [shV m s, .int .i64 left] G K := by
  refine GC_drop (koy (by simp) ?_)
  unfold shV shC
  simp (maxSteps := 300000) (disch := omega) only [gws, ↓reduceIte, reduceEqDiff, reduceToNat, reduceMul, reduceAdd, Nat.reduceBEq, isLd]
  intro b1 hb1
  have s1 := Sub.put hb1 ⟨shC m s, true⟩
  have hP := ShP.box hb1 h
  unfold shC at s1 hP
  revert s1 hP
  generalize put G b1 ⟨[.slice m.A s.base.length m.c, .int .i64 s.p, .slice m.S s.st.length m.e, .slice m.M s.ms.length m.l], true⟩ = G1
  intro s1 hP
  obtain ⟨f0, f1, f2, f3⟩ := hP.b
  simp (maxSteps := 300000) (disch := omega) only [gws, ↓reduceIte, reduceEqDiff, reduceToNat, reduceMul, reduceAdd, Nat.reduceBEq, isLd, f0, f1, f2, f3]
  refine laws_szComplex_ok hP.g.rows h0 hx.b hx.bi fun l q1 q2 q3 => ?_
  simp (maxSteps := 300000) (disch := omega) only [gws, ↓reduceIte, reduceEqDiff, reduceToNat, reduceMul, reduceAdd, Nat.reduceBEq, isLd, f0, f1, f2, f3]
  by_cases h1 : l < 0
  · simp (maxSteps := 300000) (disch := omega) only [gws, ↓reduceIte, reduceEqDiff, reduceToNat, reduceMul, reduceAdd, Nat.reduceBEq, isLd, h1]; exact ⟨G, s1, hk _ (by omega) (by omega) (by omega)⟩
  simp (maxSteps := 300000) (disch := omega) only [gws, ↓reduceIte, reduceEqDiff, reduceToNat, reduceMul, reduceAdd, Nat.reduceBEq, isLd, h1, f0, f1, f2, f3]
  obtain ⟨q4, q5, q6⟩ := q3 (by omega)
  refine laws_szInt64S_ok ⟨by omega, by omega⟩ hx.st fun l' r1 r2 r3 => ?_
  simp (maxSteps := 300000) (disch := omega) only [gws, ↓reduceIte, reduceEqDiff, reduceToNat, reduceMul, reduceAdd, Nat.reduceBEq, isLd, f0, f1, f2, f3]
  by_cases h2 : l' < 0
  · simp (maxSteps := 300000) (disch := omega) only [gws, ↓reduceIte, reduceEqDiff, reduceToNat, reduceMul, reduceAdd, Nat.reduceBEq, isLd, h2]; exact ⟨G, s1, hk _ (by omega) (by omega) (by omega)⟩
  simp (maxSteps := 300000) (disch := omega) only [gws, ↓reduceIte, reduceEqDiff, reduceToNat, reduceMul, reduceAdd, Nat.reduceBEq, isLd, h2, f0, f1, f2, f3]
  have r4 := r3 (by omega)
  refine laws_szMatrixS_ok hP.g.ms ⟨by omega, by omega⟩ hx.ms hx.mi fun l2 t1 t2 t3 => ?_
  simp (maxSteps := 300000) (disch := omega) only [gws, ↓reduceIte, reduceEqDiff, reduceToNat, reduceMul, reduceAdd, Nat.reduceBEq, isLd, f0, f1, f2, f3]
  by_cases h3 : l2 < 0
  · simp (maxSteps := 300000) (disch := omega) only [gws, ↓reduceIte, reduceEqDiff, reduceToNat, reduceMul, reduceAdd, Nat.reduceBEq, isLd, h3]; exact ⟨G, s1, hk _ (by omega) (by omega) (by omega)⟩
  simp (maxSteps := 300000) (disch := omega) only [gws, ↓reduceIte, reduceEqDiff, reduceToNat, reduceMul, reduceAdd, Nat.reduceBEq, isLd, h3]
  refine ⟨G, s1, hk _ (by omega) (by omega) fun _ => ?_⟩
  obtain ⟨t4, t5, t6⟩ := t3 (by omega)
  exact ⟨⟨q5, by omega, t4, t6⟩, q6, t5⟩
theorem laws_toSheaf_new {G : GH} {m : ShM} {s : Shf} (h : ShG G m s) (hz : ShSz s) {K : Value → GH → Prop}
    (hk : ∀ m' G', NewS G G' m' s → K (shV m' s) G') : GC Tryz.prog 13 [shV m s] G K := by
  refine kqm (by simp) ?_
  unfold shV shC
  simp (maxSteps := 300000) (disch := omega) only [gws, ↓reduceIte, reduceEqDiff, reduceToNat, reduceMul, reduceAdd, Nat.reduceBEq, isLd]
  intro b1 hb1
  simp (maxSteps := 300000) (disch := omega) only [gws, ↓reduceIte, reduceEqDiff, reduceToNat, reduceMul, reduceAdd, Nat.reduceBEq, isLd]
  intro b2 hb2
  simp (maxSteps := 300000) (disch := omega) only [gws, ↓reduceIte, reduceEqDiff, reduceToNat, reduceMul, reduceAdd, Nat.reduceBEq, isLd]
  intro b3 hb3
  simp only [put_none] at hb2 hb3
  obtain ⟨n12, f2⟩ := hb2
  obtain ⟨n23, n13, f3⟩ := hb3
  simp (maxSteps := 300000) (disch := omega) only [gws, ↓reduceIte, reduceEqDiff, reduceToNat, reduceMul, reduceAdd, Nat.reduceBEq, isLd]
  have s3 := ((((Sub.refl G).skip hb1 (e := ⟨[.slice m.A s.base.length m.c, .int .i64 s.p, .slice m.S s.st.length m.e, .slice m.M s.ms.length m.l], true⟩)).skip f2 (e := ⟨[.slice none 0 0, .int .i64 0, .slice none 0 0, .slice none 0 0], true⟩)).skip f3 (e := ⟨[.slice none 0 0, .int .i64 0, .slice none 0 0, .slice none 0 0], true⟩))
  have g1 : put (put (put G b1 ⟨[.slice m.A s.base.length m.c, .int .i64 s.p, .slice m.S s.st.length m.e, .slice m.M s.ms.length m.l], true⟩) b2 ⟨[.slice none 0 0, .int .i64 0, .slice none 0 0, .slice none 0 0], true⟩) b3 ⟨[.slice none 0 0, .int .i64 0, .slice none 0 0, .slice none 0 0], true⟩ b1 = some ⟨[.slice m.A s.base.length m.c, .int .i64 s.p, .slice m.S s.st.length m.e, .slice m.M s.ms.length m.l], true⟩ := by rw [put_ne _ _ (by omega), put_ne _ _ (by omega)]; exact put_same _ _ _
  have g2 : put (put (put G b1 ⟨[.slice m.A s.base.length m.c, .int .i64 s.p, .slice m.S s.st.length m.e, .slice m.M s.ms.length m.l], true⟩) b2 ⟨[.slice none 0 0, .int .i64 0, .slice none 0 0, .slice none 0 0], true⟩) b3 ⟨[.slice none 0 0, .int .i64 0, .slice none 0 0, .slice none 0 0], true⟩ b2 = some ⟨[.slice none 0 0, .int .i64 0, .slice none 0 0, .slice none 0 0], true⟩ := by rw [put_ne _ _ (by omega)]; exact put_same _ _ _
  have g3 : put (put (put G b1 ⟨[.slice m.A s.base.length m.c, .int .i64 s.p, .slice m.S s.st.length m.e, .slice m.M s.ms.length m.l], true⟩) b2 ⟨[.slice none 0 0, .int .i64 0, .slice none 0 0, .slice none 0 0], true⟩) b3 ⟨[.slice none 0 0, .int .i64 0, .slice none 0 0, .slice none 0 0], true⟩ b3 = some ⟨[.slice none 0 0, .int .i64 0, .slice none 0 0, .slice none 0 0], true⟩ := put_same _ _ _
  revert s3 g1 g2 g3
  generalize put (put (put G b1 ⟨[.slice m.A s.base.length m.c, .int .i64 s.p, .slice m.S s.st.length m.e, .slice m.M s.ms.length m.l], true⟩) b2 ⟨[.slice none 0 0, .int .i64 0, .slice none 0 0, .slice none 0 0], true⟩) b3 ⟨[.slice none 0 0, .int .i64 0, .slice none 0 0, .slice none 0 0], true⟩ = G3
  intro s3 g1 g2 g3
  -- what is said of the argument's box, wherever the box stands
  have rf : ∀ {F : GH}, F b1 = G3 b1 → rd F (some ⟨b1, 0, none⟩) = some (.slice m.A s.base.length m.c) ∧ rd F (some ⟨b1, 1, none⟩) = some (.int .i64 s.p) ∧ rd F (some ⟨b1, 2, none⟩) = some (.slice m.S s.st.length m.e) ∧ rd F (some ⟨b1, 3, none⟩) = some (.slice m.M s.ms.length m.l) := fun e => by
    rw [g1] at e
    simp only [rd, e]; exact ⟨rfl, rfl, rfl, rfl⟩
  refine laws_toComplex_new (h.rows.sub s3) hz.sm.b fun A' hs' G4 S4 hR => ?_
  unfold cxV
  simp (maxSteps := 300000) (disch := omega) only [gws, ↓reduceIte, reduceEqDiff, reduceToNat, reduceMul, reduceAdd, Nat.reduceBEq, isLd]
  have g3' := S4 _ _ g3
  refine st_many (vs := [.slice A' s.base.length s.base.length]) rfl g3' rfl (by simp) (by intro v hv; simp at hv; subst hv; rfl) ?_
  have onR := hR.on
  have rn : ∀ {x : Nat} {e : Ent}, G3 x = some e → rest G3 G4 x = none := fun {x e} hx => by
    cases hr : rest G3 G4 x with
    | none => rfl
    | some y => (have := (rest_some.1 hr).1; rw [hx] at this; cases this)
  have SR5 := (Sub.rest G3 G4).skip (rn g3) (e := ⟨over [.slice none 0 0, .int .i64 0, .slice none 0 0, .slice none 0 0] 0 [.slice A' s.base.length s.base.length], true⟩)
  have k1 : put G4 b3 ⟨over [.slice none 0 0, .int .i64 0, .slice none 0 0, .slice none 0 0] 0 [.slice A' s.base.length s.base.length], true⟩ b1 = G3 b1 := by rw [put_ne _ _ (by omega), S4 _ _ g1, g1]
  have k2 : put G4 b3 ⟨over [.slice none 0 0, .int .i64 0, .slice none 0 0, .slice none 0 0] 0 [.slice A' s.base.length s.base.length], true⟩ b2 = G3 b2 := by rw [put_ne _ _ (by omega), S4 _ _ g2, g2]
  have k3 := put_same G4 b3 ⟨over [.slice none 0 0, .int .i64 0, .slice none 0 0, .slice none 0 0] 0 [.slice A' s.base.length s.base.length], true⟩
  have sg5 := (s3.trans S4).skip f3 (e := ⟨over [.slice none 0 0, .int .i64 0, .slice none 0 0, .slice none 0 0] 0 [.slice A' s.base.length s.base.length], true⟩)
  revert SR5 k1 k2 k3 sg5
  generalize put G4 b3 ⟨over [.slice none 0 0, .int .i64 0, .slice none 0 0, .slice none 0 0] 0 [.slice A' s.base.length s.base.length], true⟩ = G5
  intro SR5 k1 k2 k3 sg5
  simp only [over, List.set_cons_zero, List.set_cons_succ] at k3
  obtain ⟨q0, q1, q2, q3⟩ := rf k1
  simp (maxSteps := 300000) (disch := omega) only [gws, ↓reduceIte, reduceEqDiff, reduceToNat, reduceMul, reduceAdd, Nat.reduceBEq, isLd, q0, q1, q2, q3]
  refine st_one k3 (by simp) rfl ?_
  have SR6 := SR5.skip (rn g3) (e := ⟨[.slice A' s.base.length s.base.length, .int .i64 s.p, .slice none 0 0, .slice none 0 0], true⟩)
  have sg6 := sg5.skip f3 (e := ⟨[.slice A' s.base.length s.base.length, .int .i64 s.p, .slice none 0 0, .slice none 0 0], true⟩)
  have l1 : put G5 b3 ⟨[.slice A' s.base.length s.base.length, .int .i64 s.p, .slice none 0 0, .slice none 0 0], true⟩ b1 = G3 b1 := by rw [put_ne _ _ (by omega), k1]
  have l2 : put G5 b3 ⟨[.slice A' s.base.length s.base.length, .int .i64 s.p, .slice none 0 0, .slice none 0 0], true⟩ b2 = G3 b2 := by rw [put_ne _ _ (by omega), k2]
  have l3 := put_same G5 b3 ⟨[.slice A' s.base.length s.base.length, .int .i64 s.p, .slice none 0 0, .slice none 0 0], true⟩
  simp only [List.set_cons_zero, List.set_cons_succ]
  revert SR6 sg6 l1 l2 l3
  generalize put G5 b3 ⟨[.slice A' s.base.length s.base.length, .int .i64 s.p, .slice none 0 0, .slice none 0 0], true⟩ = G6
  intro SR6 sg6 l1 l2 l3
  obtain ⟨q0, q1, q2, q3⟩ := rf l1
  simp (maxSteps := 300000) (disch := omega) only [gws, ↓reduceIte, reduceEqDiff, reduceToNat, reduceMul, reduceAdd, Nat.reduceBEq, isLd, q0, q1, q2, q3]
  refine laws_toInt64S_ok (h.st.sub sg6) hz.sm.st fun b4 hb4 => ?_
  simp (maxSteps := 300000) (disch := omega) only [gws, ↓reduceIte, reduceEqDiff, reduceToNat, reduceMul, reduceAdd, Nat.reduceBEq, isLd]
  have s7 := Sub.put hb4 ⟨s.st.map I64, true⟩
  refine st_one (s7 _ _ l3) (by simp) rfl ?_
  simp only [List.set_cons_zero, List.set_cons_succ]
  have n34 : b3 ≠ b4 := fun e => by rw [e, hb4] at l3; cases l3
  have f4 : G b4 = none := sg6.none hb4
  have n14 : b1 ≠ b4 := fun e => by rw [g1, e, hb4] at l1; cases l1
  have n24 : b2 ≠ b4 := fun e => by rw [g2, e, hb4] at l2; cases l2
  have SR8 := (SR6.trans s7).skip (rn g3) (e := ⟨[.slice A' s.base.length s.base.length, .int .i64 s.p, .slice (some ⟨b4, 0, none⟩) s.st.length s.st.length, .slice none 0 0], true⟩)
  have sg8 := (sg6.trans s7).skip f3 (e := ⟨[.slice A' s.base.length s.base.length, .int .i64 s.p, .slice (some ⟨b4, 0, none⟩) s.st.length s.st.length, .slice none 0 0], true⟩)
  have m1 : put (put G6 b4 ⟨s.st.map I64, true⟩) b3 ⟨[.slice A' s.base.length s.base.length, .int .i64 s.p, .slice (some ⟨b4, 0, none⟩) s.st.length s.st.length, .slice none 0 0], true⟩ b1 = G3 b1 := by rw [put_ne _ _ (by omega), put_ne _ _ n14, l1]
  have m2 : put (put G6 b4 ⟨s.st.map I64, true⟩) b3 ⟨[.slice A' s.base.length s.base.length, .int .i64 s.p, .slice (some ⟨b4, 0, none⟩) s.st.length s.st.length, .slice none 0 0], true⟩ b2 = G3 b2 := by rw [put_ne _ _ (by omega), put_ne _ _ n24, l2]
  have m4 : put (put G6 b4 ⟨s.st.map I64, true⟩) b3 ⟨[.slice A' s.base.length s.base.length, .int .i64 s.p, .slice (some ⟨b4, 0, none⟩) s.st.length s.st.length, .slice none 0 0], true⟩ b4 = some ⟨s.st.map I64, true⟩ := by rw [put_ne _ _ (Ne.symm n34)]; exact put_same _ _ _
  have m3 := put_same (put G6 b4 ⟨s.st.map I64, true⟩) b3 ⟨[.slice A' s.base.length s.base.length, .int .i64 s.p, .slice (some ⟨b4, 0, none⟩) s.st.length s.st.length, .slice none 0 0], true⟩
  revert SR8 sg8 m1 m2 m3 m4
  generalize put (put G6 b4 ⟨s.st.map I64, true⟩) b3 ⟨[.slice A' s.base.length s.base.length, .int .i64 s.p, .slice (some ⟨b4, 0, none⟩) s.st.length s.st.length, .slice none 0 0], true⟩ = G8
  intro SR8 sg8 m1 m2 m4 m3
  obtain ⟨q0, q1, q2, q3⟩ := rf m1
  simp (maxSteps := 300000) (disch := omega) only [gws, ↓reduceIte, reduceEqDiff, reduceToNat, reduceMul, reduceAdd, Nat.reduceBEq, isLd, q0, q1, q2, q3]
  refine laws_toMatrixS_new (h.ms.sub sg8) hz.sm.ms hz.sm.m fun M' H' G9 S9 hM => ?_
  simp (maxSteps := 300000) (disch := omega) only [gws, ↓reduceIte, reduceEqDiff, reduceToNat, reduceMul, reduceAdd, Nat.reduceBEq, isLd]
  refine st_one (S9 _ _ m3) (by simp) rfl ?_
  simp only [List.set_cons_zero, List.set_cons_succ]
  simp (maxSteps := 300000) (disch := omega) only [gws, ↓reduceIte, reduceEqDiff, reduceToNat, reduceMul, reduceAdd, Nat.reduceBEq, isLd]
  have m2' : G9 b2 = some ⟨[.slice none 0 0, .int .i64 0, .slice none 0 0, .slice none 0 0], true⟩ := S9 _ _ (by rw [m2]; exact g2)
  refine st_many (vs := [.slice A' s.base.length s.base.length, .int .i64 s.p, .slice (some ⟨b4, 0, none⟩) s.st.length s.st.length, .slice M' s.ms.length s.ms.length]) rfl (by rw [put_ne _ _ (by omega)]; exact m2') rfl (by simp) (by intro v hv; simp at hv; rcases hv with rfl | rfl | rfl | rfl <;> rfl) ?_
  simp (maxSteps := 300000) (disch := omega) only [gws, ↓reduceIte, reduceEqDiff, reduceToNat, reduceMul, reduceAdd, Nat.reduceBEq, isLd, over]
  have oM : ∀ x, lB M' H' s.ms.length x → G8 x = none := fun x hx => on_rest (hM.on x hx)
  have oR : ∀ x, lB A' hs' s.base.length x → G3 x = none := fun x hx => on_rest (onR x hx)
  have mn : ∀ {x : Nat} {e : Ent}, G8 x = some e → rest G8 G9 x = none := fun {x e} hx => by
    cases hr : rest G8 G9 x with
    | none => rfl
    | some y => (have := (rest_some.1 hr).1; rw [hx] at this; cases this)
  have SMF := ((Sub.rest G8 G9).skip (mn m3) (e := ⟨[.slice A' s.base.length s.base.length, .int .i64 s.p, .slice (some ⟨b4, 0, none⟩) s.st.length s.st.length, .slice M' s.ms.length s.ms.length], true⟩)).skip (mn (by rw [m2]; exact g2)) (e := ⟨[.slice A' s.base.length s.base.length, .int .i64 s.p, .slice (some ⟨b4, 0, none⟩) s.st.length s.st.length, .slice M' s.ms.length s.ms.length], true⟩)
  have SRF := ((SR8.trans S9).skip (rn g3) (e := ⟨[.slice A' s.base.length s.base.length, .int .i64 s.p, .slice (some ⟨b4, 0, none⟩) s.st.length s.st.length, .slice M' s.ms.length s.ms.length], true⟩)).skip (rn g2) (e := ⟨[.slice A' s.base.length s.base.length, .int .i64 s.p, .slice (some ⟨b4, 0, none⟩) s.st.length s.st.length, .slice M' s.ms.length s.ms.length], true⟩)
  have sgF := ((sg8.trans S9).skip f3 (e := ⟨[.slice A' s.base.length s.base.length, .int .i64 s.p, .slice (some ⟨b4, 0, none⟩) s.st.length s.st.length, .slice M' s.ms.length s.ms.length], true⟩)).skip f2 (e := ⟨[.slice A' s.base.length s.base.length, .int .i64 s.p, .slice (some ⟨b4, 0, none⟩) s.st.length s.st.length, .slice M' s.ms.length s.ms.length], true⟩)
  have m4F : put (put G9 b3 ⟨[.slice A' s.base.length s.base.length, .int .i64 s.p, .slice (some ⟨b4, 0, none⟩) s.st.length s.st.length, .slice M' s.ms.length s.ms.length], true⟩) b2 ⟨[.slice A' s.base.length s.base.length, .int .i64 s.p, .slice (some ⟨b4, 0, none⟩) s.st.length s.st.length, .slice M' s.ms.length s.ms.length], true⟩ b4 = some ⟨s.st.map I64, true⟩ := by rw [put_ne _ _ (Ne.symm n24), put_ne _ _ (Ne.symm n34)]; exact S9 _ _ m4
  refine hk ⟨A', s.base.length, hs', some ⟨b4, 0, none⟩, s.st.length, M', s.ms.length, H'⟩ _ ⟨sgF, ⟨?_, ?_, ?_, fun x hx => ?_, fun x hx y => ?_, fun x hx y => ?_⟩⟩
  · exact (hR.sub SRF).rest (fun a ha => s3.none (oR _ (.inl ⟨a, ha, rfl⟩))) fun i hi a ha => s3.none (oR _ (.inr ⟨i, hi, a, ha, rfl⟩))
  · exact .inr ⟨b4, [], rfl, by rw [List.append_nil]; exact rest_some.2 ⟨f4, m4F⟩, by simp, by simp, Nat.le_refl _⟩
  · exact (hM.sub SMF).rest fun x hx => sg8.none (oM x hx)
  · rintro ⟨a, ha, hax⟩
    cases ha
    dsimp only at hax
    subst hax
    cases hr : rest G3 G4 b4 with
    | none => exact onR _ hx hr
    | some e => (have := SR6 _ _ hr; rw [hb4] at this; cases this)
  · cases hr : rest G3 G4 x with
    | none => exact onR _ hx hr
    | some e => (have := SR8 _ _ hr; rw [oM x y] at this; cases this)
  · obtain ⟨a, ha, hax⟩ := hx
    cases ha
    dsimp only at hax
    subst hax
    have := oM _ y
    rw [m4] at this; cases this
theorem laws_eqComplex_ok {G : GH} {A A' : Option Addr} {c c' : Nat} {hs hs' : Nat → Option Addr × Nat} {xss : List (List Int)} (h : RowS G A c hs xss) (h' : RowS G A' c' hs' xss) (hsm : Sm xss) {K : Value → GH → Prop} (hk : K (.bool true) G) : GC Tryz.prog 51 [cxV A xss.length c, cxV A' xss.length c'] G K := by
  refine GC_drop (kji (by simp) ?_)
  unfold cxV
  simp (maxSteps := 300000) (disch := omega) only [gws, ↓reduceIte, reduceEqDiff, reduceToNat, reduceMul, reduceAdd, Nat.reduceBEq, isLd]
  intro b1 hb1
  simp (maxSteps := 300000) (disch := omega) only [gws, ↓reduceIte, reduceEqDiff, reduceToNat, reduceMul, reduceAdd, Nat.reduceBEq, isLd]
  intro b2 hb2
  simp only [put_none] at hb2
  obtain ⟨n12, f2⟩ := hb2
  have s2 := ((Sub.refl G).skip hb1 (e := ⟨[.slice A xss.length c], true⟩)).skip f2 (e := ⟨[.slice A' xss.length c'], true⟩)
  obtain ⟨z1, z2⟩ := hsm
  simp (maxSteps := 300000) (disch := omega) only [gws, ↓reduceIte, reduceEqDiff, reduceToNat, reduceMul, reduceAdd, Nat.reduceBEq, isLd]
  refine laws_eqInt64SS_ok (h.sub s2) (h'.sub s2) (by omega) (fun i hi => by have := z2 i hi; omega) fun b hb => ?_
  obtain rfl : b = true := hb.2 rfl
  simp (maxSteps := 300000) (disch := omega) only [gws, ↓reduceIte, reduceEqDiff, reduceToNat, reduceMul, reduceAdd, Nat.reduceBEq, isLd]
  exact ⟨G, s2, hk⟩
theorem laws_eqSheaf_ok {G : GH} {m m' : ShM} {s : Shf} (h : ShG G m s) (h' : ShG G m' s) (hz : ShSz s) {K : Value → GH → Prop} (hk : K (.bool true) G) : GC Tryz.prog 17 [shV m s, shV m' s] G K := by
  refine GC_drop (klb (by simp) ?_)
  unfold shV shC
  simp (maxSteps := 300000) (disch := omega) only [gws, ↓reduceIte, reduceEqDiff, reduceToNat, reduceMul, reduceAdd, Nat.reduceBEq, isLd]
  intro b1 hb1
  simp (maxSteps := 300000) (disch := omega) only [gws, ↓reduceIte, reduceEqDiff, reduceToNat, reduceMul, reduceAdd, Nat.reduceBEq, isLd]
  intro b2 hb2
  simp only [put_none] at hb2
  obtain ⟨n12, f2⟩ := hb2
  have s2 := ((Sub.refl G).skip hb1 (e := ⟨[.slice m.A s.base.length m.c, .int .i64 s.p, .slice m.S s.st.length m.e, .slice m.M s.ms.length m.l], true⟩)).skip f2 (e := ⟨[.slice m'.A s.base.length m'.c, .int .i64 s.p, .slice m'.S s.st.length m'.e, .slice m'.M s.ms.length m'.l], true⟩)
  have t0 : decide (¬ s.p = s.p) = false := by simp
  have hsm := hz.sm
  have hst := hsm.st
  simp (maxSteps := 300000) (disch := omega) only [gws, ↓reduceIte, reduceEqDiff, reduceToNat, reduceMul, reduceAdd, Nat.reduceBEq, isLd]
  refine laws_eqComplex_ok (h.rows.sub s2) (h'.rows.sub s2) hsm.b ?_
  simp (maxSteps := 300000) (disch := omega) only [gws, ↓reduceIte, reduceEqDiff, reduceToNat, reduceMul, reduceAdd, Nat.reduceBEq, isLd, t0]
  refine laws_eqInt64S_ok (h.st.sub s2) (h'.st.sub s2) (by omega) ?_
  simp (maxSteps := 300000) (disch := omega) only [gws, ↓reduceIte, reduceEqDiff, reduceToNat, reduceMul, reduceAdd, Nat.reduceBEq, isLd, eq_self]
  refine laws_eqMatrixS_ok (h.ms.sub s2) (h'.ms.sub s2) (by have := hsm.ms; omega) hsm.m ?_
  simp (maxSteps := 300000) (disch := omega) only [gws, ↓reduceIte, reduceEqDiff, reduceToNat, reduceMul, reduceAdd, Nat.reduceBEq, isLd]
  exact ⟨G, s2, hk⟩
theorem laws_markSheaf_ok {G : GH} {m : ShM} {s : Shf} {k : Int} (h : OwnS G m s) (hz : ShSz s) (hk0 : 0 ≤ k ∧ k ≤ 2 ^ 20) {K : Value → GH → Prop}
    (hk : ∀ G' l, Oth (shB m s) G G' → 0 ≤ l → l ≤ 2 ^ 30 → K (.int .i64 l) G') : GC Tryz.prog 18 [shV m s, .int .i64 k] G K := by
  refine GC_drop (kn2 (by simp) ?_)
  have hon := h.on
  have hsm := hz.sm
  have hst := hsm.st
  unfold shV shC
  simp (maxSteps := 300000) (disch := omega) only [gws, ↓reduceIte, reduceEqDiff, reduceToNat, reduceMul, reduceAdd, Nat.reduceBEq, isLd]
  intro b2 hb2
  have s2 := Sub.put hb2 ⟨[.slice m.A s.base.length m.c, .int .i64 s.p, .slice m.S s.st.length m.e, .slice m.M s.ms.length m.l], true⟩
  have nb : ∀ x, shB m s x → x ≠ b2 := fun x hx e => hon x hx (by rw [e]; exact hb2)
  have g2 := put_same G b2 ⟨[.slice m.A s.base.length m.c, .int .i64 s.p, .slice m.S s.st.length m.e, .slice m.M s.ms.length m.l], true⟩
  have h1 := h.sub s2
  have u1 := Oth.put G b2 ⟨[.slice m.A s.base.length m.c, .int .i64 s.p, .slice m.S s.st.length m.e, .slice m.M s.ms.length m.l], true⟩
  revert s2 g2 h1 u1
  generalize put G b2 ⟨[.slice m.A s.base.length m.c, .int .i64 s.p, .slice m.S s.st.length m.e, .slice m.M s.ms.length m.l], true⟩ = G1
  intro s2 g2 h1 u1
  have rf : ∀ {F : GH}, F b2 = G1 b2 → rd F (some ⟨b2, 0, none⟩) = some (.slice m.A s.base.length m.c) ∧ rd F (some ⟨b2, 2, none⟩) = some (.slice m.S s.st.length m.e) ∧ rd F (some ⟨b2, 3, none⟩) = some (.slice m.M s.ms.length m.l) := fun e => by
    rw [g2] at e
    simp only [rd, e]; exact ⟨rfl, rfl, rfl⟩
  obtain ⟨q0, q2, q3⟩ := rf (F := G1) rfl
  simp (maxSteps := 300000) (disch := omega) only [gws, ↓reduceIte, reduceEqDiff, reduceToNat, reduceMul, reduceAdd, Nat.reduceBEq, isLd, q0, q2, q3]
  refine laws_markComplex_ok h1.rows hsm.b hz.p1 hk0 fun G2 l2 u2 b2a b2b => ?_
  have e2 : G2 b2 = G1 b2 := u2 b2 fun y => nb _ (.inl y) rfl
  have hst2 := h1.st.oth u2 fun a ha y => h.d1 _ y ⟨a, ha, rfl⟩
  have hms2 := h1.ms.oth u2 fun x hx y => h.d2 _ y hx
  obtain ⟨q0, q2, q3⟩ := rf e2
  simp (maxSteps := 300000) (disch := omega) only [gws, ↓reduceIte, reduceEqDiff, reduceToNat, reduceMul, reduceAdd, Nat.reduceBEq, isLd, q0, q2, q3]
  refine laws_markInt64S_ok hst2 (by omega) (by omega) fun G3 uu _ => ?_
  have u3 := uu.oth
  have e3 : G3 b2 = G1 b2 := (u3 b2 fun y => nb _ (.inr (.inl y)) rfl).trans e2
  have hms3 := hms2.oth u3 fun x hx y => h.d3 _ y hx
  obtain ⟨q0, q2, q3⟩ := rf e3
  simp (maxSteps := 300000) (disch := omega) only [gws, ↓reduceIte, reduceEqDiff, reduceToNat, reduceMul, reduceAdd, Nat.reduceBEq, isLd, q0, q2, q3]
  refine laws_markMatrixS_ok hms3 hsm.ms hz.p2 (by omega) fun G4 l4 u4 l4a l4b => ?_
  simp (maxSteps := 300000) (disch := omega) only [gws, ↓reduceIte, reduceEqDiff, reduceToNat, reduceMul, reduceAdd, Nat.reduceBEq, isLd]
  refine ⟨wz G4 (some ⟨b2, 0, none⟩), Sub.wz _ _, hk _ _ (fun x hx => ?_) l4a (by omega)⟩
  by_cases e : x = b2
  · subst e
    rw [hb2]; unfold wz; exact if_pos rfl
  · rw [wz_ne fun a ha y => by cases ha; exact e y.symm, u4 x fun y => hx (.inr (.inr y)), u3 x fun y => hx (.inr (.inl y)), u2 x fun y => hx (.inl y), u1 x e]
/-- a sheaf that came in. -/
def SheafV (G : GH) (v : Value) (s : Shf) : Prop := ∃ m, v = shV m s ∧ ShG G m s ∧ ShMx s
theorem trod_mat {H : Type} {enc : TypeId × Value → H} {P : Program} {W : World} {t s i : TypeId} {fs : Array Field} (ht : P.underlying t = some (.struct fs)) (hs : P.underlying s = some (.slice i)) (hi : P.underlying i = some (.int .i64))
    (hM : fs.toList.map (fun f => (f.offset, f.type)) = [(0, i), (1, i), (2, i), (3, s)]) (hct : P.cellsOf t = 4) (hcs : P.cellsOf s = 1) (hci : P.cellsOf i = 1)
    {fuel : Nat} {cs : List Value} {x : DataW H × List MemPlace} (hf : DataW.trod enc P W 0 (fun _ => true) true fuel t cs = some x) : ∃ (M : Mt) (A : Option Addr) (c : Nat), cs = mtC M A c ∧ IntS (G0 W) A c M.m ∧ M.m.length ≤ 2 ^ 63 - 1 := by
  obtain ⟨a, e0, r0⟩ := trod_fld_i64 ht hM hf 0 rfl hi hci
  obtain ⟨b, e1, r1⟩ := trod_fld_i64 ht hM hf 1 rfl hi hci
  obtain ⟨d, e2, r2⟩ := trod_fld_i64 ht hM hf 2 rfl hi hci
  obtain ⟨A, n, k, m, x1, e3, r3⟩ := trod_fld_sl ht hM hf 3 rfl hs hcs
  obtain ⟨xs, A1, c1, hx, h1, h2, h3⟩ := trod_ints hs hi hci r3
  cases hx
  have hl := trod_clen ht hf
  rw [hct] at hl
  exact ⟨⟨a, b, d, xs⟩, A, k, list_four hl e0 e1 e2 e3, h1, h3⟩
theorem trod_mats {H : Type} {enc : TypeId × Value → H} {P : Program} {W : World} {T t s i : TypeId} {fs : Array Field} (hT : P.underlying T = some (.slice t)) (ht : P.underlying t = some (.struct fs)) (hs : P.underlying s = some (.slice i)) (hi : P.underlying i = some (.int .i64))
    (hM : fs.toList.map (fun f => (f.offset, f.type)) = [(0, i), (1, i), (2, i), (3, s)]) (hct : P.cellsOf t = 4) (hcs : P.cellsOf s = 1) (hci : P.cellsOf i = 1)
    {fuel : Nat} {A : Option Addr} {n c : Nat} {x : DataW H × List MemPlace} (h : DataW.trod enc P W 0 (fun _ => true) true fuel T [.slice A n c] = some x) : ∃ (ms : List Mt) (Hm : Nat → Option Addr × Nat), ms.length = n ∧ MsS (G0 W) A c Hm ms ∧ n ≤ 2 ^ 63 - 1 ∧ ∀ i, i < ms.length → (ms.getD i m0).m.length ≤ 2 ^ 63 - 1 := by
  obtain ⟨hc, hc2, hx⟩ := trod_sl hT h
  rw [hct] at hx
  obtain ⟨xs, hl, hp⟩ := choose_list ((m0, none, 0) : Mt × Option Addr × Nat) (p := fun j y => (∀ k v, (mtC y.1 y.2.1 y.2.2)[k]? = some v → rd (G0 W) (pa A (j * 4 + k)) = some v) ∧ IntS (G0 W) y.2.1 y.2.2 y.1.m ∧ y.1.m.length ≤ 2 ^ 63 - 1) n (fun j hj => by
    obtain ⟨cs, f', x', h1, h2, h3⟩ := hx j hj
    obtain ⟨M, B, b, rfl, q1, q2⟩ := trod_mat ht hs hi hM hct hcs hci h3
    exact ⟨(M, B, b), fun k v hv => h2 k v hv, q1, q2⟩)
  subst hl
  have hg : ∀ j, j < xs.length → (xs.map (·.1)).getD j m0 = (xs.getD j (m0, none, 0)).1 := fun j hj => by simp [List.getD, hj]
  refine ⟨xs.map (·.1), fun j => (xs.getD j (m0, none, 0)).2, by rw [List.length_map], ⟨by rw [List.length_map]; exact hc, fun j hj => ?_, fun j hj => ?_, fun j hj => ?_, fun j hj => ?_, fun j hj => ?_⟩, by omega, fun j hj => ?_⟩
  · rw [List.length_map] at hj; rw [hg j hj]; exact (hp j hj).1 0 _ rfl
  · rw [List.length_map] at hj; rw [hg j hj]; exact (hp j hj).1 1 _ rfl
  · rw [List.length_map] at hj; rw [hg j hj]; exact (hp j hj).1 2 _ rfl
  · rw [List.length_map] at hj; rw [hg j hj]; exact (hp j hj).1 3 _ rfl
  · rw [List.length_map] at hj; rw [hg j hj]; exact (hp j hj).2.1
  · rw [List.length_map] at hj; rw [hg j hj]; exact (hp j hj).2.2
theorem open_Sheaf {H : Type} {enc : TypeId × Value → H} {P : Program} {W : World} {t b u e i T k : TypeId} {fs gs ks : Array Field} (ht : P.underlying t = some (.struct fs)) (hb : P.underlying b = some (.struct gs)) (hu : P.underlying u = some (.slice e)) (he : P.underlying e = some (.slice i)) (hi : P.underlying i = some (.int .i64)) (hT : P.underlying T = some (.slice k)) (hk : P.underlying k = some (.struct ks))
    (hM : fs.toList.map (fun f => (f.offset, f.type)) = [(0, b), (1, i), (2, e), (3, T)]) (hL : gs.toList.map (fun f => (f.offset, f.type)) = [(0, u)]) (hK : ks.toList.map (fun f => (f.offset, f.type)) = [(0, i), (1, i), (2, i), (3, e)])
    (ct : P.cellsOf t = 4) (cb : P.cellsOf b = 1) (cu : P.cellsOf u = 1) (ce : P.cellsOf e = 1) (ci : P.cellsOf i = 1) (cT : P.cellsOf T = 1) (ck : P.cellsOf k = 4)
    {v : Value} {d : DataW H} {ps : List MemPlace} {r : Reach} {base : Nat} (hv : Value.okWide P W r base t v) (h : DataW.Trod enc P W 0 (fun _ => true) true t v d ps) : ∃ s, SheafV (G0 W) v s := by
  obtain ⟨cs, rfl, _⟩ := WideShapes.okWide_struct ht hv
  obtain ⟨fuel, hf⟩ := h
  change DataW.trod enc P W 0 (fun _ => true) true fuel t cs.toList = some (d, ps) at hf
  obtain ⟨m1, x1, hf1⟩ := trod_fld ht hM hf 0 (o := 0) (e := b) rfl
  rw [cb] at hf1
  obtain ⟨A, n, c, m2, x2, e0, r0⟩ := trod_fld_sl hb hL hf1 0 rfl hu cu
  have e0' : cs.toList[0]? = some (.slice A n c) := by simpa using e0
  obtain ⟨p, e1, rp⟩ := trod_fld_i64 ht hM hf 1 rfl hi ci
  obtain ⟨S, ns, es, m3, x3, e2, r2⟩ := trod_fld_sl ht hM hf 2 rfl he ce
  obtain ⟨M, nm, l, m4, x4, e3, r3⟩ := trod_fld_sl ht hM hf 3 rfl hT cT
  obtain ⟨yss, A1, d1, hh, hy, k1, k2, k3⟩ := trod_rows hu he hi ce ci r0
  cases hy
  obtain ⟨xs, A2, c2, hx, h1, h2, h3⟩ := trod_ints he hi ci r2
  cases hx
  obtain ⟨ms, Hm, hnm, q1, q2, q3⟩ := trod_mats hT hk he hi hK ck ce ci r3
  subst hnm
  have hl := trod_clen ht hf
  rw [ct] at hl
  refine ⟨⟨yss, p, xs, ms⟩, ⟨A, c, hh, S, es, M, l, Hm⟩, ?_, ⟨k1, h1, q1⟩, ⟨k3, fun i hi => (k2 i hi).1, h3, q2, q3⟩⟩
  unfold shV shC
  rw [← list_four hl e0' e1 e2 e3]
theorem law_RepairWith {G : GH} {v0 : Value} {v1 : Value} {v2 : Value} {x0 : Shf} {x1 : List Int} {x2 : List Int} (h0 : SheafV G v0 x0) (h1 : IntsV G v1 x1) (h2 : IntsV G v2 x2) : GC Tryz.prog 8 [v0, v1, v2] G fun v _ => v = .bool true := by
  obtain ⟨m0, rfl, h0, n0⟩ := h0
  obtain ⟨A1, c1, rfl, h1, e1, l1⟩ := h1
  obtain ⟨A2, c2, rfl, h2, e2, l2⟩ := h2
  refine kjb (by simp) ?_
  unfold shV shC
  simp (maxSteps := 300000) (disch := omega) only [gws, ↓reduceIte, reduceEqDiff, reduceToNat, reduceMul, reduceAdd, Nat.reduceBEq, isLd]
  have s_b := Sub.refl G
  intro p0 hp0
  generalize hG1 : put G p0 ⟨[.slice m0.A x0.base.length m0.c, .int .i64 x0.p, .slice m0.S x0.st.length m0.e, .slice m0.M x0.ms.length m0.l], true⟩ = G1
  have t1 : Sub G G1 := hG1 ▸ Sub.put hp0 _
  have h0 := h0.sub t1
  have h1 := h1.sub t1
  have h2 := h2.sub t1
  have fa0_0 : rd G1 (some ⟨p0, 0, none⟩) = some (.slice m0.A x0.base.length m0.c) := by rw [← hG1]; exact rd_box _ _ _ 0 _ rfl
  have fa0_1 : rd G1 (some ⟨p0, 1, none⟩) = some (.int .i64 x0.p) := by rw [← hG1]; exact rd_box _ _ _ 1 _ rfl
  have fa0_2 : rd G1 (some ⟨p0, 2, none⟩) = some (.slice m0.S x0.st.length m0.e) := by rw [← hG1]; exact rd_box _ _ _ 2 _ rfl
  have fa0_3 : rd G1 (some ⟨p0, 3, none⟩) = some (.slice m0.M x0.ms.length m0.l) := by rw [← hG1]; exact rd_box _ _ _ 3 _ rfl
  have s_b := Sub.refl G1
  have fa0_0c := rd_sub s_b fa0_0
  have fa0_1c := rd_sub s_b fa0_1
  have fa0_2c := rd_sub s_b fa0_2
  have fa0_3c := rd_sub s_b fa0_3
  simp (maxSteps := 300000) (disch := omega) only [gws, ↓reduceIte, reduceEqDiff, reduceToNat, reduceMul, reduceAdd, Nat.reduceBEq, isLd, fa0_0c, fa0_1c, fa0_2c, fa0_3c]
  by_cases g1 : (1048576 : Int) < x1.length
  · simp (maxSteps := 300000) (disch := omega) only [gws, ↓reduceIte, reduceEqDiff, reduceToNat, reduceMul, reduceAdd, Nat.reduceBEq, isLd, g1, fa0_0c, fa0_1c, fa0_2c, fa0_3c]
  simp (maxSteps := 300000) (disch := omega) only [gws, ↓reduceIte, reduceEqDiff, reduceToNat, reduceMul, reduceAdd, Nat.reduceBEq, isLd, g1, fa0_0c, fa0_1c, fa0_2c, fa0_3c]
  by_cases g2 : (1048576 : Int) < x2.length
  · simp (maxSteps := 300000) (disch := omega) only [gws, ↓reduceIte, reduceEqDiff, reduceToNat, reduceMul, reduceAdd, Nat.reduceBEq, isLd, g2, fa0_0c, fa0_1c, fa0_2c, fa0_3c]
  simp (maxSteps := 300000) (disch := omega) only [gws, ↓reduceIte, reduceEqDiff, reduceToNat, reduceMul, reduceAdd, Nat.reduceBEq, isLd, g2, fa0_0c, fa0_1c, fa0_2c, fa0_3c]
  refine laws_szSheaf_ok (s := x0) (h0.sub s_b) n0 ⟨by omega, by omega⟩ fun q0 q0a q0b q0c => ?_
  simp (maxSteps := 300000) (disch := omega) only [gws, ↓reduceIte, reduceEqDiff, reduceToNat, reduceMul, reduceAdd, Nat.reduceBEq, isLd, fa0_0c, fa0_1c, fa0_2c, fa0_3c]
  by_cases g0 : q0 < 0
  · simp (maxSteps := 300000) (disch := omega) only [gws, ↓reduceIte, reduceEqDiff, reduceToNat, reduceMul, reduceAdd, Nat.reduceBEq, isLd, g0, fa0_0c, fa0_1c, fa0_2c, fa0_3c]
  simp (maxSteps := 300000) (disch := omega) only [gws, ↓reduceIte, reduceEqDiff, reduceToNat, reduceMul, reduceAdd, Nat.reduceBEq, isLd, g0, fa0_0c, fa0_1c, fa0_2c, fa0_3c]
  have z0 := q0c (by omega)
  refine laws_toSheaf_new (s := x0) (h0.sub s_b) z0 fun Ms0 G2 n_s0 => ?_
  unfold shV shC
  have o_s0 := n_s0.own
  have t_s0 := n_s0.sub
  have s_b := s_b.trans t_s0
  have fa0_0c := rd_sub s_b fa0_0
  have fa0_1c := rd_sub s_b fa0_1
  have fa0_2c := rd_sub s_b fa0_2
  have fa0_3c := rd_sub s_b fa0_3
  have s_s0 := Sub.rest G1 G2
  simp (maxSteps := 300000) (disch := omega) only [gws, ↓reduceIte, reduceEqDiff, reduceToNat, reduceMul, reduceAdd, Nat.reduceBEq, isLd, fa0_0c, fa0_1c, fa0_2c, fa0_3c]
  refine laws_toInt64S_new (N := x1) (h1.sub s_b) (by omega) fun As1 G3 n_s1 => ?_
  have o_s1 := n_s1.own
  have t_s1 := n_s1.sub
  have s_b := s_b.trans t_s1
  have s_s0 := s_s0.trans t_s1
  have fa0_0c := rd_sub s_b fa0_0
  have fa0_1c := rd_sub s_b fa0_1
  have fa0_2c := rd_sub s_b fa0_2
  have fa0_3c := rd_sub s_b fa0_3
  have s_s1 := Sub.rest G2 G3
  simp (maxSteps := 300000) (disch := omega) only [gws, ↓reduceIte, reduceEqDiff, reduceToNat, reduceMul, reduceAdd, Nat.reduceBEq, isLd, fa0_0c, fa0_1c, fa0_2c, fa0_3c]
  refine laws_toInt64S_new (N := x2) (h2.sub s_b) (by omega) fun As2 G4 n_s2 => ?_
  have o_s2 := n_s2.own
  have t_s2 := n_s2.sub
  have s_b := s_b.trans t_s2
  have s_s0 := s_s0.trans t_s2
  have s_s1 := s_s1.trans t_s2
  have fa0_0c := rd_sub s_b fa0_0
  have fa0_1c := rd_sub s_b fa0_1
  have fa0_2c := rd_sub s_b fa0_2
  have fa0_3c := rd_sub s_b fa0_3
  have s_s2 := Sub.rest G3 G4
  simp (maxSteps := 300000) (disch := omega) only [gws, ↓reduceIte, reduceEqDiff, reduceToNat, reduceMul, reduceAdd, Nat.reduceBEq, isLd, fa0_0c, fa0_1c, fa0_2c, fa0_3c]
  have hlen : (repW x0 x1 x2).1.length ≤ 2 ^ 20 := repW_len x0 x1 x2 (by omega)
  refine spec_RepairWith_ok (o_s0.sub s_s0).g z0.sm (o_s1.sub s_s1).ints (by omega) (o_s2.sub s_s2).ints (by omega) fun G5 Aw cw n_w => ?_
  have o_w := n_w.own
  have f_b_w : Off G1 Aw := n_w.off.mono s_b
  have t_w := n_w.sub
  have s_b := s_b.trans t_w
  have fa0_0c := rd_sub s_b fa0_0
  have fa0_1c := rd_sub s_b fa0_1
  have fa0_2c := rd_sub s_b fa0_2
  have fa0_3c := rd_sub s_b fa0_3
  have s_w : Sub (rest G4 G5) G5 := Sub.rest _ _
  simp (maxSteps := 300000) (disch := omega) only [gws, ↓reduceIte, reduceEqDiff, reduceToNat, reduceMul, reduceAdd, Nat.reduceBEq, isLd, fa0_0c, fa0_1c, fa0_2c, fa0_3c]
  refine laws_toSheaf_new (s := x0) (h0.sub s_b) z0 fun Mi0 G6 n_i0 => ?_
  unfold shV shC
  have o_i0 := n_i0.own
  have f_b_i0 : OffS G1 Mi0 x0 := n_i0.offS.mono s_b
  have f_w_i0 : OffS (rest G4 G5) Mi0 x0 := n_i0.offS.mono s_w
  have f_i0_w : Off (rest G5 G6) Aw := Off.rest (own_ne (o_w.sub s_w))
  have t_i0 := n_i0.sub
  have s_b := s_b.trans t_i0
  have s_w := s_w.trans t_i0
  have fa0_0c := rd_sub s_b fa0_0
  have fa0_1c := rd_sub s_b fa0_1
  have fa0_2c := rd_sub s_b fa0_2
  have fa0_3c := rd_sub s_b fa0_3
  have s_i0 : Sub (rest G5 G6) G6 := Sub.rest _ _
  simp (maxSteps := 300000) (disch := omega) only [gws, ↓reduceIte, reduceEqDiff, reduceToNat, reduceMul, reduceAdd, Nat.reduceBEq, isLd, fa0_0c, fa0_1c, fa0_2c, fa0_3c]
  intro p3 hp3
  simp (maxSteps := 300000) (disch := omega) only [gws, ↓reduceIte, reduceEqDiff, reduceToNat, reduceMul, reduceAdd, Nat.reduceBEq, isLd, fa0_0c, fa0_1c, fa0_2c, fa0_3c]
  refine st_fresh (vs := [.slice Mi0.A x0.base.length Mi0.c, .int .i64 x0.p, .slice Mi0.S x0.st.length Mi0.e, .slice Mi0.M x0.ms.length Mi0.l]) rfl rfl rfl (by intro v hv; simp only [List.mem_cons, List.not_mem_nil, or_false] at hv; rcases hv with rfl | rfl | rfl | rfl <;> rfl) ?_
  have b_x0 := box_rest (cs := [.slice Mi0.A x0.base.length Mi0.c, .int .i64 x0.p, .slice Mi0.S x0.st.length Mi0.e, .slice Mi0.M x0.ms.length Mi0.l]) hp3
  have f_x0_w : Off (rest G6 (put G6 p3 ⟨[.slice Mi0.A x0.base.length Mi0.c, .int .i64 x0.p, .slice Mi0.S x0.st.length Mi0.e, .slice Mi0.M x0.ms.length Mi0.l], true⟩)) Aw := Off.rest (own_ne (o_w.sub s_w))
  have f_x0_i0 : OffS (rest G6 (put G6 p3 ⟨[.slice Mi0.A x0.base.length Mi0.c, .int .i64 x0.p, .slice Mi0.S x0.st.length Mi0.e, .slice Mi0.M x0.ms.length Mi0.l], true⟩)) Mi0 x0 := OffS.rest (o_i0.sub s_i0).on
  have t_x0 := Sub.put hp3 ⟨[.slice Mi0.A x0.base.length Mi0.c, .int .i64 x0.p, .slice Mi0.S x0.st.length Mi0.e, .slice Mi0.M x0.ms.length Mi0.l], true⟩
  have s_x0 : Sub (rest G6 (put G6 p3 ⟨[.slice Mi0.A x0.base.length Mi0.c, .int .i64 x0.p, .slice Mi0.S x0.st.length Mi0.e, .slice Mi0.M x0.ms.length Mi0.l], true⟩)) _ := Sub.rest _ (put G6 p3 ⟨[.slice Mi0.A x0.base.length Mi0.c, .int .i64 x0.p, .slice Mi0.S x0.st.length Mi0.e, .slice Mi0.M x0.ms.length Mi0.l], true⟩)
  have fi0_0 := b_x0 0 _ rfl
  have fi0_1 := b_x0 1 _ rfl
  have fi0_2 := b_x0 2 _ rfl
  have fi0_3 := b_x0 3 _ rfl
  revert b_x0 f_x0_w f_x0_i0 t_x0 s_x0 fi0_0 fi0_1 fi0_2 fi0_3
  generalize rest G6 (put G6 p3 ⟨[.slice Mi0.A x0.base.length Mi0.c, .int .i64 x0.p, .slice Mi0.S x0.st.length Mi0.e, .slice Mi0.M x0.ms.length Mi0.l], true⟩) = Hx0
  generalize put G6 p3 ⟨[.slice Mi0.A x0.base.length Mi0.c, .int .i64 x0.p, .slice Mi0.S x0.st.length Mi0.e, .slice Mi0.M x0.ms.length Mi0.l], true⟩ = G7
  intro b_x0 f_x0_w f_x0_i0 t_x0 s_x0 fi0_0 fi0_1 fi0_2 fi0_3
  have s_b := s_b.trans t_x0
  have s_w := s_w.trans t_x0
  have s_i0 := s_i0.trans t_x0
  have fa0_0c := rd_sub s_b fa0_0
  have fa0_1c := rd_sub s_b fa0_1
  have fa0_2c := rd_sub s_b fa0_2
  have fa0_3c := rd_sub s_b fa0_3
  have fi0_0c := rd_sub s_x0 fi0_0
  have fi0_1c := rd_sub s_x0 fi0_1
  have fi0_2c := rd_sub s_x0 fi0_2
  have fi0_3c := rd_sub s_x0 fi0_3
  simp (maxSteps := 300000) (disch := omega) only [gws, ↓reduceIte, reduceEqDiff, reduceToNat, reduceMul, reduceAdd, Nat.reduceBEq, isLd, fa0_0c, fa0_1c, fa0_2c, fa0_3c, fi0_0c, fi0_1c, fi0_2c, fi0_3c]
  refine laws_toInt64S_new (N := x1) (h1.sub s_b) (by omega) fun Ai1 G8 n_i1 => ?_
  have o_i1 := n_i1.own
  have f_b_i1 : Off G1 Ai1 := n_i1.off.mono s_b
  have f_w_i1 : Off (rest G4 G5) Ai1 := n_i1.off.mono s_w
  have f_i0_i1 : Off (rest G5 G6) Ai1 := n_i1.off.mono s_i0
  have f_x0_i1 : Off Hx0 Ai1 := n_i1.off.mono s_x0
  have f_i1_w : Off (rest G7 G8) Aw := Off.rest (own_ne (o_w.sub s_w))
  have f_i1_i0 : OffS (rest G7 G8) Mi0 x0 := OffS.rest (o_i0.sub s_i0).on
  have t_i1 := n_i1.sub
  have s_b := s_b.trans t_i1
  have s_w := s_w.trans t_i1
  have s_i0 := s_i0.trans t_i1
  have s_x0 := s_x0.trans t_i1
  have fa0_0c := rd_sub s_b fa0_0
  have fa0_1c := rd_sub s_b fa0_1
  have fa0_2c := rd_sub s_b fa0_2
  have fa0_3c := rd_sub s_b fa0_3
  have fi0_0c := rd_sub s_x0 fi0_0
  have fi0_1c := rd_sub s_x0 fi0_1
  have fi0_2c := rd_sub s_x0 fi0_2
  have fi0_3c := rd_sub s_x0 fi0_3
  have s_i1 : Sub (rest G7 G8) G8 := Sub.rest _ _
  simp (maxSteps := 300000) (disch := omega) only [gws, ↓reduceIte, reduceEqDiff, reduceToNat, reduceMul, reduceAdd, Nat.reduceBEq, isLd, fa0_0c, fa0_1c, fa0_2c, fa0_3c, fi0_0c, fi0_1c, fi0_2c, fi0_3c]
  refine laws_toInt64S_new (N := x2) (h2.sub s_b) (by omega) fun Ai2 G9 n_i2 => ?_
  have o_i2 := n_i2.own
  have f_b_i2 : Off G1 Ai2 := n_i2.off.mono s_b
  have f_w_i2 : Off (rest G4 G5) Ai2 := n_i2.off.mono s_w
  have f_i0_i2 : Off (rest G5 G6) Ai2 := n_i2.off.mono s_i0
  have f_x0_i2 : Off Hx0 Ai2 := n_i2.off.mono s_x0
  have f_i1_i2 : Off (rest G7 G8) Ai2 := n_i2.off.mono s_i1
  have f_i2_w : Off (rest G8 G9) Aw := Off.rest (own_ne (o_w.sub s_w))
  have f_i2_i0 : OffS (rest G8 G9) Mi0 x0 := OffS.rest (o_i0.sub s_i0).on
  have f_i2_i1 : Off (rest G8 G9) Ai1 := Off.rest (own_ne (o_i1.sub s_i1))
  have t_i2 := n_i2.sub
  have s_b := s_b.trans t_i2
  have s_w := s_w.trans t_i2
  have s_i0 := s_i0.trans t_i2
  have s_x0 := s_x0.trans t_i2
  have s_i1 := s_i1.trans t_i2
  have fa0_0c := rd_sub s_b fa0_0
  have fa0_1c := rd_sub s_b fa0_1
  have fa0_2c := rd_sub s_b fa0_2
  have fa0_3c := rd_sub s_b fa0_3
  have fi0_0c := rd_sub s_x0 fi0_0
  have fi0_1c := rd_sub s_x0 fi0_1
  have fi0_2c := rd_sub s_x0 fi0_2
  have fi0_3c := rd_sub s_x0 fi0_3
  have s_i2 : Sub (rest G8 G9) G9 := Sub.rest _ _
  simp (maxSteps := 300000) (disch := omega) only [gws, ↓reduceIte, reduceEqDiff, reduceToNat, reduceMul, reduceAdd, Nat.reduceBEq, isLd, fa0_0c, fa0_1c, fa0_2c, fa0_3c, fi0_0c, fi0_1c, fi0_2c, fi0_3c]
  refine impl_RepairWith_ok (o_i0.sub s_i0).g z0.sm (o_i1.sub s_i1).ints (by omega) (o_i2.sub s_i2).ints (by omega) fun G10 Ag cg n_g => ?_
  have o_g := n_g.own
  have f_b_g : Off G1 Ag := n_g.off.mono s_b
  have f_w_g : Off (rest G4 G5) Ag := n_g.off.mono s_w
  have f_i0_g : Off (rest G5 G6) Ag := n_g.off.mono s_i0
  have f_x0_g : Off Hx0 Ag := n_g.off.mono s_x0
  have f_i1_g : Off (rest G7 G8) Ag := n_g.off.mono s_i1
  have f_i2_g : Off (rest G8 G9) Ag := n_g.off.mono s_i2
  have f_g_w : Off (rest G9 G10) Aw := Off.rest (own_ne (o_w.sub s_w))
  have f_g_i0 : OffS (rest G9 G10) Mi0 x0 := OffS.rest (o_i0.sub s_i0).on
  have f_g_i1 : Off (rest G9 G10) Ai1 := Off.rest (own_ne (o_i1.sub s_i1))
  have f_g_i2 : Off (rest G9 G10) Ai2 := Off.rest (own_ne (o_i2.sub s_i2))
  have t_g := n_g.sub
  have s_b := s_b.trans t_g
  have s_w := s_w.trans t_g
  have s_i0 := s_i0.trans t_g
  have s_x0 := s_x0.trans t_g
  have s_i1 := s_i1.trans t_g
  have s_i2 := s_i2.trans t_g
  have fa0_0c := rd_sub s_b fa0_0
  have fa0_1c := rd_sub s_b fa0_1
  have fa0_2c := rd_sub s_b fa0_2
  have fa0_3c := rd_sub s_b fa0_3
  have fi0_0c := rd_sub s_x0 fi0_0
  have fi0_1c := rd_sub s_x0 fi0_1
  have fi0_2c := rd_sub s_x0 fi0_2
  have fi0_3c := rd_sub s_x0 fi0_3
  have s_g : Sub (rest G9 G10) G10 := Sub.rest _ _
  simp (maxSteps := 300000) (disch := omega) only [gws, ↓reduceIte, reduceEqDiff, reduceToNat, reduceMul, reduceAdd, Nat.reduceBEq, isLd, fa0_0c, fa0_1c, fa0_2c, fa0_3c, fi0_0c, fi0_1c, fi0_2c, fi0_3c]
  refine laws_eqInt64S_ok (o_g.sub s_g).ints (o_w.sub s_w).ints (by omega) ?_
  simp (maxSteps := 300000) (disch := omega) only [gws, ↓reduceIte, reduceEqDiff, reduceToNat, reduceMul, reduceAdd, Nat.reduceBEq, isLd, eq_self, fa0_0c, fa0_1c, fa0_2c, fa0_3c, fi0_0c, fi0_1c, fi0_2c, fi0_3c]
  refine laws_toSheaf_new (s := x0) (h0.sub s_b) z0 fun Me0 G11 n_e0 => ?_
  unfold shV shC
  have o_e0 := n_e0.own
  have t_e0 := n_e0.sub
  have s_b := s_b.trans t_e0
  have s_w := s_w.trans t_e0
  have s_i0 := s_i0.trans t_e0
  have s_x0 := s_x0.trans t_e0
  have s_i1 := s_i1.trans t_e0
  have s_i2 := s_i2.trans t_e0
  have s_g := s_g.trans t_e0
  have fa0_0c := rd_sub s_b fa0_0
  have fa0_1c := rd_sub s_b fa0_1
  have fa0_2c := rd_sub s_b fa0_2
  have fa0_3c := rd_sub s_b fa0_3
  have fi0_0c := rd_sub s_x0 fi0_0
  have fi0_1c := rd_sub s_x0 fi0_1
  have fi0_2c := rd_sub s_x0 fi0_2
  have fi0_3c := rd_sub s_x0 fi0_3
  have s_e0 := Sub.rest G10 G11
  simp (maxSteps := 300000) (disch := omega) only [gws, ↓reduceIte, reduceEqDiff, reduceToNat, reduceMul, reduceAdd, Nat.reduceBEq, isLd, fa0_0c, fa0_1c, fa0_2c, fa0_3c, fi0_0c, fi0_1c, fi0_2c, fi0_3c]
  refine laws_eqSheaf_ok (s := x0) (o_i0.sub s_i0).g (o_e0.sub s_e0).g z0 ?_
  simp (maxSteps := 300000) (disch := omega) only [gws, ↓reduceIte, reduceEqDiff, reduceToNat, reduceMul, reduceAdd, Nat.reduceBEq, isLd, fa0_0c, fa0_1c, fa0_2c, fa0_3c, fi0_0c, fi0_1c, fi0_2c, fi0_3c]
  refine laws_toInt64S_new (N := x1) (h1.sub s_b) (by omega) fun Ae1 G12 n_e1 => ?_
  have o_e1 := n_e1.own
  have t_e1 := n_e1.sub
  have s_b := s_b.trans t_e1
  have s_w := s_w.trans t_e1
  have s_i0 := s_i0.trans t_e1
  have s_x0 := s_x0.trans t_e1
  have s_i1 := s_i1.trans t_e1
  have s_i2 := s_i2.trans t_e1
  have s_g := s_g.trans t_e1
  have s_e0 := s_e0.trans t_e1
  have fa0_0c := rd_sub s_b fa0_0
  have fa0_1c := rd_sub s_b fa0_1
  have fa0_2c := rd_sub s_b fa0_2
  have fa0_3c := rd_sub s_b fa0_3
  have fi0_0c := rd_sub s_x0 fi0_0
  have fi0_1c := rd_sub s_x0 fi0_1
  have fi0_2c := rd_sub s_x0 fi0_2
  have fi0_3c := rd_sub s_x0 fi0_3
  have s_e1 := Sub.rest G11 G12
  simp (maxSteps := 300000) (disch := omega) only [gws, ↓reduceIte, reduceEqDiff, reduceToNat, reduceMul, reduceAdd, Nat.reduceBEq, isLd, fa0_0c, fa0_1c, fa0_2c, fa0_3c, fi0_0c, fi0_1c, fi0_2c, fi0_3c]
  refine laws_eqInt64S_ok (o_i1.sub s_i1).ints (o_e1.sub s_e1).ints (by omega) ?_
  simp (maxSteps := 300000) (disch := omega) only [gws, ↓reduceIte, reduceEqDiff, reduceToNat, reduceMul, reduceAdd, Nat.reduceBEq, isLd, eq_self, fa0_0c, fa0_1c, fa0_2c, fa0_3c, fi0_0c, fi0_1c, fi0_2c, fi0_3c]
  refine laws_toInt64S_new (N := x2) (h2.sub s_b) (by omega) fun Ae2 G13 n_e2 => ?_
  have o_e2 := n_e2.own
  have t_e2 := n_e2.sub
  have s_b := s_b.trans t_e2
  have s_w := s_w.trans t_e2
  have s_i0 := s_i0.trans t_e2
  have s_x0 := s_x0.trans t_e2
  have s_i1 := s_i1.trans t_e2
  have s_i2 := s_i2.trans t_e2
  have s_g := s_g.trans t_e2
  have s_e0 := s_e0.trans t_e2
  have s_e1 := s_e1.trans t_e2
  have fa0_0c := rd_sub s_b fa0_0
  have fa0_1c := rd_sub s_b fa0_1
  have fa0_2c := rd_sub s_b fa0_2
  have fa0_3c := rd_sub s_b fa0_3
  have fi0_0c := rd_sub s_x0 fi0_0
  have fi0_1c := rd_sub s_x0 fi0_1
  have fi0_2c := rd_sub s_x0 fi0_2
  have fi0_3c := rd_sub s_x0 fi0_3
  have s_e2 := Sub.rest G12 G13
  simp (maxSteps := 300000) (disch := omega) only [gws, ↓reduceIte, reduceEqDiff, reduceToNat, reduceMul, reduceAdd, Nat.reduceBEq, isLd, fa0_0c, fa0_1c, fa0_2c, fa0_3c, fi0_0c, fi0_1c, fi0_2c, fi0_3c]
  refine laws_eqInt64S_ok (o_i2.sub s_i2).ints (o_e2.sub s_e2).ints (by omega) ?_
  simp (maxSteps := 300000) (disch := omega) only [gws, ↓reduceIte, reduceEqDiff, reduceToNat, reduceMul, reduceAdd, Nat.reduceBEq, isLd, eq_self, fa0_0c, fa0_1c, fa0_2c, fa0_3c, fi0_0c, fi0_1c, fi0_2c, fi0_3c]
  refine laws_markSheaf_ok (o_i0.sub s_i0) z0 (by omega) fun G14 k0 u0 k0a k0b => ?_
  have s_b := u0.sub s_b f_b_i0
  have s_w := u0.sub s_w f_w_i0
  have s_x0 := u0.sub s_x0 f_x0_i0
  have s_i1 := u0.sub s_i1 f_i1_i0
  have s_i2 := u0.sub s_i2 f_i2_i0
  have s_g := u0.sub s_g f_g_i0
  have fa0_0c := rd_sub s_b fa0_0
  have fa0_1c := rd_sub s_b fa0_1
  have fa0_2c := rd_sub s_b fa0_2
  have fa0_3c := rd_sub s_b fa0_3
  have fi0_0c := rd_sub s_x0 fi0_0
  have fi0_1c := rd_sub s_x0 fi0_1
  have fi0_2c := rd_sub s_x0 fi0_2
  have fi0_3c := rd_sub s_x0 fi0_3
  simp (maxSteps := 300000) (disch := omega) only [gws, ↓reduceIte, reduceEqDiff, reduceToNat, reduceMul, reduceAdd, Nat.reduceBEq, isLd, fa0_0c, fa0_1c, fa0_2c, fa0_3c, fi0_0c, fi0_1c, fi0_2c, fi0_3c]
  refine laws_markInt64S_ok (o_i1.sub s_i1) (by omega) (by omega) fun G15 u1 _ => ?_
  have s_b := u1.sub s_b f_b_i1
  have s_w := u1.sub s_w f_w_i1
  have s_x0 := u1.sub s_x0 f_x0_i1
  have s_i2 := u1.sub s_i2 f_i2_i1
  have s_g := u1.sub s_g f_g_i1
  have fa0_0c := rd_sub s_b fa0_0
  have fa0_1c := rd_sub s_b fa0_1
  have fa0_2c := rd_sub s_b fa0_2
  have fa0_3c := rd_sub s_b fa0_3
  have fi0_0c := rd_sub s_x0 fi0_0
  have fi0_1c := rd_sub s_x0 fi0_1
  have fi0_2c := rd_sub s_x0 fi0_2
  have fi0_3c := rd_sub s_x0 fi0_3
  simp (maxSteps := 300000) (disch := omega) only [gws, ↓reduceIte, reduceEqDiff, reduceToNat, reduceMul, reduceAdd, Nat.reduceBEq, isLd, fa0_0c, fa0_1c, fa0_2c, fa0_3c, fi0_0c, fi0_1c, fi0_2c, fi0_3c]
  refine laws_markInt64S_ok (o_i2.sub s_i2) (by omega) (by omega) fun G16 u2 _ => ?_
  have s_b := u2.sub s_b f_b_i2
  have s_w := u2.sub s_w f_w_i2
  have s_x0 := u2.sub s_x0 f_x0_i2
  have s_g := u2.sub s_g f_g_i2
  have fa0_0c := rd_sub s_b fa0_0
  have fa0_1c := rd_sub s_b fa0_1
  have fa0_2c := rd_sub s_b fa0_2
  have fa0_3c := rd_sub s_b fa0_3
  have fi0_0c := rd_sub s_x0 fi0_0
  have fi0_1c := rd_sub s_x0 fi0_1
  have fi0_2c := rd_sub s_x0 fi0_2
  have fi0_3c := rd_sub s_x0 fi0_3
  simp (maxSteps := 300000) (disch := omega) only [gws, ↓reduceIte, reduceEqDiff, reduceToNat, reduceMul, reduceAdd, Nat.reduceBEq, isLd, fa0_0c, fa0_1c, fa0_2c, fa0_3c, fi0_0c, fi0_1c, fi0_2c, fi0_3c]
  simp (maxSteps := 300000) (disch := omega) only [gws, ↓reduceIte, reduceEqDiff, reduceToNat, reduceMul, reduceAdd, Nat.reduceBEq, isLd, show ∀ z : Int, 0 ≤ z → (z < 0) = False from fun z hz => eq_false (by omega), fa0_0c, fa0_1c, fa0_2c, fa0_3c, fi0_0c, fi0_1c, fi0_2c, fi0_3c]
  refine laws_eqInt64S_ok (o_g.sub s_g).ints (o_w.sub s_w).ints (by omega) ?_
  simp (maxSteps := 300000) (disch := omega) only [gws, ↓reduceIte, reduceEqDiff, reduceToNat, reduceMul, reduceAdd, Nat.reduceBEq, isLd, eq_self, fa0_0c, fa0_1c, fa0_2c, fa0_3c, fi0_0c, fi0_1c, fi0_2c, fi0_3c]
  refine laws_markInt64S_ok (o_g.sub s_g) (by omega) (by omega) fun G17 ug om => ?_
  have s_b := ug.sub s_b f_b_g
  have s_w := ug.sub s_w f_w_g
  have s_x0 := ug.sub s_x0 f_x0_g
  have fa0_0c := rd_sub s_b fa0_0
  have fa0_1c := rd_sub s_b fa0_1
  have fa0_2c := rd_sub s_b fa0_2
  have fa0_3c := rd_sub s_b fa0_3
  have fi0_0c := rd_sub s_x0 fi0_0
  have fi0_1c := rd_sub s_x0 fi0_1
  have fi0_2c := rd_sub s_x0 fi0_2
  have fi0_3c := rd_sub s_x0 fi0_3
  have s_m := Sub.refl G17
  simp (maxSteps := 300000) (disch := omega) only [gws, ↓reduceIte, reduceEqDiff, reduceToNat, reduceMul, reduceAdd, Nat.reduceBEq, isLd, fa0_0c, fa0_1c, fa0_2c, fa0_3c, fi0_0c, fi0_1c, fi0_2c, fi0_3c]
  refine laws_heldInt64S_ok (om.sub s_m).mk (by omega) (by omega) ?_
  simp (maxSteps := 300000) (disch := omega) only [gws, ↓reduceIte, reduceEqDiff, reduceToNat, reduceMul, reduceAdd, Nat.reduceBEq, isLd, eq_self, show (1 + ((repW x0 x1 x2).1.length : Int) < 0) = False from eq_false (by omega), fa0_0c, fa0_1c, fa0_2c, fa0_3c, fi0_0c, fi0_1c, fi0_2c, fi0_3c]
  refine laws_toSheaf_new (s := x0) (h0.sub s_b) z0 fun Mh0 G18 n_h0 => ?_
  unfold shV shC
  have o_h0 := n_h0.own
  have t_h0 := n_h0.sub
  have s_b := s_b.trans t_h0
  have s_w := s_w.trans t_h0
  have s_x0 := s_x0.trans t_h0
  have s_m := s_m.trans t_h0
  have fa0_0c := rd_sub s_b fa0_0
  have fa0_1c := rd_sub s_b fa0_1
  have fa0_2c := rd_sub s_b fa0_2
  have fa0_3c := rd_sub s_b fa0_3
  have fi0_0c := rd_sub s_x0 fi0_0
  have fi0_1c := rd_sub s_x0 fi0_1
  have fi0_2c := rd_sub s_x0 fi0_2
  have fi0_3c := rd_sub s_x0 fi0_3
  have s_h0 := Sub.rest G17 G18
  simp (maxSteps := 300000) (disch := omega) only [gws, ↓reduceIte, reduceEqDiff, reduceToNat, reduceMul, reduceAdd, Nat.reduceBEq, isLd, fa0_0c, fa0_1c, fa0_2c, fa0_3c, fi0_0c, fi0_1c, fi0_2c, fi0_3c]
  refine laws_toInt64S_new (N := x1) (h1.sub s_b) (by omega) fun Ah1 G19 n_h1 => ?_
  have o_h1 := n_h1.own
  have t_h1 := n_h1.sub
  have s_b := s_b.trans t_h1
  have s_w := s_w.trans t_h1
  have s_x0 := s_x0.trans t_h1
  have s_m := s_m.trans t_h1
  have s_h0 := s_h0.trans t_h1
  have fa0_0c := rd_sub s_b fa0_0
  have fa0_1c := rd_sub s_b fa0_1
  have fa0_2c := rd_sub s_b fa0_2
  have fa0_3c := rd_sub s_b fa0_3
  have fi0_0c := rd_sub s_x0 fi0_0
  have fi0_1c := rd_sub s_x0 fi0_1
  have fi0_2c := rd_sub s_x0 fi0_2
  have fi0_3c := rd_sub s_x0 fi0_3
  have s_h1 := Sub.rest G18 G19
  simp (maxSteps := 300000) (disch := omega) only [gws, ↓reduceIte, reduceEqDiff, reduceToNat, reduceMul, reduceAdd, Nat.reduceBEq, isLd, fa0_0c, fa0_1c, fa0_2c, fa0_3c, fi0_0c, fi0_1c, fi0_2c, fi0_3c]
  refine laws_toInt64S_new (N := x2) (h2.sub s_b) (by omega) fun Ah2 G20 n_h2 => ?_
  have o_h2 := n_h2.own
  have t_h2 := n_h2.sub
  have s_b := s_b.trans t_h2
  have s_w := s_w.trans t_h2
  have s_x0 := s_x0.trans t_h2
  have s_m := s_m.trans t_h2
  have s_h0 := s_h0.trans t_h2
  have s_h1 := s_h1.trans t_h2
  have fa0_0c := rd_sub s_b fa0_0
  have fa0_1c := rd_sub s_b fa0_1
  have fa0_2c := rd_sub s_b fa0_2
  have fa0_3c := rd_sub s_b fa0_3
  have fi0_0c := rd_sub s_x0 fi0_0
  have fi0_1c := rd_sub s_x0 fi0_1
  have fi0_2c := rd_sub s_x0 fi0_2
  have fi0_3c := rd_sub s_x0 fi0_3
  have s_h2 := Sub.rest G19 G20
  simp (maxSteps := 300000) (disch := omega) only [gws, ↓reduceIte, reduceEqDiff, reduceToNat, reduceMul, reduceAdd, Nat.reduceBEq, isLd, fa0_0c, fa0_1c, fa0_2c, fa0_3c, fi0_0c, fi0_1c, fi0_2c, fi0_3c]
  refine impl_RepairWith_ok (o_h0.sub s_h0).g z0.sm (o_h1.sub s_h1).ints (by omega) (o_h2.sub s_h2).ints (by omega) fun G21 Ah ch n_h => ?_
  have o_h := n_h.own
  have t_h := n_h.sub
  have s_b := s_b.trans t_h
  have s_w := s_w.trans t_h
  have s_x0 := s_x0.trans t_h
  have s_m := s_m.trans t_h
  have s_h0 := s_h0.trans t_h
  have s_h1 := s_h1.trans t_h
  have s_h2 := s_h2.trans t_h
  have fa0_0c := rd_sub s_b fa0_0
  have fa0_1c := rd_sub s_b fa0_1
  have fa0_2c := rd_sub s_b fa0_2
  have fa0_3c := rd_sub s_b fa0_3
  have fi0_0c := rd_sub s_x0 fi0_0
  have fi0_1c := rd_sub s_x0 fi0_1
  have fi0_2c := rd_sub s_x0 fi0_2
  have fi0_3c := rd_sub s_x0 fi0_3
  have s_h := Sub.rest G20 G21
  simp (maxSteps := 300000) (disch := omega) only [gws, ↓reduceIte, reduceEqDiff, reduceToNat, reduceMul, reduceAdd, Nat.reduceBEq, isLd, fa0_0c, fa0_1c, fa0_2c, fa0_3c, fi0_0c, fi0_1c, fi0_2c, fi0_3c]
  refine laws_eqInt64S_ok (o_h.sub s_h).ints (o_w.sub s_w).ints (by omega) ?_
  simp (maxSteps := 300000) (disch := omega) only [gws, ↓reduceIte, reduceEqDiff, reduceToNat, reduceMul, reduceAdd, Nat.reduceBEq, isLd, eq_self, fa0_0c, fa0_1c, fa0_2c, fa0_3c, fi0_0c, fi0_1c, fi0_2c, fi0_3c]
  refine laws_heldInt64S_ok (om.sub s_m).mk (by omega) (by omega) ?_
  simp (maxSteps := 300000) (disch := omega) only [gws, ↓reduceIte, reduceEqDiff, reduceToNat, reduceMul, reduceAdd, Nat.reduceBEq, isLd, eq_self, show (1 + ((repW x0 x1 x2).1.length : Int) < 0) = False from eq_false (by omega), fa0_0c, fa0_1c, fa0_2c, fa0_3c, fi0_0c, fi0_1c, fi0_2c, fi0_3c]

end Go.Proofs.YtdnipjkpfpahmaaGreat.Gh
