/- What the functions that the law RepairWith reaches return, and the law; it stands under no condition. -/
import Derived.Test.YtdnipjkpfpahmaaGreatYRepairWithc
namespace Go.Proofs.YtdnipjkpfpahmaaGreat.Gh
open Go Go.RowKit Go.Proofs
open Nat (reduceEqDiff reduceMul reduceAdd)
open Int (reduceToNat)
set_option linter.unusedVariables false
set_option linter.unusedSimpArgs false
set_option maxHeartbeats 4000000

theorem spec_l09Two_ok {G : GH} {q : Option Addr} {m : ShM} {s : Shf} {k i j jj : Nat} (h : ShP G q m s) (hs : ShOk s) (hms : s.ms.length ≤ 2 ^ 20) (hk0 : k < s.base.length) (h3 : 3 ≤ (s.base.getD k []).length) (hi : i < (s.base.getD k []).length) (hj : j < (s.base.getD k []).length) (hij : i ≠ j) (hjj : jj = if i < j then j - 1 else j) {K : Value → GH → Prop}
    (hk : ∀ G' D e, Sub G G' → IntS G' D e (prodM (dirM s k i) (dirM s (faN s k i) jj)).m → K (mtV (prodM (dirM s k i) (dirM s (faN s k i) jj)) D e) G') : GC Tryz.prog 199 [.pointer q, .int .i64 (k : Int), .int .i64 (i : Int), .int .i64 (j : Int)] G K := by
  refine k157 (by simp) ?_
  have hw := @l9t_r4
  unfold k155
  generalize k154 = R4 at hw ⊢
  have hjl : jj + 1 < (s.base.getD k []).length := by
    rw [hjj]; split <;> omega
  have h4 := (hs.b.s k hk0).1.2
  have tw := two_of hs hk0 h3 hi hjl
  have hl : (fcs s.base k).length = (s.base.getD k []).length := by rw [fcs_len, facs_two, if_pos (by omega)]
  simp (maxSteps := 300000) (disch := omega) only [gws, ↓reduceIte, reduceEqDiff, reduceToNat, reduceMul, reduceAdd, Nat.reduceBEq, isLd]
  intro b8 hb8
  have s8 := Sub.put hb8 ⟨[.int .i64 0, .int .i64 0, .int .i64 0, .slice none 0 0], true⟩
  have g8 := put_same G b8 ⟨[.int .i64 0, .int .i64 0, .int .i64 0, .slice none 0 0], true⟩
  have hP := h.sub s8
  revert s8 g8 hP
  generalize put G b8 ⟨[.int .i64 0, .int .i64 0, .int .i64 0, .slice none 0 0], true⟩ = G1
  intro s8 g8 hP
  have hq := rd_some hP.f0
  simp (maxSteps := 300000) (disch := omega) only [gws, ↓reduceIte, reduceEqDiff, reduceToNat, reduceMul, reduceAdd, Nat.reduceBEq, isLd]
  refine spec_l05Faces_ok (k := k) hP.cx hs.b hk0 fun G2 Y y hN => ?_
  have hI := hN.ints2 rfl
  have ry := hI.rd i (by omega)
  rw [tw.fe] at ry
  have hsn := hI.sn
  have hP := hP.sub hN.sub
  have g8 := hN.sub _ _ g8
  have s2 := s8.trans hN.sub
  clear hN
  simp (maxSteps := 300000) (disch := omega) only [gws, ↓reduceIte, reduceEqDiff, reduceToNat, reduceMul, reduceAdd, Nat.reduceBEq, isLd, ry]
  have fin : ∀ (T' : Nat → Value) (G3 : GH) (D : Option Addr) (e : Nat), Sub (del G2 b8) G3 → T' 8 = .pointer (some ⟨b8, 0, none⟩) → G3 b8 = some ⟨mtC (prodM (dirM s k i) (dirM s (faN s k i) jj)) D e, true⟩ → IntS G3 D e (prodM (dirM s k i) (dirM s (faN s k i) jj)).m → SeqK (gW Tryz.prog GCode.ret) (RetK [RV.cn 8 4] K) Ex.nrm T' G3 := fun T' G3 D e s3 t8 g3 hI3 => by
    obtain ⟨_, x0, x1, x2, x3⟩ := MtP.of g3 hI3
    simp (maxSteps := 300000) (disch := omega) only [gws, ↓reduceIte, reduceEqDiff, reduceToNat, reduceMul, reduceAdd, Nat.reduceBEq, isLd, t8, x0, x1, x2, x3]
    exact hk _ D e ((s2.in_del hb8).trans s3) hI3
  by_cases c : (i : Int) < j
  · have e1 : (j : Int) - 1 = (jj : Int) := by rw [hjj, if_pos (by omega)]; omega
    simp (maxSteps := 300000) (disch := omega) only [gws, ↓reduceIte, reduceEqDiff, reduceToNat, reduceMul, reduceAdd, Nat.reduceBEq, isLd, c, e1]
    exact hw (k := k) (i := i) (jj := jj) (by simp (maxSteps := 300000) (disch := omega) only [gws, ↓reduceIte, reduceEqDiff, reduceToNat, reduceMul, reduceAdd, Nat.reduceBEq, isLd]) (by simp (maxSteps := 300000) (disch := omega) only [gws, ↓reduceIte, reduceEqDiff, reduceToNat, reduceMul, reduceAdd, Nat.reduceBEq, isLd]) (by simp (maxSteps := 300000) (disch := omega) only [gws, ↓reduceIte, reduceEqDiff, reduceToNat, reduceMul, reduceAdd, Nat.reduceBEq, isLd]) (by simp (maxSteps := 300000) (disch := omega) only [gws, ↓reduceIte, reduceEqDiff, reduceToNat, reduceMul, reduceAdd, Nat.reduceBEq, isLd]) (by simp (maxSteps := 300000) (disch := omega) only [gws, ↓reduceIte, reduceEqDiff, reduceToNat, reduceMul, reduceAdd, Nat.reduceBEq, isLd]) (by simp (maxSteps := 300000) (disch := omega) only [gws, ↓reduceIte, reduceEqDiff, reduceToNat, reduceMul, reduceAdd, Nat.reduceBEq, isLd]) hP hs hms tw (by omega) (by omega) g8 fun T' G3 D e s3 t8 g3 hI3 => fin T' G3 D e s3 t8 g3 hI3
  · have e1 : (j : Int) = (jj : Int) := by rw [hjj, if_neg (by omega)]
    rw [e1] at c ⊢
    simp (maxSteps := 300000) (disch := omega) only [gws, ↓reduceIte, reduceEqDiff, reduceToNat, reduceMul, reduceAdd, Nat.reduceBEq, isLd, c]
    exact hw (k := k) (i := i) (jj := jj) (by simp (maxSteps := 300000) (disch := omega) only [gws, ↓reduceIte, reduceEqDiff, reduceToNat, reduceMul, reduceAdd, Nat.reduceBEq, isLd]) (by simp (maxSteps := 300000) (disch := omega) only [gws, ↓reduceIte, reduceEqDiff, reduceToNat, reduceMul, reduceAdd, Nat.reduceBEq, isLd]) (by simp (maxSteps := 300000) (disch := omega) only [gws, ↓reduceIte, reduceEqDiff, reduceToNat, reduceMul, reduceAdd, Nat.reduceBEq, isLd]) (by simp (maxSteps := 300000) (disch := omega) only [gws, ↓reduceIte, reduceEqDiff, reduceToNat, reduceMul, reduceAdd, Nat.reduceBEq, isLd]) (by simp (maxSteps := 300000) (disch := omega) only [gws, ↓reduceIte, reduceEqDiff, reduceToNat, reduceMul, reduceAdd, Nat.reduceBEq, isLd]) (by simp (maxSteps := 300000) (disch := omega) only [gws, ↓reduceIte, reduceEqDiff, reduceToNat, reduceMul, reduceAdd, Nat.reduceBEq, isLd]) hP hs hms tw (by omega) (by omega) g8 fun T' G3 D e s3 t8 g3 hI3 => fin T' G3 D e s3 t8 g3 hI3
theorem wr_l0 {G : GH} {q : Option Addr} {m : ShM} {s : Shf} {k i : Nat} {T : Nat → Value} {Q : Cont} (t0 : T 0 = .pointer q) (t5 : T 5 = .int .i64 k) (t6 : T 6 = .int .i64 (s.base.getD k []).length) (t7 : T 7 = .int .i64 i) (t8 : T 8 = .int .i64 ((i + 1 : Nat) : Int))
    (h : ShP G q m s) (hs : ShOk s) (hms : s.ms.length ≤ 2 ^ 20) (hk : k < s.base.length) (h3 : 3 ≤ (s.base.getD k []).length) (hi : i < (s.base.getD k []).length)
    (hbad : ∀ T' G2 (y z : Int), Sub G G2 → ¬ SqAll s → T' 2 = .int .i64 k → T' 3 = .int .i64 y → T' 4 = .int .i64 z → Q .ret T' G2)
    (hok : ∀ T' G2, Sub G G2 → (∀ j, i < j → j < (s.base.getD k []).length → SqOk s k i j) → T' 0 = .pointer q → T' 5 = .int .i64 k → T' 6 = .int .i64 (s.base.getD k []).length → T' 7 = .int .i64 i → Q (.ex 4) T' G2) : gLoop (gW Tryz.prog k15l) Q T G := by
  have h4 := (hs.b.s k hk).1.2
  refine gLoop_intro (fun mm T' G' => ∃ j : Nat, T' 0 = .pointer q ∧ T' 5 = .int .i64 k ∧ T' 6 = .int .i64 (s.base.getD k []).length ∧ T' 7 = .int .i64 i ∧ T' 8 = .int .i64 j ∧ mm + j = (s.base.getD k []).length ∧ i < j ∧ j ≤ (s.base.getD k []).length ∧ Sub G G' ∧ ∀ j', i < j' → j' < j → SqOk s k i j') ((s.base.getD k []).length - (i + 1))
    ⟨i + 1, t0, t5, t6, t7, t8, by omega, by omega, by omega, Sub.refl _, fun j' h1 h2 => by omega⟩ ?_
  clear t0 t5 t6 t7 t8
  rintro mm T1 G1 ⟨j, t0, t5, t6, t7, t8, hm, hij, hjl, hS, hin⟩
  simp (maxSteps := 300000) (disch := omega) only [gws, ↓reduceIte, reduceEqDiff, reduceToNat, reduceMul, reduceAdd, Nat.reduceBEq, isLd, t0, t5, t6, t7, t8]
  by_cases hj : (j : Int) < (s.base.getD k []).length
  · simp (maxSteps := 300000) (disch := omega) only [gws, ↓reduceIte, reduceEqDiff, reduceToNat, reduceMul, reduceAdd, Nat.reduceBEq, isLd, t0, t5, t6, t7, t8, hj]
    have hP := h.sub hS
    refine spec_l09Two_ok (k := k) (i := i) (j := j) (jj := j - 1) hP hs hms hk h3 hi (by omega) (by omega) (by rw [if_pos hij]) fun G2 D e s2 hI => ?_
    simp (maxSteps := 300000) (disch := omega) only [gws, ↓reduceIte, reduceEqDiff, reduceToNat, reduceMul, reduceAdd, Nat.reduceBEq, isLd]
    intro b9 hb9
    simp (maxSteps := 300000) (disch := omega) only [gws, ↓reduceIte, reduceEqDiff, reduceToNat, reduceMul, reduceAdd, Nat.reduceBEq, isLd]
    refine st_fresh (vs := mtC (prodM (dirM s k i) (dirM s (faN s k i) (j - 1))) D e) rfl rfl rfl (mtC_one _ _ _) ?_
    have s9 := Sub.put hb9 ⟨mtC (prodM (dirM s k i) (dirM s (faN s k i) (j - 1))) D e, true⟩
    have g9 := put_same G2 b9 ⟨mtC (prodM (dirM s k i) (dirM s (faN s k i) (j - 1))) D e, true⟩
    have hI := hI.sub s9
    have u := s2.trans s9
    clear s2
    revert u g9 hI
    generalize put G2 b9 ⟨mtC (prodM (dirM s k i) (dirM s (faN s k i) (j - 1))) D e, true⟩ = G3
    intro g9 hI u
    simp (maxSteps := 300000) (disch := omega) only [gws, ↓reduceIte, reduceEqDiff, reduceToNat, reduceMul, reduceAdd, Nat.reduceBEq, isLd, t0, t5, t6, t7, t8]
    refine spec_l09Two_ok (k := k) (i := j) (j := i) (jj := i) (hP.sub u) hs hms hk h3 (by omega) hi (by omega) (by rw [if_neg (by omega)]) fun G4 D' e' s4 hI' => ?_
    simp (maxSteps := 300000) (disch := omega) only [gws, ↓reduceIte, reduceEqDiff, reduceToNat, reduceMul, reduceAdd, Nat.reduceBEq, isLd]
    intro b10 hb10
    simp (maxSteps := 300000) (disch := omega) only [gws, ↓reduceIte, reduceEqDiff, reduceToNat, reduceMul, reduceAdd, Nat.reduceBEq, isLd]
    refine st_fresh (vs := mtC (prodM (dirM s k j) (dirM s (faN s k j) i)) D' e') rfl rfl rfl (mtC_one _ _ _) ?_
    have s10 := Sub.put hb10 ⟨mtC (prodM (dirM s k j) (dirM s (faN s k j) i)) D' e', true⟩
    obtain ⟨p1, _⟩ := MtP.of (s10 _ _ (s4 _ _ g9)) ((hI.sub s4).sub s10)
    obtain ⟨p2, _⟩ := MtP.of (put_same G4 b10 ⟨mtC (prodM (dirM s k j) (dirM s (faN s k j) i)) D' e', true⟩) (hI'.sub s10)
    have tw := two_of hs hk h3 (i := i) (j := j - 1) (by omega) (by omega)
    have sAll := (hS.trans u).trans (s4.trans s10)
    simp (maxSteps := 300000) (disch := omega) only [gws, ↓reduceIte, reduceEqDiff, reduceToNat, reduceMul, reduceAdd, Nat.reduceBEq, isLd, t0, t5, t6, t7, t8]
    refine spec_l03Same_ok p1 p2 (by
      rw [prodM_len]
      have h1 := (mt_sz tw.a).1
      have h2 := (mt_sz tw.b).2
      have := Nat.mul_le_mul h1 h2
      omega) fun z hz => ?_
    cases z
    · simp (maxSteps := 300000) (disch := omega) only [gws, ↓reduceIte, reduceEqDiff, reduceToNat, reduceMul, reduceAdd, Nat.reduceBEq, isLd, t0, t5, t6, t7, t8]
      exact hbad _ _ (i : Int) (j : Int) sAll (fun x => by have := hz.2 (x k i j hk hij (by omega) h3); cases this) (by simp (maxSteps := 300000) (disch := omega) only [gws, ↓reduceIte, reduceEqDiff, reduceToNat, reduceMul, reduceAdd, Nat.reduceBEq, isLd]) (by simp (maxSteps := 300000) (disch := omega) only [gws, ↓reduceIte, reduceEqDiff, reduceToNat, reduceMul, reduceAdd, Nat.reduceBEq, isLd]) (by simp (maxSteps := 300000) (disch := omega) only [gws, ↓reduceIte, reduceEqDiff, reduceToNat, reduceMul, reduceAdd, Nat.reduceBEq, isLd])
    · simp (maxSteps := 300000) (disch := omega) only [gws, ↓reduceIte, reduceEqDiff, reduceToNat, reduceMul, reduceAdd, Nat.reduceBEq, isLd, t0, t5, t6, t7, t8]
      exact ⟨mm - 1, by omega, _, Sub.refl _, j + 1, rfl, by omega, by omega, by omega, sAll, fun j' h1 h2 => by
        by_cases e : j' = j
        · subst e; exact hz.1 rfl
        · exact hin j' h1 (by omega)⟩
  · simp (maxSteps := 300000) (disch := omega) only [gws, ↓reduceIte, reduceEqDiff, reduceToNat, reduceMul, reduceAdd, Nat.reduceBEq, isLd, t0, t5, t6, t7, t8, hj]
    exact hok _ _ hS (fun j' h1 h2 => hin j' h1 (by omega)) (by simp (maxSteps := 300000) (disch := omega) only [gws, ↓reduceIte, reduceEqDiff, reduceToNat, reduceMul, reduceAdd, Nat.reduceBEq, isLd, t0]) (by simp (maxSteps := 300000) (disch := omega) only [gws, ↓reduceIte, reduceEqDiff, reduceToNat, reduceMul, reduceAdd, Nat.reduceBEq, isLd, t5]) (by simp (maxSteps := 300000) (disch := omega) only [gws, ↓reduceIte, reduceEqDiff, reduceToNat, reduceMul, reduceAdd, Nat.reduceBEq, isLd, t6]) (by simp (maxSteps := 300000) (disch := omega) only [gws, ↓reduceIte, reduceEqDiff, reduceToNat, reduceMul, reduceAdd, Nat.reduceBEq, isLd, t7])
theorem spec_l09Wrong_ok {G : GH} {q : Option Addr} {m : ShM} {s : Shf} (h : ShP G q m s) (hs : ShOk s) (hms : s.ms.length ≤ 2 ^ 20) {K : Value → GH → Prop}
    (hk : ∀ x y z : Int, (x < 0 ↔ SqAll s) → K (.tuple [.int .i64 x, .int .i64 y, .int .i64 z].toArray) G) : GC Tryz.prog 178 [.pointer q] G K := by
  refine GC_drop (k15t (by simp) ?_)
  have hxn := hs.b.n
  have f0 := h.f0
  have hq := rd_some f0
  have hsn := h.g.rows.sn
  simp (maxSteps := 300000) (disch := omega) only [gws, ↓reduceIte, reduceEqDiff, reduceToNat, reduceMul, reduceAdd, Nat.reduceBEq, isLd]
  refine gLoop_intro (fun mm T G' => ∃ k : Nat, T 0 = .pointer q ∧ T 5 = .int .i64 k ∧ mm + k = s.base.length ∧ k ≤ s.base.length ∧ G = G' ∧ ∀ k', k' < k → ∀ i j, i < j → j < (s.base.getD k' []).length → 3 ≤ (s.base.getD k' []).length → SqOk s k' i j) s.base.length
    ⟨0, by simp (maxSteps := 300000) (disch := omega) only [gws, ↓reduceIte, reduceEqDiff, reduceToNat, reduceMul, reduceAdd, Nat.reduceBEq, isLd], by simp (maxSteps := 300000) (disch := omega) only [gws, ↓reduceIte, reduceEqDiff, reduceToNat, reduceMul, reduceAdd, Nat.reduceBEq, isLd] <;> rfl, by omega, by omega, rfl, fun k' h => by omega⟩ ?_
  rintro mm T G' ⟨k, t0, t5, hm, hkl, rfl, hin⟩
  simp (maxSteps := 300000) (disch := omega) only [gws, ↓reduceIte, reduceEqDiff, reduceToNat, reduceMul, reduceAdd, Nat.reduceBEq, isLd, t0, t5, f0]
  by_cases hkk : (k : Int) < s.base.length
  · have h4 := (hs.b.s k (by omega)).1.2
    have r := h.g.rows.r k (by omega)
    simp (maxSteps := 300000) (disch := omega) only [gws, ↓reduceIte, reduceEqDiff, reduceToNat, reduceMul, reduceAdd, Nat.reduceBEq, isLd, t0, t5, f0, hkk, r]
    refine gLoop_intro (fun m' T G' => ∃ i : Nat, T 0 = .pointer q ∧ T 5 = .int .i64 k ∧ T 6 = .int .i64 (s.base.getD k []).length ∧ T 7 = .int .i64 i ∧ m' + i = (s.base.getD k []).length ∧ i ≤ (s.base.getD k []).length ∧ G = G' ∧ (3 ≤ (s.base.getD k []).length → ∀ i', i' < i → ∀ j, i' < j → j < (s.base.getD k []).length → SqOk s k i' j)) (s.base.getD k []).length
      ⟨0, by simp (maxSteps := 300000) (disch := omega) only [gws, ↓reduceIte, reduceEqDiff, reduceToNat, reduceMul, reduceAdd, Nat.reduceBEq, isLd, t0], by simp (maxSteps := 300000) (disch := omega) only [gws, ↓reduceIte, reduceEqDiff, reduceToNat, reduceMul, reduceAdd, Nat.reduceBEq, isLd, t5], by simp (maxSteps := 300000) (disch := omega) only [gws, ↓reduceIte, reduceEqDiff, reduceToNat, reduceMul, reduceAdd, Nat.reduceBEq, isLd], by simp (maxSteps := 300000) (disch := omega) only [gws, ↓reduceIte, reduceEqDiff, reduceToNat, reduceMul, reduceAdd, Nat.reduceBEq, isLd] <;> rfl, by omega, by omega, rfl, fun _ i' h => by omega⟩ ?_
    clear t0 t5
    rintro m' T G' ⟨i, t0, t5, t6, t7, hm', hil, rfl, hin2⟩
    have next : (3 ≤ (s.base.getD k []).length → ∀ i', i' < (s.base.getD k []).length → ∀ j, i' < j → j < (s.base.getD k []).length → SqOk s k i' j) → ∀ k', k' < k + 1 → ∀ i j, i < j → j < (s.base.getD k' []).length → 3 ≤ (s.base.getD k' []).length → SqOk s k' i j := fun hh k' hk' i' j h1 h2 h5 => by
      by_cases e : k' = k
      · subst e; exact hh h5 i' (by omega) j h1 h2
      · exact hin k' (by omega) i' j h1 h2 h5
    simp (maxSteps := 300000) (disch := omega) only [gws, ↓reduceIte, reduceEqDiff, reduceToNat, reduceMul, reduceAdd, Nat.reduceBEq, isLd, t0, t5, t6, t7]
    by_cases hi : (i : Int) < (s.base.getD k []).length
    · by_cases h3 : (2 : Int) < (s.base.getD k []).length
      · simp (maxSteps := 300000) (disch := omega) only [gws, ↓reduceIte, reduceEqDiff, reduceToNat, reduceMul, reduceAdd, Nat.reduceBEq, isLd, t0, t5, t6, t7, hi, h3]
        refine wr_l0 (k := k) (i := i) (by simp (maxSteps := 300000) (disch := omega) only [gws, ↓reduceIte, reduceEqDiff, reduceToNat, reduceMul, reduceAdd, Nat.reduceBEq, isLd, t0]) (by simp (maxSteps := 300000) (disch := omega) only [gws, ↓reduceIte, reduceEqDiff, reduceToNat, reduceMul, reduceAdd, Nat.reduceBEq, isLd, t5]) (by simp (maxSteps := 300000) (disch := omega) only [gws, ↓reduceIte, reduceEqDiff, reduceToNat, reduceMul, reduceAdd, Nat.reduceBEq, isLd, t6]) (by simp (maxSteps := 300000) (disch := omega) only [gws, ↓reduceIte, reduceEqDiff, reduceToNat, reduceMul, reduceAdd, Nat.reduceBEq, isLd, t7]) (by simp (maxSteps := 300000) (disch := omega) only [gws, ↓reduceIte, reduceEqDiff, reduceToNat, reduceMul, reduceAdd, Nat.reduceBEq, isLd] <;> push_cast <;> rfl) h hs hms (by omega) (by omega) (by omega) (fun T' G3 y z s3 hno u2 u3 u4 => ?_) (fun T' G3 s3 hall a0 a5 a6 a7 => ?_)
        · simp (maxSteps := 300000) (disch := omega) only [gws, ↓reduceIte, reduceEqDiff, reduceToNat, reduceMul, reduceAdd, Nat.reduceBEq, isLd, u2, u3, u4]
          exact ⟨G, s3, hk _ y z ⟨fun x => by omega, fun x => absurd x hno⟩⟩
        · simp (maxSteps := 300000) (disch := omega) only [gws, ↓reduceIte, reduceEqDiff, reduceToNat, reduceMul, reduceAdd, Nat.reduceBEq, isLd, a0, a5, a6, a7]
          exact ⟨m' - 1, by omega, G, s3, i + 1, rfl, by omega, by omega, rfl, fun hh i' hi' j h1 h2 => by
            by_cases e : i' = i
            · subst e; exact hall j h1 h2
            · exact hin2 hh i' (by omega) j h1 h2⟩
      · simp (maxSteps := 300000) (disch := omega) only [gws, ↓reduceIte, reduceEqDiff, reduceToNat, reduceMul, reduceAdd, Nat.reduceBEq, isLd, t0, t5, t6, t7, hi, h3]
        exact ⟨mm - 1, by omega, _, Sub.refl _, k + 1, rfl, by omega, by omega, rfl, next fun hh => by omega⟩
    · simp (maxSteps := 300000) (disch := omega) only [gws, ↓reduceIte, reduceEqDiff, reduceToNat, reduceMul, reduceAdd, Nat.reduceBEq, isLd, t0, t5, t6, t7, hi]
      exact ⟨mm - 1, by omega, _, Sub.refl _, k + 1, rfl, by omega, by omega, rfl, next fun hh i' hi' => hin2 hh i' (by omega)⟩
  · simp (maxSteps := 300000) (disch := omega) only [gws, ↓reduceIte, reduceEqDiff, reduceToNat, reduceMul, reduceAdd, Nat.reduceBEq, isLd, t0, t5, f0, hkk]
    exact ⟨G, Sub.refl _, hk _ _ _ ⟨fun _ k i j h1 h2 h3 h5 => hin k (by omega) i j h2 h3 h5, fun _ => by omega⟩⟩
theorem spec_l09Is_ok {G : GH} {q : Option Addr} {m : ShM} {s : Shf} (h : ShP G q m s) (hsm : ShSm s) {K : Value → GH → Prop} (hk : ∀ z : Bool, (z = true ↔ ShOk s ∧ SqAll s) → K (.bool z) G) : GC Tryz.prog 148 [.pointer q] G K := by
  refine k13b (by simp) ?_
  simp (maxSteps := 300000) (disch := omega) only [gws, ↓reduceIte, reduceEqDiff, reduceToNat, reduceMul, reduceAdd, Nat.reduceBEq, isLd]
  refine spec_l09Ok_ok h hsm fun z hz => ?_
  cases z
  · simp (maxSteps := 300000) (disch := omega) only [gws, ↓reduceIte, reduceEqDiff, reduceToNat, reduceMul, reduceAdd, Nat.reduceBEq, isLd]
    exact hk false ⟨fun x => (by cases x), fun x => by have := hz.2 x.1; cases this⟩
  · have hs := hz.1 rfl
    simp (maxSteps := 300000) (disch := omega) only [gws, ↓reduceIte, reduceEqDiff, reduceToNat, reduceMul, reduceAdd, Nat.reduceBEq, isLd]
    refine spec_l09Wrong_ok h hs hsm.ms fun x y z hz2 => ?_
    simp (maxSteps := 300000) (disch := omega) only [gws, ↓reduceIte, reduceEqDiff, reduceToNat, reduceMul, reduceAdd, Nat.reduceBEq, isLd]
    exact hk _ (by rw [decide_eq_true_eq, hz2]; exact ⟨fun x => ⟨hs, x⟩, fun x => x.2⟩)
theorem stN_app {L R st : List Int} : ∀ j, j ≤ L.length → stN (L ++ R) st j = stN L st j
  | 0, _ => rfl
  | j + 1, h => by
    simp only [stN]
    rw [stN_app j (by omega), show (L ++ R).getD j 0 = L.getD j 0 by simp [List.getD, List.getElem?_append_left (show j < L.length by omega)]]
theorem stN_snoc {L st : List Int} {v : Int} : stN (L ++ [v]) st (L.length + 1) = stN L st L.length + st.getD v.toNat 0 := by
  simp only [stN]
  rw [stN_app _ (Nat.le_refl _)]
  congr 2
  simp [List.getD]
theorem ofdN_pre (xss : List (List Int)) (d : Int) {k n : Nat} (h : k ≤ n) : ∃ R, ofdN xss d n = ofdN xss d k ++ R := by
  obtain ⟨e, rfl⟩ : ∃ e, n = k + e := ⟨n - k, by omega⟩
  clear h
  induction e with
  | zero => exact ⟨[], by simp⟩
  | succ e ih =>
    obtain ⟨R, hR⟩ := ih
    by_cases c : ((xss.getD (k + e) []).length : Int) = d + 1
    · exact ⟨R ++ [((k + e : Nat) : Int)], by rw [← Nat.add_assoc, ofdN_yes c, hR, List.append_assoc]⟩
    · exact ⟨R, by rw [← Nat.add_assoc, ofdN_no c, hR]⟩
theorem ofdN_lt {xss : List (List Int)} {d v : Int} {k : Nat} (h : v ∈ ofdN xss d k) : ∃ i : Nat, i < k ∧ v = i := by
  unfold ofdN at h
  obtain ⟨i, hi, rfl⟩ := List.mem_map.1 h
  exact ⟨i, List.mem_range.1 (List.mem_filter.1 hi).1, rfl⟩
/-- where the part of a simplex begins. -/
def dimS (s : Shf) (k : Nat) : Int := ((s.base.getD k []).length : Int) - 1
def fcol (s : Shf) (k : Nat) : Int := stN (ofdN s.base (dimS s k) k) s.st (ofdN s.base (dimS s k) k).length
theorem spec_l11At_ok {G : GH} {q : Option Addr} {m : ShM} {s : Shf} {k : Nat} (h : ShP G q m s) (hx : CxOk s.base) (hS : StOk s.base s.st) (hk0 : k < s.base.length) {K : Value → GH → Prop}
    (hk : K (.int .i64 (fcol s k)) G) : GC Tryz.prog 87 [.pointer q, .int .i64 (k : Int)] G K := by
  refine k16e (by simp) ?_
  have hn := hx.n
  have f0 := h.f0
  have f2 := h.f2
  have hq := rd_some f0
  have r := h.g.rows.r
  have rk := r k hk0
  have t := h.g.st.rd
  have hsn := h.g.rows.sn
  have hssn := h.g.st.sn
  have hst := hS.1
  simp (maxSteps := 300000) (disch := omega) only [gws, ↓reduceIte, reduceEqDiff, reduceToNat, reduceMul, reduceAdd, Nat.reduceBEq, isLd]
  refine gLoop_intro (fun mm T G' => ∃ j : Nat, T 0 = .pointer q ∧ T 1 = .int .i64 k ∧ T 5 = .int .i64 (stN (ofdN s.base (dimS s k) j) s.st (ofdN s.base (dimS s k) j).length) ∧ T 6 = .int .i64 j ∧ mm + j = k ∧ j ≤ k ∧ G = G') k
    ⟨0, by simp (maxSteps := 300000) (disch := omega) only [gws, ↓reduceIte, reduceEqDiff, reduceToNat, reduceMul, reduceAdd, Nat.reduceBEq, isLd], by simp (maxSteps := 300000) (disch := omega) only [gws, ↓reduceIte, reduceEqDiff, reduceToNat, reduceMul, reduceAdd, Nat.reduceBEq, isLd], by simp (maxSteps := 300000) (disch := omega) only [gws, ↓reduceIte, reduceEqDiff, reduceToNat, reduceMul, reduceAdd, Nat.reduceBEq, isLd] <;> rfl, by simp (maxSteps := 300000) (disch := omega) only [gws, ↓reduceIte, reduceEqDiff, reduceToNat, reduceMul, reduceAdd, Nat.reduceBEq, isLd] <;> rfl, by omega, by omega, rfl⟩ ?_
  rintro mm T G' ⟨j, e0, e1, e5, e6, hm, hjk, rfl⟩
  have hb := stN_bd (L := ofdN s.base (dimS s k) j) hS.2.1 (ofdN s.base (dimS s k) j).length
  have hl := ofdN_len s.base (dimS s k) j
  simp (maxSteps := 300000) (disch := omega) only [gws, ↓reduceIte, reduceEqDiff, reduceToNat, reduceMul, reduceAdd, Nat.reduceBEq, isLd, e0, e1, e5, e6]
  by_cases hj : (j : Int) < k
  · have rj := r j (by omega)
    have tj := t j (by omega)
    have hbj := hS.2.1 j (by omega)
    by_cases he : ((s.base.getD j []).length : Int) = (s.base.getD k []).length
    · have hd : ((s.base.getD j []).length : Int) = dimS s k + 1 := by unfold dimS; omega
      have hg := ofdN_yes hd
      simp (maxSteps := 300000) (disch := omega) only [gws, ↓reduceIte, reduceEqDiff, reduceToNat, reduceMul, reduceAdd, Nat.reduceBEq, isLd, e0, e1, e5, e6, hj, f0, f2, rj, rk, tj, eq_true he]
      exact ⟨mm - 1, by omega, _, Sub.refl _, j + 1, by rw [hg, List.length_append, List.length_singleton, stN_snoc, Int.toNat_natCast], rfl, by omega, by omega, rfl⟩
    · have hd : ¬ ((s.base.getD j []).length : Int) = dimS s k + 1 := by unfold dimS; omega
      have hg := ofdN_no hd
      simp (maxSteps := 300000) (disch := omega) only [gws, ↓reduceIte, reduceEqDiff, reduceToNat, reduceMul, reduceAdd, Nat.reduceBEq, isLd, e0, e1, e5, e6, hj, f0, f2, rj, rk, eq_false he]
      exact ⟨mm - 1, by omega, _, Sub.refl _, j + 1, by rw [hg], rfl, by omega, by omega, rfl⟩
  · simp (maxSteps := 300000) (disch := omega) only [gws, ↓reduceIte, reduceEqDiff, reduceToNat, reduceMul, reduceAdd, Nat.reduceBEq, isLd, e0, e1, e5, e6, hj]
    obtain rfl : j = k := by omega
    exact hk
theorem impl_firstColumn_ok {G : GH} {m : ShM} {s : Shf} {k : Nat} (h : ShG G m s) (hx : CxOk s.base) (hS : StOk s.base s.st) (hk0 : k < s.base.length) {K : Value → GH → Prop}
    (hk : K (.int .i64 (fcol s k)) G) : GC Tryz.prog 123 [shV m s, .int .i64 (k : Int)] G K := by
  refine GC_drop (kag (by simp) ?_)
  have hn := hx.n
  have hst := hS.1
  unfold shV shC
  simp (maxSteps := 300000) (disch := omega) only [gws, ↓reduceIte, reduceEqDiff, reduceToNat, reduceMul, reduceAdd, Nat.reduceBEq, isLd]
  intro b1 hb
  have s1 := Sub.put hb ⟨shC m s, true⟩
  have hP := ShP.box hb h
  unfold shC at s1 hP
  revert s1 hP
  generalize put G b1 ⟨[.slice m.A s.base.length m.c, .int .i64 s.p, .slice m.S s.st.length m.e, .slice m.M s.ms.length m.l], true⟩ = G1
  intro s1 hP
  obtain ⟨f0, f1, f2, f3⟩ := hP.b
  have rk := hP.g.rows.r k hk0
  have hsn := hP.g.rows.sn
  have h4 := (hx.s k hk0).1
  simp (maxSteps := 300000) (disch := omega) only [gws, ↓reduceIte, reduceEqDiff, reduceToNat, reduceMul, reduceAdd, Nat.reduceBEq, isLd, f0, f2, rk]
  refine kf8 (by simp) ?_
  simp (maxSteps := 300000) (disch := omega) only [gws, ↓reduceIte, reduceEqDiff, reduceToNat, reduceMul, reduceAdd, Nat.reduceBEq, isLd, f0, f2, rk]
  refine impl_simplicesOf_ok hP.g.rows hn hx.cs.l (d := dimS s k) (by unfold dimS; omega) fun G2 Y y hN => ?_
  have hd : ((s.base.getD k []).length : Int) = dimS s k + 1 := by unfold dimS; omega
  obtain ⟨R, hR⟩ := ofdN_pre s.base (dimS s k) (show k + 1 ≤ s.base.length by omega)
  rw [ofdN_yes hd, List.append_assoc] at hR
  have hR : ofd s.base (dimS s k) = ofdN s.base (dimS s k) k ++ ([(k : Int)] ++ R) := hR
  have hLl : (ofdN s.base (dimS s k) k).length < (ofd s.base (dimS s k)).length := by rw [hR]; simp
  have gl : ∀ j, j < (ofdN s.base (dimS s k) k).length → ∃ i : Nat, i < k ∧ (ofd s.base (dimS s k)).getD j 0 = i := fun j hj => by
    have hm : (ofdN s.base (dimS s k) k).getD j 0 ∈ ofdN s.base (dimS s k) k := by simp [List.getD, hj]
    obtain ⟨i, h1, h2⟩ := ofdN_lt hm
    exact ⟨i, h1, by rw [hR, show (ofdN s.base (dimS s k) k ++ ([(k : Int)] ++ R)).getD j 0 = (ofdN s.base (dimS s k) k).getD j 0 by simp [List.getD, List.getElem?_append_left hj], h2]⟩
  have ge : (ofd s.base (dimS s k)).getD (ofdN s.base (dimS s k) k).length 0 = k := by rw [hR]; simp [List.getD]
  have hI := hN.ints2 rfl
  have rY := hI.rd
  have snY := hI.sn
  have hol := ofd_len hn (dimS s k)
  have hfc : fcol s k = stN (ofd s.base (dimS s k)) s.st (ofdN s.base (dimS s k) k).length := by rw [hR, stN_app _ (Nat.le_refl _)]; rfl
  have hP2 := hP.sub hN.sub
  have s2 := hN.sub
  have rk2 := hP2.g.rows.r k hk0
  clear hN
  obtain ⟨q0, q1, q2, q3⟩ := hP2.b
  have tS := hP2.g.st.rd
  have snS := hP2.g.st.sn
  simp (maxSteps := 300000) (disch := omega) only [gws, ↓reduceIte, reduceEqDiff, reduceToNat, reduceMul, reduceAdd, Nat.reduceBEq, isLd, q0, q2, rk2]
  refine gLoop_intro (fun mm T G' => ∃ j : Nat, T 1 = .int .i64 k ∧ T 2 = .pointer (some ⟨b1, 0, none⟩) ∧ T 5 = .int .i64 (stN (ofd s.base (dimS s k)) s.st j) ∧ T 18 = .slice Y (ofd s.base (dimS s k)).length y ∧ T 19 = .int .i64 (ofd s.base (dimS s k)).length ∧ T 20 = .int .i64 j ∧ mm + j = (ofdN s.base (dimS s k) k).length ∧ j ≤ (ofdN s.base (dimS s k) k).length ∧ G2 = G') (ofdN s.base (dimS s k) k).length
    ⟨0, by simp (maxSteps := 300000) (disch := omega) only [gws, ↓reduceIte, reduceEqDiff, reduceToNat, reduceMul, reduceAdd, Nat.reduceBEq, isLd], by simp (maxSteps := 300000) (disch := omega) only [gws, ↓reduceIte, reduceEqDiff, reduceToNat, reduceMul, reduceAdd, Nat.reduceBEq, isLd], by simp (maxSteps := 300000) (disch := omega) only [gws, ↓reduceIte, reduceEqDiff, reduceToNat, reduceMul, reduceAdd, Nat.reduceBEq, isLd] <;> rfl, by simp (maxSteps := 300000) (disch := omega) only [gws, ↓reduceIte, reduceEqDiff, reduceToNat, reduceMul, reduceAdd, Nat.reduceBEq, isLd], by simp (maxSteps := 300000) (disch := omega) only [gws, ↓reduceIte, reduceEqDiff, reduceToNat, reduceMul, reduceAdd, Nat.reduceBEq, isLd], by simp (maxSteps := 300000) (disch := omega) only [gws, ↓reduceIte, reduceEqDiff, reduceToNat, reduceMul, reduceAdd, Nat.reduceBEq, isLd] <;> rfl, by omega, by omega, rfl⟩ ?_
  rintro mm T G' ⟨j, e1, e2, e5, e18, e19, e20, hm, hjl, rfl⟩
  have hb := stN_bd (L := ofd s.base (dimS s k)) hS.2.1 j
  have rj := rY j (by omega)
  simp (maxSteps := 300000) (disch := omega) only [gws, ↓reduceIte, reduceEqDiff, reduceToNat, reduceMul, reduceAdd, Nat.reduceBEq, isLd, e1, e2, e5, e18, e19, e20, show ((j : Int) < (ofd s.base (dimS s k)).length) = True from eq_true (by omega), rj]
  by_cases hj : j = (ofdN s.base (dimS s k) k).length
  · subst hj
    have ht : ((k : Int) = (k : Int)) = True := eq_true rfl
    simp (maxSteps := 300000) (disch := omega) only [gws, ↓reduceIte, reduceEqDiff, reduceToNat, reduceMul, reduceAdd, Nat.reduceBEq, isLd, ge, ht, e1, e2, e5, e18, e19, e20]
    exact ⟨G, s1.trans s2, by rw [hfc] at hk; exact hk⟩
  · obtain ⟨i, hik, hgi⟩ := gl j (by omega)
    have ti := tS i (by omega)
    have hbi := hS.2.1 i (by omega)
    have hne : ((i : Int) = (k : Int)) = False := eq_false (by omega)
    simp (maxSteps := 300000) (disch := omega) only [gws, ↓reduceIte, reduceEqDiff, reduceToNat, reduceMul, reduceAdd, Nat.reduceBEq, isLd, hgi, e1, e2, e5, e18, e19, e20, hne, q2, ti]
    exact ⟨mm - 1, by omega, _, Sub.refl _, j + 1, by simp only [stN, hgi, Int.toNat_natCast], rfl, by omega, by omega, rfl⟩
/-- a sheaf without a wrong square. -/
def ShG' (s : Shf) : Prop := ShOk s ∧ SqAll s
/-- readings of a sheaf. -/
def RdOk (s : Shf) (x : List Int) : Prop := InB x 0 (s.p - 1) ∧ (x.length : Int) = ssum s.base s.st 0
open Classical in
noncomputable def codeC (s : Shf) (x : List Int) : Int := if ShG' s then (if RdOk s x then 0 else 7) else 1
theorem spec_l11Cochain_ok {G : GH} {q X : Option Addr} {c : Nat} {m : ShM} {s : Shf} {x : List Int} (h : ShP G q m s) (hsm : ShSm s) (hx : IntS G X c x) (hl : x.length < 2 ^ 40) {K : Value → GH → Prop}
    (hk : K (.int .i64 (codeC s x)) G) : GC Tryz.prog 45 [.pointer q, .int .i64 0, .slice X x.length c] G K := by
  refine k16o (by simp) ?_
  have f0 := h.f0
  have f1 := h.f1
  have f2 := h.f2
  have hq := rd_some f0
  unfold codeC at hk
  simp (maxSteps := 300000) (disch := omega) only [gws, ↓reduceIte, reduceEqDiff, reduceToNat, reduceMul, reduceAdd, Nat.reduceBEq, isLd]
  refine k162 (by simp) ?_
  simp (maxSteps := 300000) (disch := omega) only [gws, ↓reduceIte, reduceEqDiff, reduceToNat, reduceMul, reduceAdd, Nat.reduceBEq, isLd]
  refine spec_l09Is_ok h hsm fun z hz => ?_
  cases z
  · have hno : ¬ ShG' s := fun x => by have := hz.2 x; cases this
    rw [if_neg hno] at hk
    simp (maxSteps := 300000) (disch := omega) only [gws, ↓reduceIte, reduceEqDiff, reduceToNat, reduceMul, reduceAdd, Nat.reduceBEq, isLd, show ((1 : Int) = 0) = False from eq_false (by decide)]
    exact hk
  · have hs := hz.1 rfl
    have hs' : ShG' s := hs
    rw [if_pos hs'] at hk
    simp (maxSteps := 300000) (disch := omega) only [gws, ↓reduceIte, reduceEqDiff, reduceToNat, reduceMul, reduceAdd, Nat.reduceBEq, isLd]
    refine k10s (by simp) ?_
    simp (maxSteps := 300000) (disch := omega) only [gws, ↓reduceIte, reduceEqDiff, reduceToNat, reduceMul, reduceAdd, Nat.reduceBEq, isLd]
    refine spec_l00In_ok _ _ _ ?_
    rw [show decide ((0 : Int) ≤ 0 ∧ (0 : Int) ≤ 3) = true from rfl]
    simp (maxSteps := 300000) (disch := omega) only [gws, ↓reduceIte, reduceEqDiff, reduceToNat, reduceMul, reduceAdd, Nat.reduceBEq, isLd, f1, f2]
    refine spec_l09Sum_ok (d := 0) h.cx h.g.st hs.1.b.cs hs.1.st.1 hs.1.st.2.1 (by omega) ?_
    simp (maxSteps := 300000) (disch := omega) only [gws, ↓reduceIte, reduceEqDiff, reduceToNat, reduceMul, reduceAdd, Nat.reduceBEq, isLd, f1, f2]
    refine spec_l03Column_ok hx hl (by have := hs.1.p.1; have := hs.1.p.2.1; omega) fun z hz2 => ?_
    cases z
    · have : ¬ RdOk s x := fun y => by have := hz2.2 y; cases this
      rw [if_neg this] at hk
      simp (maxSteps := 300000) (disch := omega) only [gws, ↓reduceIte, reduceEqDiff, reduceToNat, reduceMul, reduceAdd, Nat.reduceBEq, isLd, f1, f2]
      exact hk
    · have : RdOk s x := hz2.1 rfl
      rw [if_pos this] at hk
      simp (maxSteps := 300000) (disch := omega) only [gws, ↓reduceIte, reduceEqDiff, reduceToNat, reduceMul, reduceAdd, Nat.reduceBEq, isLd, f1, f2]
      exact hk
/-- the vertices. -/
def vsN (xss : List (List Int)) (k : Nat) : List Int := (ofdN xss 0 k).map fun i => (xss.getD i.toNat []).getD 0 0
theorem vsN_len (xss : List (List Int)) (k : Nat) : (vsN xss k).length = (ofdN xss 0 k).length := by simp [vsN]
theorem impl_verticesOf_ok {G : GH} {A : Option Addr} {c : Nat} {hs : Nat → Option Addr × Nat} {xss : List (List Int)} (h : RowS G A c hs xss) (hx : CxS xss) {K : Value → GH → Prop}
    (hk : ∀ G' Y y, New G G' Y y ((vsN xss xss.length).map I64) 1 (vsN xss xss.length).length → K (.slice Y (vsN xss xss.length).length y) G') : GC Tryz.prog 75 [cxV A xss.length c] G K := by
  refine GC_drop (kgt (by simp) ?_)
  have hn := hx.n
  unfold cxV
  simp (maxSteps := 300000) (disch := omega) only [gws, ↓reduceIte, reduceEqDiff, reduceToNat, reduceMul, reduceAdd, Nat.reduceBEq, isLd]
  intro b1 hb1
  have s1 := Sub.put hb1 ⟨[.slice A xss.length c], true⟩
  have f1 : rd (put G b1 ⟨[.slice A xss.length c], true⟩) (some ⟨b1, 0, none⟩) = some (.slice A xss.length c) := rd_box _ _ _ 0 _ rfl
  have h1 := h.sub s1
  revert h1 f1 s1
  generalize put G b1 ⟨[.slice A xss.length c], true⟩ = G1
  intro s1 f1 h1
  have r := h1.r
  have hsn := h1.sn
  simp (maxSteps := 300000) (disch := omega) only [gws, ↓reduceIte, reduceEqDiff, reduceToNat, reduceMul, reduceAdd, Nat.reduceBEq, isLd, f1]
  refine gLoop_intro (fun m T G' => ∃ (k : Nat) (Z : Option Addr) (z : Nat), T 3 = .slice Z (vsN xss k).length z ∧ T 7 = .slice A xss.length c ∧ T 8 = .int .i64 xss.length ∧ T 9 = .int .i64 k ∧ m + k = xss.length ∧ k ≤ xss.length ∧ New G1 G' Z z ((vsN xss k).map I64) 1 (vsN xss k).length) xss.length
    ⟨0, none, 0, by simp (maxSteps := 300000) (disch := omega) only [gws, ↓reduceIte, reduceEqDiff, reduceToNat, reduceMul, reduceAdd, Nat.reduceBEq, isLd] <;> rfl, by simp (maxSteps := 300000) (disch := omega) only [gws, ↓reduceIte, reduceEqDiff, reduceToNat, reduceMul, reduceAdd, Nat.reduceBEq, isLd], by simp (maxSteps := 300000) (disch := omega) only [gws, ↓reduceIte, reduceEqDiff, reduceToNat, reduceMul, reduceAdd, Nat.reduceBEq, isLd], by simp (maxSteps := 300000) (disch := omega) only [gws, ↓reduceIte, reduceEqDiff, reduceToNat, reduceMul, reduceAdd, Nat.reduceBEq, isLd] <;> rfl, by omega, by omega, New.nil _ _⟩ ?_
  rintro m T G' ⟨k, Z, z, e3, e7, e8, e9, hm, hkl, hN⟩
  have hlen := ofdN_len xss 0 k
  have hvl := vsN_len xss k
  simp (maxSteps := 300000) (disch := omega) only [gws, ↓reduceIte, reduceEqDiff, reduceToNat, reduceMul, reduceAdd, Nat.reduceBEq, isLd, e3, e7, e8, e9]
  by_cases hkk : (k : Int) < xss.length
  · have rk := rd_sub hN.sub (r k (by omega))
    simp (maxSteps := 300000) (disch := omega) only [gws, ↓reduceIte, reduceEqDiff, reduceToNat, reduceMul, reduceAdd, Nat.reduceBEq, isLd, e3, e7, e8, e9, hkk, rk]
    by_cases hd1 : ((xss.getD k []).length : Int) = 1
    · have hI := (h1.row k (by omega)).sub hN.sub
      have r0 := hI.rd 0 (by omega)
      rw [pa_zero] at r0
      have hsn0 := hI.sn (by omega)
      have hg := ofdN_yes (xss := xss) (d := 0) (k := k) (by omega)
      have hv : vsN xss (k + 1) = vsN xss k ++ [(xss.getD k []).getD 0 0] := by unfold vsN; rw [hg, List.map_append]; simp
      simp (maxSteps := 300000) (disch := omega) only [gws, ↓reduceIte, reduceEqDiff, reduceToNat, reduceMul, reduceAdd, Nat.reduceBEq, isLd, eq_true hd1, e3, e7, e8, e9, r0, pa_zero, gBs]
      refine ⟨fun v hv => (by simp at hv; subst hv; rfl), fun b2 hb2 => ?_⟩
      refine ap_new hN (Sub.put hb2 _) (cells_one [.int .i64 ((xss.getD k []).getD 0 0)] true) (by rfl) (by intro v hv; simp at hv; subst hv; rfl) rfl (by omega) (by omega) (by omega) fun G4 Z' z' hN4 => ?_
      simp (maxSteps := 300000) (disch := omega) only [gws, ↓reduceIte, reduceEqDiff, reduceToNat, reduceMul, reduceAdd, Nat.reduceBEq, isLd, e3, e7, e8, e9]
      exact ⟨m - 1, by omega, G4, Sub.refl _, k + 1, Z', z', by rw [hv]; simp, rfl, by omega, by omega, hN4.cast (by rw [hv]; simp [I64]) (by rw [hv]; simp)⟩
    · have hg := ofdN_no (xss := xss) (d := 0) (k := k) (by omega)
      have hv : vsN xss (k + 1) = vsN xss k := by unfold vsN; rw [hg]
      simp (maxSteps := 300000) (disch := omega) only [gws, ↓reduceIte, reduceEqDiff, reduceToNat, reduceMul, reduceAdd, Nat.reduceBEq, isLd, eq_false hd1, e3, e7, e8, e9]
      exact ⟨m - 1, by omega, _, Sub.refl _, k + 1, Z, z, by rw [hv], rfl, by omega, by omega, by rw [hv]; exact hN⟩
  · simp (maxSteps := 300000) (disch := omega) only [gws, ↓reduceIte, reduceEqDiff, reduceToNat, reduceMul, reduceAdd, Nat.reduceBEq, isLd, e3, e7, e8, e9, hkk]
    obtain rfl : k = xss.length := by omega
    obtain ⟨G'', s'', hN''⟩ := hN.low s1
    exact ⟨G'', s'', hk _ _ _ hN''⟩
def VtOk (s : Shf) (ws : List Int) : Prop := Rise ws ∧ InB ws 0 (((vsN s.base s.base.length).length : Int) - 1)
open Classical in
noncomputable def codeR (s : Shf) (x ws : List Int) : Int := if ShG' s then (if RdOk s x then (if VtOk s ws then 0 else 7) else 7) else 1
theorem impl_read_ok {G : GH} {X W : Option Addr} {c w : Nat} {m : ShM} {s : Shf} {x ws : List Int} (h : ShG G m s) (hsm : ShSm s) (hx : IntS G X c x) (hl : x.length < 2 ^ 40) (hw : IntS G W w ws) (hwl : ws.length < 2 ^ 40) {K : Value → GH → Prop}
    (hk : K (.int .i64 (codeR s x ws)) G) : GC Tryz.prog 49 [shV m s, .slice X x.length c, .slice W ws.length w] G K := by
  refine GC_drop (kd4 (by simp) ?_)
  unfold shV shC
  simp (maxSteps := 300000) (disch := omega) only [gws, ↓reduceIte, reduceEqDiff, reduceToNat, reduceMul, reduceAdd, Nat.reduceBEq, isLd]
  intro b1 hb
  have s1 := Sub.put hb ⟨shC m s, true⟩
  have hP := ShP.box hb h
  unfold shC at s1 hP
  revert s1 hP
  generalize put G b1 ⟨[.slice m.A s.base.length m.c, .int .i64 s.p, .slice m.S s.st.length m.e, .slice m.M s.ms.length m.l], true⟩ = G1
  intro s1 hP
  obtain ⟨f0, f1, f2, f3⟩ := hP.b
  unfold codeR at hk
  simp (maxSteps := 300000) (disch := omega) only [gws, ↓reduceIte, reduceEqDiff, reduceToNat, reduceMul, reduceAdd, Nat.reduceBEq, isLd, f0, f1, f2, f3]
  refine impl_IsSheaf_ok (m := m) (s := s) hP.g hsm fun z hz => ?_
  cases z
  · have hno : ¬ ShG' s := fun y => by have := hz.2 y; cases this
    rw [if_neg hno] at hk
    simp (maxSteps := 300000) (disch := omega) only [gws, ↓reduceIte, reduceEqDiff, reduceToNat, reduceMul, reduceAdd, Nat.reduceBEq, isLd]
    exact ⟨G, s1, hk⟩
  have hs := hz.1 rfl
  have hs' : ShG' s := hs
  rw [if_pos hs'] at hk
  have hbn := hs.1.b.n
  simp (maxSteps := 300000) (disch := omega) only [gws, ↓reduceIte, reduceEqDiff, reduceToNat, reduceMul, reduceAdd, Nat.reduceBEq, isLd, f0, f1, f2, f3]
  refine impl_stalkSum_ok (d := 0) hP.g.rows hP.g.st hs.1.b.cs hs.1.st.1 hs.1.st.2.1 (by omega) ?_
  simp (maxSteps := 300000) (disch := omega) only [gws, ↓reduceIte, reduceEqDiff, reduceToNat, reduceMul, reduceAdd, Nat.reduceBEq, isLd, f0, f1, f2, f3]
  refine impl_isVector_ok (hx.sub s1) hl (by have := hs.1.p.1; have := hs.1.p.2.1; omega) fun z hz2 => ?_
  cases z
  · have : ¬ RdOk s x := fun y => by have := hz2.2 y; cases this
    rw [if_neg this] at hk
    simp (maxSteps := 300000) (disch := omega) only [gws, ↓reduceIte, reduceEqDiff, reduceToNat, reduceMul, reduceAdd, Nat.reduceBEq, isLd, f0, f1, f2, f3]
    exact ⟨G, s1, hk⟩
  have hr : RdOk s x := hz2.1 rfl
  rw [if_pos hr] at hk
  simp (maxSteps := 300000) (disch := omega) only [gws, ↓reduceIte, reduceEqDiff, reduceToNat, reduceMul, reduceAdd, Nat.reduceBEq, isLd, f0, f1, f2, f3]
  refine impl_isRising_ok (hw.sub s1) hwl fun z hz3 => ?_
  cases z
  · have : ¬ VtOk s ws := fun y => by have := hz3.2 y.1; cases this
    rw [if_neg this] at hk
    simp (maxSteps := 300000) (disch := omega) only [gws, ↓reduceIte, reduceEqDiff, reduceToNat, reduceMul, reduceAdd, Nat.reduceBEq, isLd]
    exact ⟨G, s1, hk⟩
  simp (maxSteps := 300000) (disch := omega) only [gws, ↓reduceIte, reduceEqDiff, reduceToNat, reduceMul, reduceAdd, Nat.reduceBEq, isLd, f0, f1, f2, f3]
  refine impl_verticesOf_ok hP.g.rows hs.1.b.cs fun G2 Y y hN => ?_
  simp (maxSteps := 300000) (disch := omega) only [gws, ↓reduceIte, reduceEqDiff, reduceToNat, reduceMul, reduceAdd, Nat.reduceBEq, isLd]
  refine kf8 (by simp) ?_
  simp (maxSteps := 300000) (disch := omega) only [gws, ↓reduceIte, reduceEqDiff, reduceToNat, reduceMul, reduceAdd, Nat.reduceBEq, isLd]
  have hvl := vsN_len s.base s.base.length
  have hol := ofdN_len s.base 0 s.base.length
  refine impl_areElements_ok ((hw.sub s1).sub hN.sub) hwl fun z hz4 => ?_
  rw [w64 _ (by omega) (by omega)] at hz4
  cases z
  · have : ¬ VtOk s ws := fun y => by have := hz4.2 y.2; cases this
    rw [if_neg this] at hk
    simp (maxSteps := 300000) (disch := omega) only [gws, ↓reduceIte, reduceEqDiff, reduceToNat, reduceMul, reduceAdd, Nat.reduceBEq, isLd]
    exact ⟨G, s1.trans hN.sub, hk⟩
  · have : VtOk s ws := ⟨hz3.1 rfl, hz4.1 rfl⟩
    rw [if_pos this] at hk
    simp (maxSteps := 300000) (disch := omega) only [gws, ↓reduceIte, reduceEqDiff, reduceToNat, reduceMul, reduceAdd, Nat.reduceBEq, isLd]
    exact ⟨G, s1.trans hN.sub, hk⟩
def colF (x : List Int) : Int → Int := fun t => x.getD t.toNat 0
theorem col_row (x : List Int) : x = rowL x.length (colF x) := by
  refine List.ext_getElem (by rw [rowL_len]) fun i h1 h2 => ?_
  simp [rowL, colF, List.getD, h1]
/-- a matrix times a column, the first rows. -/
def appN (p : Int) (C : Nat) (f : Int → Int → Int) (x : List Int) (k : Nat) : List Int := (List.range k).map fun i : Nat => dsum (f i) (colF x) C % p
theorem appN_succ (p : Int) (C : Nat) (f : Int → Int → Int) (x : List Int) (k : Nat) : appN p C f x (k + 1) = appN p C f x k ++ [dsum (f k) (colF x) C % p] := by simp [appN, List.range_succ]
theorem MB.ld {G : GH} {b : Nat} {p : Int} {R C : Nat} {A : Option Addr} {c : Nat} {f : Int → Int → Int} (h : MB G b p R C A c f) : Option.map (fun l : List Value => Value.agg l.toArray) ((rd G (some ⟨b, 0, none⟩)).bind fun v => Option.map (fun x => v :: x) ((rd G (some ⟨b, 1, none⟩)).bind fun v => Option.map (fun x => v :: x) ((rd G (some ⟨b, 2, none⟩)).bind fun v => Option.map (fun x => v :: x) ((rd G (some ⟨b, 3, none⟩)).bind fun v => some [v])))) = some (.agg #[.int .i64 p, .int .i64 R, .int .i64 C, .slice A (R * C) c]) := by
  rw [h.f0, h.f1, h.f2, h.f3]; rfl
theorem impl_apply_ok {G : GH} {p : Int} {A X : Option Addr} {R C c d : Nat} {f : Int → Int → Int} {x : List Int} (h : IntS G A c (flatL R C f)) (hx : IntS G X d x) (hxl : x.length = C) (hR : R ≤ 2 ^ 10) (hC : C ≤ 2 ^ 10) (hp : 2 ≤ p ∧ p ≤ 251) (hf : ∀ i j, 0 ≤ f i j ∧ f i j ≤ 250) (hb : InB x 0 250) {K : Value → GH → Prop}
    (hk : ∀ G' Y y, New G G' Y y ((appN p C f x R).map I64) 1 R → K (.slice Y R y) G') : GC Tryz.prog 103 [matV p R C A (R * C) c, .slice X x.length d] G K := by
  refine GC_drop (k53 (by simp) ?_)
  unfold matV matC
  simp (maxSteps := 300000) (disch := omega) only [gws, ↓reduceIte, reduceEqDiff, reduceToNat, reduceMul, reduceAdd, Nat.reduceBEq, isLd]
  intro b1 hb1
  have s1 := Sub.put hb1 ⟨mat4 p R C A c, true⟩
  have hB := MB.mk' (p := p) hb1 h
  have hx1 := hx.sub s1
  unfold mat4 at s1 hB hx1
  revert s1 hB hx1
  generalize put G b1 ⟨[.int .i64 p, .int .i64 R, .int .i64 C, .slice A (R * C) c], true⟩ = G1
  intro s1 hB hx1
  have hx2 := hx1
  rw [col_row x, hxl] at hx2
  have hv : ∀ t : Nat, t < C → 0 ≤ colF x t ∧ colF x t ≤ 250 := fun t ht => hb t (by omega)
  rw [hxl]
  simp (maxSteps := 300000) (disch := omega) only [gws, ↓reduceIte, reduceEqDiff, reduceToNat, reduceMul, reduceAdd, Nat.reduceBEq, isLd, hB.f1]
  refine gLoop_intro (fun mm T G' => ∃ (i : Nat) (Z : Option Addr) (z : Nat), T 1 = .slice X C d ∧ T 2 = .pointer (some ⟨b1, 0, none⟩) ∧ T 5 = .slice Z i z ∧ T 8 = .int .i64 R ∧ T 9 = .int .i64 i ∧ mm + i = R ∧ i ≤ R ∧ New G1 G' Z z ((appN p C f x i).map I64) 1 i) R
    ⟨0, none, 0, by simp (maxSteps := 300000) (disch := omega) only [gws, ↓reduceIte, reduceEqDiff, reduceToNat, reduceMul, reduceAdd, Nat.reduceBEq, isLd], by simp (maxSteps := 300000) (disch := omega) only [gws, ↓reduceIte, reduceEqDiff, reduceToNat, reduceMul, reduceAdd, Nat.reduceBEq, isLd], by simp (maxSteps := 300000) (disch := omega) only [gws, ↓reduceIte, reduceEqDiff, reduceToNat, reduceMul, reduceAdd, Nat.reduceBEq, isLd], by simp (maxSteps := 300000) (disch := omega) only [gws, ↓reduceIte, reduceEqDiff, reduceToNat, reduceMul, reduceAdd, Nat.reduceBEq, isLd], by simp (maxSteps := 300000) (disch := omega) only [gws, ↓reduceIte, reduceEqDiff, reduceToNat, reduceMul, reduceAdd, Nat.reduceBEq, isLd] <;> rfl, by omega, by omega, New.nil _ _⟩ ?_
  rintro mm T G' ⟨i, Z, z, e1, e2, e5, e8, e9, hm, hil, hN⟩
  have hB' := hB.sub hN.sub
  simp (maxSteps := 300000) (disch := omega) only [gws, ↓reduceIte, reduceEqDiff, reduceToNat, reduceMul, reduceAdd, Nat.reduceBEq, isLd, e1, e2, e5, e8, e9]
  by_cases hi : (i : Int) < R
  · simp (maxSteps := 300000) (disch := omega) only [gws, ↓reduceIte, reduceEqDiff, reduceToNat, reduceMul, reduceAdd, Nat.reduceBEq, isLd, e1, e2, e5, e8, e9, hi, hB'.f0, hB'.f1, hB'.f2, hB'.f3]
    refine impl_row2_ok (p := p) (R := R) (C := C) (A := A) (c := c) (i := i) (f := f) hB'.m (by omega) (by omega) (by omega) fun B' d' hI => ?_
    simp (maxSteps := 300000) (disch := omega) only [gws, ↓reduceIte, reduceEqDiff, reduceToNat, reduceMul, reduceAdd, Nat.reduceBEq, isLd, e1, e2, e5, e8, e9, hB'.f0, hB'.f1, hB'.f2, hB'.f3]
    refine impl_dotU_ok hI (hx2.sub hN.sub) (Nat.le_refl _) hC hp (fun t _ => hf i t) hv ?_
    simp (maxSteps := 300000) (disch := omega) only [gws, ↓reduceIte, reduceEqDiff, reduceToNat, reduceMul, reduceAdd, Nat.reduceBEq, isLd, e1, e2, e5, e8, e9, hB'.f0, hB'.f1, hB'.f2, hB'.f3, gBs]
    refine ⟨fun v hv => (by simp at hv; subst hv; rfl), fun b2 hb2 => ?_⟩
    have s2 := Sub.put hb2 ⟨[.int .i64 (dsum (f i) (colF x) C % p)], true⟩
    have hB2 := hB'.sub s2
    refine ⟨⟨hB2.f0, hB2.ld⟩, ?_⟩
    refine ap_new hN s2 (cells_one [.int .i64 (dsum (f i) (colF x) C % p)] true) (by rfl) (by intro v hv; simp at hv; subst hv; rfl) rfl (by omega) (by omega) (by omega) fun G4 Z' z' hN4 => ?_
    have hB4 := hB.sub hN4.sub
    simp (maxSteps := 300000) (disch := omega) only [gws, ↓reduceIte, reduceEqDiff, reduceToNat, reduceMul, reduceAdd, Nat.reduceBEq, isLd, e1, e2, e5, e8, e9, hB4.f0, hB4.f1, hB4.f2, hB4.f3]
    exact ⟨mm - 1, by omega, G4, Sub.refl _, i + 1, Z', z', rfl, rfl, by omega, by omega, hN4.cast (by rw [appN_succ]; simp [I64]) rfl⟩
  · simp (maxSteps := 300000) (disch := omega) only [gws, ↓reduceIte, reduceEqDiff, reduceToNat, reduceMul, reduceAdd, Nat.reduceBEq, isLd, e1, e2, e5, e8, e9, hi]
    obtain rfl : i = R := by omega
    obtain ⟨G'', s'', hN''⟩ := hN.low s1
    exact ⟨G'', s'', hk _ _ _ hN''⟩
theorem spec_l03Apply_ok {G : GH} {p : Int} {q A X : Option Addr} {R C c d : Nat} {f : Int → Int → Int} {x : List Int} (h : MQ G q p R C A c f) (hx : IntS G X d x) (hxl : x.length = C) (hR : R ≤ 2 ^ 10) (hC : C ≤ 2 ^ 10) (hp : 2 ≤ p ∧ p ≤ 251) (hf : ∀ i j, 0 ≤ f i j ∧ f i j ≤ 250) (hb : InB x 0 250) {K : Value → GH → Prop}
    (hk : ∀ G' Y y, New G G' Y y ((appN p C f x R).map I64) 1 R → K (.slice Y R y) G') : GC Tryz.prog 94 [.pointer q, .slice X x.length d] G K := by
  refine kw5 (by simp) ?_
  have hq := rd_some h.f0
  have hx2 := hx
  rw [col_row x, hxl] at hx2
  have hv : ∀ t : Nat, t < C → 0 ≤ colF x t ∧ colF x t ≤ 250 := fun t ht => hb t (by omega)
  rw [hxl]
  simp (maxSteps := 300000) (disch := omega) only [gws, ↓reduceIte, reduceEqDiff, reduceToNat, reduceMul, reduceAdd, Nat.reduceBEq, isLd, gBs]
  refine ⟨fun v hv => (by cases hv), fun b0 hb0 => ?_⟩
  have hN0 := New.mk hb0 [] 1 0 rfl
  refine gLoop_intro (fun mm T G' => ∃ (i : Nat) (Z : Option Addr) (z : Nat), T 0 = .pointer q ∧ T 1 = .slice X C d ∧ T 5 = .slice Z i z ∧ T 6 = .int .i64 i ∧ mm + i = R ∧ i ≤ R ∧ New G G' Z z ((appN p C f x i).map I64) 1 i) R
    ⟨0, _, _, by simp (maxSteps := 300000) (disch := omega) only [gws, ↓reduceIte, reduceEqDiff, reduceToNat, reduceMul, reduceAdd, Nat.reduceBEq, isLd], by simp (maxSteps := 300000) (disch := omega) only [gws, ↓reduceIte, reduceEqDiff, reduceToNat, reduceMul, reduceAdd, Nat.reduceBEq, isLd], by simp (maxSteps := 300000) (disch := omega) only [gws, ↓reduceIte, reduceEqDiff, reduceToNat, reduceMul, reduceAdd, Nat.reduceBEq, isLd] <;> rfl, by simp (maxSteps := 300000) (disch := omega) only [gws, ↓reduceIte, reduceEqDiff, reduceToNat, reduceMul, reduceAdd, Nat.reduceBEq, isLd] <;> rfl, by omega, by omega, hN0⟩ ?_
  clear hN0
  rintro mm T G' ⟨i, Z, z, e0, e1, e5, e6, hm, hil, hN⟩
  have h' := h.sub hN.sub
  have hx' := hx2.sub hN.sub
  simp (maxSteps := 300000) (disch := omega) only [gws, ↓reduceIte, reduceEqDiff, reduceToNat, reduceMul, reduceAdd, Nat.reduceBEq, isLd, e0, e1, e5, e6, h'.f1]
  by_cases hi : (i : Int) < R
  · have hi' : i < R := by omega
    simp (maxSteps := 300000) (disch := omega) only [gws, ↓reduceIte, reduceEqDiff, reduceToNat, reduceMul, reduceAdd, Nat.reduceBEq, isLd, e0, e1, e5, e6, h'.f1, hi]
    refine gLoop_intro (fun m' T Gx => ∃ j : Nat, T 0 = .pointer q ∧ T 1 = .slice X C d ∧ T 5 = .slice Z i z ∧ T 6 = .int .i64 i ∧ T 7 = .int .i64 (dsum (f i) (colF x) j) ∧ T 8 = .int .i64 j ∧ m' + j = C ∧ j ≤ C ∧ G' = Gx) C
      ⟨0, by simp (maxSteps := 300000) (disch := omega) only [gws, ↓reduceIte, reduceEqDiff, reduceToNat, reduceMul, reduceAdd, Nat.reduceBEq, isLd, e0], by simp (maxSteps := 300000) (disch := omega) only [gws, ↓reduceIte, reduceEqDiff, reduceToNat, reduceMul, reduceAdd, Nat.reduceBEq, isLd, e1], by simp (maxSteps := 300000) (disch := omega) only [gws, ↓reduceIte, reduceEqDiff, reduceToNat, reduceMul, reduceAdd, Nat.reduceBEq, isLd, e5], by simp (maxSteps := 300000) (disch := omega) only [gws, ↓reduceIte, reduceEqDiff, reduceToNat, reduceMul, reduceAdd, Nat.reduceBEq, isLd, e6], by simp (maxSteps := 300000) (disch := omega) only [gws, ↓reduceIte, reduceEqDiff, reduceToNat, reduceMul, reduceAdd, Nat.reduceBEq, isLd] <;> rfl, by simp (maxSteps := 300000) (disch := omega) only [gws, ↓reduceIte, reduceEqDiff, reduceToNat, reduceMul, reduceAdd, Nat.reduceBEq, isLd] <;> rfl, by omega, by omega, rfl⟩ ?_
    clear e0 e1 e5 e6
    rintro m' T Gx ⟨j, e0, e1, e5, e6, e7, e8, hm', hjl, rfl⟩
    have hds := dsum_bd (u := f i) (v := colF x) (n := C) (fun t _ => hf i t) hv j (by omega)
    simp (maxSteps := 300000) (disch := omega) only [gws, ↓reduceIte, reduceEqDiff, reduceToNat, reduceMul, reduceAdd, Nat.reduceBEq, isLd, e0, e1, e5, e6, e7, e8, h'.f2]
    by_cases hj : (j : Int) < C
    · have hj' : j < C := by omega
      have r1 := h'.cell hi' hj'
      have r2 := rowL_bd hx' hj'
      have huv := uv_bd (hf i j) (hv j hj')
      have m1 := mulB (a := (i : Int)) (b := (C : Int)) (A := 2 ^ 10) (B := 2 ^ 10) (by omega) (by omega)
      have w1 := w64 ((i : Int) * C) (by omega) (by omega)
      have w2 := w64 ((i : Int) * C + j) (by omega) (by omega)
      have w5 := w64 (f i j * colF x j) (by omega) (by omega)
      have e1' : (i : Int) * C + j = ((i * C + j : Nat) : Int) := by push_cast; rfl
      have l1 := flat_nat hi' hj'
      have s1 := h'.m.sn (by rw [flatL_len]; omega)
      have s2 := hx'.sn (by rw [rowL_len]; omega)
      have w6 := w64 (dsum (f i) (colF x) j + f i j * colF x j) (by omega) (by omega)
      simp (maxSteps := 300000) (disch := omega) only [gws, ↓reduceIte, reduceEqDiff, reduceToNat, reduceMul, reduceAdd, Nat.reduceBEq, isLd, e0, e1, e5, e6, e7, e8, hj, h'.f2, h'.f3, w1, w2, e1', r1, r2, w5, w6]
      exact ⟨m' - 1, by omega, _, Sub.refl _, j + 1, rfl, rfl, by omega, by omega, rfl⟩
    · obtain rfl : j = C := by omega
      have hrem := bin_rem .i64 (dsum (f i) (colF x) j) p (by omega)
      rw [Int.tmod_eq_emod_of_nonneg hds.1] at hrem
      simp (maxSteps := 300000) (disch := omega) only [gws, ↓reduceIte, reduceEqDiff, reduceToNat, reduceMul, reduceAdd, Nat.reduceBEq, isLd, e0, e1, e5, e6, e7, e8, hj, h'.f0, hrem, gBs]
      refine ⟨fun v hv => (by simp at hv; subst hv; rfl), fun b2 hb2 => ?_⟩
      refine ap_new hN (Sub.put hb2 _) (cells_one [.int .i64 (dsum (f i) (colF x) j % p)] true) (by rfl) (by intro v hv; simp at hv; subst hv; rfl) rfl (by omega) (by omega) (by omega) fun G4 Z' z' hN4 => ?_
      simp (maxSteps := 300000) (disch := omega) only [gws, ↓reduceIte, reduceEqDiff, reduceToNat, reduceMul, reduceAdd, Nat.reduceBEq, isLd, e0, e1, e5, e6]
      exact ⟨mm - 1, by omega, G4, Sub.refl _, i + 1, Z', z', rfl, rfl, by omega, by omega, hN4.cast (by rw [appN_succ]; simp [I64]) rfl⟩
  · simp (maxSteps := 300000) (disch := omega) only [gws, ↓reduceIte, reduceEqDiff, reduceToNat, reduceMul, reduceAdd, Nat.reduceBEq, isLd, e0, e1, e5, e6, h'.f1, hi]
    obtain rfl : i = R := by omega
    exact hk _ _ _ hN
theorem fcol_nn {s : Shf} (hS : StOk s.base s.st) (k : Nat) : 0 ≤ fcol s k := (stN_bd hS.2.1 _).1
theorem stN_mono {L st : List Int} (hb : InB st 0 3) {i j : Nat} (h : i ≤ j) : stN L st i ≤ stN L st j := by
  obtain ⟨e, rfl⟩ : ∃ e, j = i + e := ⟨j - i, by omega⟩
  clear h
  induction e with
  | zero => exact Int.le_refl _
  | succ e ih =>
    have h2 : 0 ≤ st.getD (L.getD (i + e) 0).toNat 0 := by
      by_cases h : (L.getD (i + e) 0).toNat < st.length
      · exact (hb _ h).1
      · generalize (L.getD (i + e) 0).toNat = q at h
        simp [List.getD, List.getElem?_eq_none (Nat.le_of_not_lt h)]
    have : stN L st (i + (e + 1)) = stN L st (i + e) + st.getD (L.getD (i + e) 0).toNat 0 := rfl
    omega
/-- a simplex's part ends inside. -/
theorem fcol_end {s : Shf} (hS : StOk s.base s.st) {k : Nat} (hk : k < s.base.length) (hlen : 1 ≤ (s.base.getD k []).length) : fcol s k + s.st.getD k 0 ≤ ssum s.base s.st (dimS s k) := by
  have hd : ((s.base.getD k []).length : Int) = dimS s k + 1 := by unfold dimS; omega
  obtain ⟨R, hR⟩ := ofdN_pre s.base (dimS s k) (show k + 1 ≤ s.base.length by omega)
  have hR1 : ofd s.base (dimS s k) = ofdN s.base (dimS s k) (k + 1) ++ R := hR
  have h1 : stN (ofdN s.base (dimS s k) (k + 1)) s.st (ofdN s.base (dimS s k) (k + 1)).length = fcol s k + s.st.getD k 0 := by
    rw [ofdN_yes hd, List.length_append, List.length_singleton, stN_snoc, Int.toNat_natCast]; rfl
  have h2 : stN (ofd s.base (dimS s k)) s.st (ofdN s.base (dimS s k) (k + 1)).length = fcol s k + s.st.getD k 0 := by
    rw [hR1, stN_app _ (Nat.le_refl _), h1]
  rw [← h2]
  unfold ssum
  exact stN_mono hS.2.1 (by rw [hR1]; simp)
/-- cells that are written one behind another. -/
def wB (F g : Int → Int → Int) (top left : Int) (a : Nat) : Nat → Int → Int → Int
  | 0 => F
  | b + 1 => upd2 (wB F g top left a b) (top + a) (left + b) (g a b)
def wA (F g : Int → Int → Int) (top left : Int) (C : Nat) : Nat → Int → Int → Int
  | 0 => F
  | a + 1 => wB (wA F g top left C a) g top left a C
def sgn (p : Int) (i : Nat) : Int := if i % 2 = 0 then 1 else p - 1
def gF (s : Shf) (e i : Nat) : Int → Int → Int := fun a b => fM (dirM s e i) a b * sgn s.p i % s.p
def wFa (s : Shf) (F : Int → Int → Int) (e : Nat) : Nat → Int → Int → Int
  | 0 => F
  | i + 1 => wA (wFa s F e i) (gF s e i) (fcol s e) (fcol s (faN s e i)) (dirM s e i).c.toNat (dirM s e i).r.toNat
def wE (s : Shf) : Nat → Int → Int → Int
  | 0 => fun _ _ => 0
  | n + 1 => wFa s (wE s n) ((ofd s.base 1).getD n 0).toNat (fcs s.base ((ofd s.base 1).getD n 0).toNat).length
/-- the cells of the coboundary. -/
def cobF (s : Shf) : Int → Int → Int := wE s (ofd s.base 1).length
theorem impl_alternating_ok {G : GH} {i : Nat} {p : Int} (hp : 2 ≤ p ∧ p ≤ 251) (hi : i ≤ 1000) {K : Value → GH → Prop} (hk : K (.int .i64 (sgn p i)) G) : GC Tryz.prog 160 [.int .i64 (i : Int), .int .i64 p] G K := by
  refine k4r (by simp) ?_
  have hrem := bin_rem .i64 (i : Int) 2 (by decide)
  rw [Int.tmod_eq_emod_of_nonneg (by omega)] at hrem
  unfold sgn at hk
  simp (maxSteps := 300000) (disch := omega) only [gws, ↓reduceIte, reduceEqDiff, reduceToNat, reduceMul, reduceAdd, Nat.reduceBEq, isLd, hrem]
  by_cases h : i % 2 = 0
  · rw [if_pos h] at hk
    have h' : (i : Int) % 2 = 0 := by omega
    simp (maxSteps := 300000) (disch := omega) only [gws, ↓reduceIte, reduceEqDiff, reduceToNat, reduceMul, reduceAdd, Nat.reduceBEq, isLd, eq_true h']
    exact hk
  · rw [if_neg h] at hk
    have h' : ¬ (i : Int) % 2 = 0 := by omega
    simp (maxSteps := 300000) (disch := omega) only [gws, ↓reduceIte, reduceEqDiff, reduceToNat, reduceMul, reduceAdd, Nat.reduceBEq, isLd, eq_false h']
    exact hk
theorem spec_l07Sign_ok {G : GH} {i : Nat} {p : Int} (hp : 2 ≤ p ∧ p ≤ 251) (hi : i ≤ 1000) {K : Value → GH → Prop} (hk : K (.int .i64 (sgn p i)) G) : GC Tryz.prog 151 [.int .i64 (i : Int), .int .i64 p] G K := by
  refine k12t (by simp) ?_
  have hrem := bin_rem .i64 (i : Int) 2 (by decide)
  rw [Int.tmod_eq_emod_of_nonneg (by omega)] at hrem
  have hrem2 := bin_rem .i64 1 p (by omega)
  rw [Int.tmod_eq_emod_of_nonneg (by omega), Int.emod_eq_of_lt (by omega) (by omega)] at hrem2
  unfold sgn at hk
  simp (maxSteps := 300000) (disch := omega) only [gws, ↓reduceIte, reduceEqDiff, reduceToNat, reduceMul, reduceAdd, Nat.reduceBEq, isLd, hrem]
  by_cases h : i % 2 = 0
  · rw [if_pos h] at hk
    have h' : (i : Int) % 2 = 0 := by omega
    simp (maxSteps := 300000) (disch := omega) only [gws, ↓reduceIte, reduceEqDiff, reduceToNat, reduceMul, reduceAdd, Nat.reduceBEq, isLd, eq_true h', hrem2]
    exact hk
  · rw [if_neg h] at hk
    have h' : ¬ (i : Int) % 2 = 0 := by omega
    simp (maxSteps := 300000) (disch := omega) only [gws, ↓reduceIte, reduceEqDiff, reduceToNat, reduceMul, reduceAdd, Nat.reduceBEq, isLd, eq_false h']
    exact hk
/-- the first temporaries are as they were. -/
def SameL (T' T : Nat → Value) : Prop := ∀ l, l ≤ 14 → T' l = T l
theorem cm_l0 {H G : GH} {q qm A : Option Addr} {m : ShM} {s : Shf} {M : Mt} {b5 bz k R C tp lf a : Nat} {sg : Int} {F : Int → Int → Int} {T : Nat → Value} {Q : Cont} (hP : ShP H q m s) (hM : MtP H qm M A k) (hMo : MtOk M) (hp : 2 ≤ s.p ∧ s.p ≤ 251) (h5 : H b5 = some ⟨mat4 s.p R C (some ⟨bz, 0, none⟩) (R * C), true⟩) (hz : H bz = none) (hS : Sub H G) (hF : Fl G bz R C F)
    (hR : R ≤ 32) (hC : C ≤ 32) (hsg : 0 ≤ sg ∧ sg ≤ 250) (ha : a < M.r.toNat) (hta : tp + M.r.toNat ≤ R) (hlb : lf + M.c.toNat ≤ C)
    (t0 : T 0 = .pointer q) (t5 : T 5 = .pointer (some ⟨b5, 0, none⟩)) (t9 : T 9 = .int .i64 tp) (t11 : T 11 = .pointer qm) (t12 : T 12 = .int .i64 lf) (t13 : T 13 = .int .i64 sg) (t14 : T 14 = .int .i64 a) (t15 : T 15 = .int .i64 0)
    (hQ : ∀ T' G', Sub H G' → Fl G' bz R C (wB F (fun i j => fM M i j * sg % s.p) tp lf a M.c.toNat) → SameL T' T → Q (.ex 6) T' G') : gLoop (gW Tryz.prog k177) Q T G := by
  have hq := rd_some hP.f0
  have hqm := rd_some hM.f0
  obtain ⟨ml, mr, mc⟩ := mt_len hMo
  have hsz := hMo.c
  have hrz := hMo.r
  have m5 : ∀ {G' : GH}, Sub H G' → rd G' (some ⟨b5, 2, none⟩) = some (.int .i64 C) ∧ rd G' (some ⟨b5, 3, none⟩) = some (.slice (some ⟨bz, 0, none⟩) (R * C) (R * C)) := fun u => by
    simp only [rd, u _ _ h5]; exact ⟨rfl, rfl⟩
  refine gLoop_intro (fun mm T' G' => ∃ b : Nat, SameL T' T ∧ T' 15 = .int .i64 b ∧ mm + b = M.c.toNat ∧ b ≤ M.c.toNat ∧ Sub H G' ∧ Fl G' bz R C (wB F (fun i j => fM M i j * sg % s.p) tp lf a b)) M.c.toNat
    ⟨0, fun l _ => rfl, t15, by omega, by omega, hS, hF⟩ ?_
  clear hS hF
  rintro mm T1 G1 ⟨b, hT, e15, hm, hbl, hS, hF⟩
  have e0 : T1 0 = .pointer q := (hT 0 (by omega)).trans t0
  have e5 : T1 5 = .pointer (some ⟨b5, 0, none⟩) := (hT 5 (by omega)).trans t5
  have e9 : T1 9 = .int .i64 tp := (hT 9 (by omega)).trans t9
  have e11 : T1 11 = .pointer qm := (hT 11 (by omega)).trans t11
  have e12 : T1 12 = .int .i64 lf := (hT 12 (by omega)).trans t12
  have e13 : T1 13 = .int .i64 sg := (hT 13 (by omega)).trans t13
  have e14 : T1 14 = .int .i64 a := (hT 14 (by omega)).trans t14
  have hM1 := hM.sub hS
  have f2 := hM1.f2
  rw [← mc] at f2
  simp (maxSteps := 300000) (disch := omega) only [gws, ↓reduceIte, reduceEqDiff, reduceToNat, reduceMul, reduceAdd, Nat.reduceBEq, isLd, e11, e15, f2]
  by_cases hb : (b : Int) < (M.c.toNat : Nat)
  · have hb' : b < M.c.toNat := by omega
    have hP1 := hP.sub hS
    obtain ⟨q2, q3⟩ := m5 hS
    have hcell := (hM1.mq hMo).cell ha hb'
    have hfb := fM_bd hMo a b
    have huv := uv_bd hfb hsg
    have w1 := w64 (fM M a b * sg) (by omega) (by omega)
    have hrem := bin_rem .i64 (fM M a b * sg) s.p (by omega)
    rw [Int.tmod_eq_emod_of_nonneg huv.1] at hrem
    have m1 := mulB (a := (tp : Int) + a) (b := (C : Int)) (A := 2 ^ 10) (B := 2 ^ 10) (by omega) (by omega)
    have m2 := mulB (a := (a : Int)) (b := (M.c.toNat : Int)) (A := 2 ^ 10) (B := 2 ^ 10) (by omega) (by omega)
    have w2 := w64 (((tp : Int) + a) * C) (by omega) (by omega)
    have w3 := w64 (((tp : Int) + a) * C + lf) (by omega) (by omega)
    have w4 := w64 (((tp : Int) + a) * C + lf + b) (by omega) (by omega)
    have w5 := w64 ((a : Int) * (M.c.toNat : Nat)) (by omega) (by omega)
    have w6 := w64 ((a : Int) * (M.c.toNat : Nat) + b) (by omega) (by omega)
    have e1 : ((tp : Int) + a) * C + lf + b = (((tp + a) * C + (lf + b) : Nat) : Int) := by push_cast; omega
    have e2 : (a : Int) * (M.c.toNat : Nat) + b = ((a * M.c.toNat + b : Nat) : Int) := by push_cast; rfl
    have l1 := flat_nat (show tp + a < R by omega) (show lf + b < C by omega)
    have l2 := flat_nat ha hb'
    have s2 := hM1.m.sn (by rw [ml]; omega)
    have f3 := hM1.f3
    rw [ml] at f3
    simp (maxSteps := 300000) (disch := omega) only [gws, ↓reduceIte, reduceEqDiff, reduceToNat, reduceMul, reduceAdd, Nat.reduceBEq, isLd, e0, e5, e9, e11, e12, e13, e14, e15, hb, f2, f3, q2, q3, hP1.f1, w1, w2, w3, w4, w5, w6, e1, e2, hcell, hrem]
    refine hF.st' (show tp + a < R by omega) (show lf + b < C by omega) fun G4 hF4 k4 => ?_
    simp (maxSteps := 300000) (disch := omega) only [gws, ↓reduceIte, reduceEqDiff, reduceToNat, reduceMul, reduceAdd, Nat.reduceBEq, isLd, e15]
    refine ⟨mm - 1, by omega, G4, Sub.refl _, b + 1, fun l hl => ?_, rfl, by omega, by omega, sub_keep k4 hz hS, ?_⟩
    · repeat first | rw [upd_app, if_neg (by omega)] | rw [if_neg (by omega)]
      exact hT l hl
    · have e3 : ((tp + a : Nat) : Int) = (tp : Int) + a := by push_cast; rfl
      have e4 : ((lf + b : Nat) : Int) = (lf : Int) + b := by push_cast; rfl
      rw [e3, e4] at hF4
      exact hF4
  · obtain rfl : b = M.c.toNat := by omega
    simp (maxSteps := 300000) (disch := omega) only [gws, ↓reduceIte, reduceEqDiff, reduceToNat, reduceMul, reduceAdd, Nat.reduceBEq, isLd, e11, e15, f2, hb]
    refine hQ _ _ hS hF fun l hl => ?_
    repeat rw [upd_app, if_neg (by omega)]
    exact hT l hl
def SameN (n : Nat) (T' T : Nat → Value) : Prop := ∀ l, l ≤ n → T' l = T l
theorem cm_l1 {H G : GH} {q qm A : Option Addr} {m : ShM} {s : Shf} {M : Mt} {b5 bz k R C tp lf : Nat} {sg : Int} {F : Int → Int → Int} {T : Nat → Value} {Q : Cont} (hP : ShP H q m s) (hM : MtP H qm M A k) (hMo : MtOk M) (hp : 2 ≤ s.p ∧ s.p ≤ 251) (h5 : H b5 = some ⟨mat4 s.p R C (some ⟨bz, 0, none⟩) (R * C), true⟩) (hz : H bz = none) (hS : Sub H G) (hF : Fl G bz R C F)
    (hR : R ≤ 32) (hC : C ≤ 32) (hsg : 0 ≤ sg ∧ sg ≤ 250) (hta : tp + M.r.toNat ≤ R) (hlb : lf + M.c.toNat ≤ C)
    (t0 : T 0 = .pointer q) (t5 : T 5 = .pointer (some ⟨b5, 0, none⟩)) (t9 : T 9 = .int .i64 tp) (t11 : T 11 = .pointer qm) (t12 : T 12 = .int .i64 lf) (t13 : T 13 = .int .i64 sg) (t14 : T 14 = .int .i64 0)
    (hQ : ∀ T' G', Sub H G' → Fl G' bz R C (wA F (fun i j => fM M i j * sg % s.p) tp lf M.c.toNat M.r.toNat) → SameN 13 T' T → Q (.ex 4) T' G') : gLoop (gW Tryz.prog k179) Q T G := by
  have hqm := rd_some hM.f0
  obtain ⟨ml, mr, mc⟩ := mt_len hMo
  have hrz := hMo.r
  refine gLoop_intro (fun mm T' G' => ∃ a : Nat, SameN 13 T' T ∧ T' 14 = .int .i64 a ∧ mm + a = M.r.toNat ∧ a ≤ M.r.toNat ∧ Sub H G' ∧ Fl G' bz R C (wA F (fun i j => fM M i j * sg % s.p) tp lf M.c.toNat a)) M.r.toNat
    ⟨0, fun l _ => rfl, t14, by omega, by omega, hS, hF⟩ ?_
  clear hS hF
  rintro mm T1 G1 ⟨a, hT, e14, hm, hal, hS, hF⟩
  have e0 : T1 0 = .pointer q := (hT 0 (by omega)).trans t0
  have e5 : T1 5 = .pointer (some ⟨b5, 0, none⟩) := (hT 5 (by omega)).trans t5
  have e9 : T1 9 = .int .i64 tp := (hT 9 (by omega)).trans t9
  have e11 : T1 11 = .pointer qm := (hT 11 (by omega)).trans t11
  have e12 : T1 12 = .int .i64 lf := (hT 12 (by omega)).trans t12
  have e13 : T1 13 = .int .i64 sg := (hT 13 (by omega)).trans t13
  have f1 := (hM.sub hS).f1
  rw [← mr] at f1
  simp (maxSteps := 300000) (disch := omega) only [gws, ↓reduceIte, reduceEqDiff, reduceToNat, reduceMul, reduceAdd, Nat.reduceBEq, isLd, e11, e14, f1]
  by_cases ha : (a : Int) < (M.r.toNat : Nat)
  · simp (maxSteps := 300000) (disch := omega) only [gws, ↓reduceIte, reduceEqDiff, reduceToNat, reduceMul, reduceAdd, Nat.reduceBEq, isLd, e11, e14, f1, ha]
    refine cm_l0 (a := a) hP hM hMo hp h5 hz hS hF hR hC hsg (by omega) hta hlb (by simp (maxSteps := 300000) (disch := omega) only [gws, ↓reduceIte, reduceEqDiff, reduceToNat, reduceMul, reduceAdd, Nat.reduceBEq, isLd, e0]) (by simp (maxSteps := 300000) (disch := omega) only [gws, ↓reduceIte, reduceEqDiff, reduceToNat, reduceMul, reduceAdd, Nat.reduceBEq, isLd, e5]) (by simp (maxSteps := 300000) (disch := omega) only [gws, ↓reduceIte, reduceEqDiff, reduceToNat, reduceMul, reduceAdd, Nat.reduceBEq, isLd, e9]) (by simp (maxSteps := 300000) (disch := omega) only [gws, ↓reduceIte, reduceEqDiff, reduceToNat, reduceMul, reduceAdd, Nat.reduceBEq, isLd, e11]) (by simp (maxSteps := 300000) (disch := omega) only [gws, ↓reduceIte, reduceEqDiff, reduceToNat, reduceMul, reduceAdd, Nat.reduceBEq, isLd, e12]) (by simp (maxSteps := 300000) (disch := omega) only [gws, ↓reduceIte, reduceEqDiff, reduceToNat, reduceMul, reduceAdd, Nat.reduceBEq, isLd, e13]) (by simp (maxSteps := 300000) (disch := omega) only [gws, ↓reduceIte, reduceEqDiff, reduceToNat, reduceMul, reduceAdd, Nat.reduceBEq, isLd, e14]) (by simp (maxSteps := 300000) (disch := omega) only [gws, ↓reduceIte, reduceEqDiff, reduceToNat, reduceMul, reduceAdd, Nat.reduceBEq, isLd] <;> rfl) fun T' G' s' hF' hT' => ?_
    have u14 : T' 14 = .int .i64 a := by rw [hT' 14 (by omega)]; simp (maxSteps := 300000) (disch := omega) only [gws, ↓reduceIte, reduceEqDiff, reduceToNat, reduceMul, reduceAdd, Nat.reduceBEq, isLd, e14]
    have hT2 : SameN 13 T' T := fun l hl => by
      rw [hT' l (by omega)]
      repeat rw [upd_app, if_neg (by omega)]
      exact hT l hl
    simp (maxSteps := 300000) (disch := omega) only [gws, ↓reduceIte, reduceEqDiff, reduceToNat, reduceMul, reduceAdd, Nat.reduceBEq, isLd, u14]
    refine ⟨mm - 1, by omega, G', Sub.refl _, a + 1, fun l hl => ?_, rfl, by omega, by omega, s', hF'⟩
    repeat first | rw [upd_app, if_neg (by omega)] | rw [if_neg (by omega)]
    exact hT2 l hl
  · obtain rfl : a = M.r.toNat := by omega
    simp (maxSteps := 300000) (disch := omega) only [gws, ↓reduceIte, reduceEqDiff, reduceToNat, reduceMul, reduceAdd, Nat.reduceBEq, isLd, e11, e14, f1, ha]
    refine hQ _ _ hS hF fun l hl => ?_
    repeat rw [upd_app, if_neg (by omega)]
    exact hT l hl
theorem cm_l2 {H G : GH} {q Ye Yf : Option Addr} {m : ShM} {s : Shf} {b5 bz R C ye yf n e : Nat} {F : Int → Int → Int} {T : Nat → Value} {Q : Cont} (hP : ShP H q m s) (hs : ShOk s) (hms : s.ms.length ≤ 2 ^ 20) (h5 : H b5 = some ⟨mat4 s.p R C (some ⟨bz, 0, none⟩) (R * C), true⟩) (hz : H bz = none) (hS : Sub H G) (hF : Fl G bz R C F)
    (hE : IntS H Ye ye (ofd s.base 1)) (hn : n < (ofd s.base 1).length) (he : (ofd s.base 1).getD n 0 = (e : Nat)) (hel : e < s.base.length) (he2 : (s.base.getD e []).length = 2) (hf : IntS H Yf yf (fcs s.base e)) (hR : (R : Int) = ssum s.base s.st 1) (hC : (C : Int) = ssum s.base s.st 0)
    (t0 : T 0 = .pointer q) (t5 : T 5 = .pointer (some ⟨b5, 0, none⟩)) (t6 : T 6 = .slice Ye (ofd s.base 1).length ye) (t7 : T 7 = .int .i64 n) (t8 : T 8 = .slice Yf (fcs s.base e).length yf) (t9 : T 9 = .int .i64 (fcol s e)) (t10 : T 10 = .int .i64 0)
    (hQ : ∀ T' G', Sub H G' → Fl G' bz R C (wFa s F e (fcs s.base e).length) → SameN 9 T' T → Q (.ex 2) T' G') : gLoop (gW Tryz.prog k17b) Q T G := by
  have hR32 := hs.st.2.2 1 (by omega) (by omega)
  have hC32 := hs.st.2.2 0 (by omega) (by omega)
  have hq := rd_some hP.f0
  have hfl : (fcs s.base e).length = 2 := by rw [fcs_len, facs_two, if_pos (by omega), he2]
  have hst := hs.st
  have hesn := hE.sn (by omega)
  have hfsn := hf.sn (by omega)
  have hfe := fcol_nn hst e
  have hend := fcol_end hst hel (by omega)
  rw [show dimS s e = 1 by unfold dimS; omega] at hend
  obtain ⟨tp, htp⟩ : ∃ tp : Nat, fcol s e = tp := ⟨(fcol s e).toNat, by omega⟩
  refine gLoop_intro (fun mm T' G' => ∃ i : Nat, SameN 9 T' T ∧ T' 10 = .int .i64 i ∧ mm + i = 2 ∧ i ≤ 2 ∧ Sub H G' ∧ Fl G' bz R C (wFa s F e i)) 2
    ⟨0, fun l _ => rfl, t10, by omega, by omega, hS, hF⟩ ?_
  clear hS hF
  rintro mm T1 G1 ⟨i, hT, e10, hm, hil, hS, hF⟩
  have e0 : T1 0 = .pointer q := (hT 0 (by omega)).trans t0
  have e5 : T1 5 = .pointer (some ⟨b5, 0, none⟩) := (hT 5 (by omega)).trans t5
  have e6 : T1 6 = .slice Ye (ofd s.base 1).length ye := (hT 6 (by omega)).trans t6
  have e7 : T1 7 = .int .i64 n := (hT 7 (by omega)).trans t7
  have e8 : T1 8 = .slice Yf (fcs s.base e).length yf := (hT 8 (by omega)).trans t8
  have e9 : T1 9 = .int .i64 (fcol s e) := (hT 9 (by omega)).trans t9
  simp (maxSteps := 300000) (disch := omega) only [gws, ↓reduceIte, reduceEqDiff, reduceToNat, reduceMul, reduceAdd, Nat.reduceBEq, isLd, e8, e10]
  by_cases hi : (i : Int) < (fcs s.base e).length
  · have hi2 : i < (fcs s.base e).length := by omega
    have hP1 := hP.sub hS
    have re := (hE.sub hS).rd n hn
    rw [he] at re
    obtain ⟨f, hfe1, hfe2, hfe3, _⟩ := fcs_bd hs.b hel hi2
    have hfa : faN s e i = f := by unfold faN; rw [hfe2]; rfl
    have rf := (hf.sub hS).rd i hi2
    rw [hfe2] at rf
    have hmo := hs.m e i hel hi2
    have hki := fmap_lt hel hi2
    have hnn := hs.n
    have hff := fcol_nn hst f
    have hfend := fcol_end hst (k := f) (by omega) (by omega)
    rw [show dimS s f = 0 by unfold dimS; omega] at hfend
    obtain ⟨lf, hlf⟩ : ∃ lf : Nat, fcol s f = lf := ⟨(fcol s f).toNat, by omega⟩
    have hp1 := hs.p.1
    have hp2 := hs.p.2.1
    have hcc := hmo.2.2.2
    rw [hfe2, Int.toNat_natCast] at hcc
    have hrr := hmo.2.2.1
    have hstl := hst.1
    have hse := hst.2.1 e (by omega)
    have hsf := hst.2.1 f (by omega)
    simp (maxSteps := 300000) (disch := omega) only [gws, ↓reduceIte, reduceEqDiff, reduceToNat, reduceMul, reduceAdd, Nat.reduceBEq, isLd, e0, e5, e6, e7, e8, e9, e10, hi, re]
    refine spec_l09Get_ok (k := e) (i := i) hP1 hs.b (by omega) (by omega) hms (by omega) ?_
    simp (maxSteps := 300000) (disch := omega) only [gws, ↓reduceIte, reduceEqDiff, reduceToNat, reduceMul, reduceAdd, Nat.reduceBEq, isLd, e0, e5, e6, e7, e8, e9, e10, rf]
    refine spec_l11At_ok (k := f) hP1 hs.b hst (by omega) ?_
    simp (maxSteps := 300000) (disch := omega) only [gws, ↓reduceIte, reduceEqDiff, reduceToNat, reduceMul, reduceAdd, Nat.reduceBEq, isLd, e0, e5, e6, e7, e8, e9, e10, hP1.f1]
    refine spec_l07Sign_ok (i := i) ⟨hp1, hp2⟩ (by omega) ?_
    have hsg : 0 ≤ sgn s.p i ∧ sgn s.p i ≤ 250 := by unfold sgn; split <;> omega
    simp (maxSteps := 300000) (disch := omega) only [gws, ↓reduceIte, reduceEqDiff, reduceToNat, reduceMul, reduceAdd, Nat.reduceBEq, isLd, e0, e5, e6, e7, e8, e9, e10]
    refine cm_l1 (tp := tp) (lf := lf) (sg := sgn s.p i) hP (hP.g.ms.at' (show fmap s.base e + i < s.ms.length by omega)) hmo.1 ⟨hp1, hp2⟩ h5 hz hS hF (by omega) (by omega) hsg (by rw [hrr]; omega) (by rw [hcc]; omega) (by simp (maxSteps := 300000) (disch := omega) only [gws, ↓reduceIte, reduceEqDiff, reduceToNat, reduceMul, reduceAdd, Nat.reduceBEq, isLd, e0]) (by simp (maxSteps := 300000) (disch := omega) only [gws, ↓reduceIte, reduceEqDiff, reduceToNat, reduceMul, reduceAdd, Nat.reduceBEq, isLd, e5]) (by simp (maxSteps := 300000) (disch := omega) only [gws, ↓reduceIte, reduceEqDiff, reduceToNat, reduceMul, reduceAdd, Nat.reduceBEq, isLd, e9, htp]) (by simp (maxSteps := 300000) (disch := omega) only [gws, ↓reduceIte, reduceEqDiff, reduceToNat, reduceMul, reduceAdd, Nat.reduceBEq, isLd]) (by simp (maxSteps := 300000) (disch := omega) only [gws, ↓reduceIte, reduceEqDiff, reduceToNat, reduceMul, reduceAdd, Nat.reduceBEq, isLd, hlf]) (by simp (maxSteps := 300000) (disch := omega) only [gws, ↓reduceIte, reduceEqDiff, reduceToNat, reduceMul, reduceAdd, Nat.reduceBEq, isLd]) (by simp (maxSteps := 300000) (disch := omega) only [gws, ↓reduceIte, reduceEqDiff, reduceToNat, reduceMul, reduceAdd, Nat.reduceBEq, isLd] <;> rfl) fun T' G' s' hF' hT' => ?_
    have u10 : T' 10 = .int .i64 i := by rw [hT' 10 (by omega)]; simp (maxSteps := 300000) (disch := omega) only [gws, ↓reduceIte, reduceEqDiff, reduceToNat, reduceMul, reduceAdd, Nat.reduceBEq, isLd, e10]
    have hT2 : SameN 9 T' T := fun l hl => by
      rw [hT' l (by omega)]
      repeat rw [upd_app, if_neg (by omega)]
      exact hT l hl
    simp (maxSteps := 300000) (disch := omega) only [gws, ↓reduceIte, reduceEqDiff, reduceToNat, reduceMul, reduceAdd, Nat.reduceBEq, isLd, u10]
    refine ⟨mm - 1, by omega, G', Sub.refl _, i + 1, fun l hl => ?_, rfl, by omega, by omega, s', ?_⟩
    · repeat first | rw [upd_app, if_neg (by omega)] | rw [if_neg (by omega)]
      exact hT2 l hl
    · have : wFa s F e (i + 1) = wA (wFa s F e i) (gF s e i) (fcol s e) (fcol s (faN s e i)) (dirM s e i).c.toNat (dirM s e i).r.toNat := rfl
      rw [this, hfa, htp, hlf]
      exact hF'
  · obtain rfl : i = 2 := by omega
    simp (maxSteps := 300000) (disch := omega) only [gws, ↓reduceIte, reduceEqDiff, reduceToNat, reduceMul, reduceAdd, Nat.reduceBEq, isLd, e8, e10, hi]
    rw [hfl] at hQ
    refine hQ _ _ hS hF fun l hl => ?_
    repeat rw [upd_app, if_neg (by omega)]
    exact hT l hl
theorem cm_l3 {H G : GH} {q Ye : Option Addr} {m : ShM} {s : Shf} {b5 bz R C ye : Nat} {T : Nat → Value} {Q : Cont} (hP : ShP H q m s) (hs : ShOk s) (hms : s.ms.length ≤ 2 ^ 20) (h5 : H b5 = some ⟨mat4 s.p R C (some ⟨bz, 0, none⟩) (R * C), true⟩) (hz : H bz = none) (hS : Sub H G) (hF : Fl G bz R C (fun _ _ => 0))
    (hE : IntS H Ye ye (ofd s.base 1)) (hR : (R : Int) = ssum s.base s.st 1) (hC : (C : Int) = ssum s.base s.st 0)
    (t0 : T 0 = .pointer q) (t1 : T 1 = .int .i64 0) (t5 : T 5 = .pointer (some ⟨b5, 0, none⟩)) (t6 : T 6 = .slice Ye (ofd s.base 1).length ye) (t7 : T 7 = .int .i64 0)
    (hQ : ∀ T' G', Sub H G' → Fl G' bz R C (cobF s) → SameN 6 T' T → Q (.ex 0) T' G') : gLoop (gW Tryz.prog k17d) Q T G := by
  have hq := rd_some hP.f0
  have hst := hs.st
  have hbn := hs.b.n
  have hol := ofd_len hbn 1
  have hesn := hE.sn
  refine gLoop_intro (fun mm T' G' => ∃ n : Nat, SameN 6 T' T ∧ T' 7 = .int .i64 n ∧ mm + n = (ofd s.base 1).length ∧ n ≤ (ofd s.base 1).length ∧ Sub H G' ∧ Fl G' bz R C (wE s n)) (ofd s.base 1).length
    ⟨0, fun l _ => rfl, t7, by omega, by omega, hS, hF⟩ ?_
  clear hS hF
  rintro mm T1 G1 ⟨n, hT, e7, hm, hnl, hS, hF⟩
  have e0 : T1 0 = .pointer q := (hT 0 (by omega)).trans t0
  have e1 : T1 1 = .int .i64 0 := (hT 1 (by omega)).trans t1
  have e5 : T1 5 = .pointer (some ⟨b5, 0, none⟩) := (hT 5 (by omega)).trans t5
  have e6 : T1 6 = .slice Ye (ofd s.base 1).length ye := (hT 6 (by omega)).trans t6
  simp (maxSteps := 300000) (disch := omega) only [gws, ↓reduceIte, reduceEqDiff, reduceToNat, reduceMul, reduceAdd, Nat.reduceBEq, isLd, e1, e6, e7]
  by_cases hn : (n : Int) < (ofd s.base 1).length
  · obtain ⟨e, hel, hge, hd⟩ := ofd_get (show n < (ofd s.base 1).length by omega)
    have hP1 := hP.sub hS
    have re := (hE.sub hS).rd n (by omega)
    rw [hge] at re
    simp (maxSteps := 300000) (disch := omega) only [gws, ↓reduceIte, reduceEqDiff, reduceToNat, reduceMul, reduceAdd, Nat.reduceBEq, isLd, e0, e1, e5, e6, e7, hn, re, Int.le_refl]
    refine spec_l05Faces_ok (k := e) hP1.cx hs.b hel fun G2 Yf yf hN => ?_
    have hbz : G1 bz ≠ none := by obtain ⟨g, rs, h1, _⟩ := hF; rw [h1]; simp
    have hF2 : Fl G2 bz R C (wE s n) := by obtain ⟨g, rs, h1, h2⟩ := hF; exact ⟨g, rs, hN.sub _ _ h1, h2⟩
    have sH : Sub H (del G2 bz) := (hS.trans hN.sub).in_del hz
    have hIf : IntS (del G2 bz) Yf yf (fcs s.base e) := (hN.own.ints' rfl).sub fun x f hx => by
      obtain ⟨q1, q2⟩ := rest_some.1 hx
      rw [del_ne _ fun e' => hbz (by rw [← e']; exact q1)]; exact q2
    have re2 := (hE.sub (hS.trans hN.sub)).rd n (by omega)
    rw [hge] at re2
    have hP2 := hP.sub (hS.trans hN.sub)
    simp (maxSteps := 300000) (disch := omega) only [gws, ↓reduceIte, reduceEqDiff, reduceToNat, reduceMul, reduceAdd, Nat.reduceBEq, isLd, e0, e1, e5, e6, e7, re2]
    refine spec_l11At_ok (k := e) hP2 hs.b hst hel ?_
    simp (maxSteps := 300000) (disch := omega) only [gws, ↓reduceIte, reduceEqDiff, reduceToNat, reduceMul, reduceAdd, Nat.reduceBEq, isLd, e0, e1, e5, e6, e7]
    refine cm_l2 (H := del G2 bz) (n := n) (e := e) (hP.sub sH) hs hms (sH _ _ h5) (del_none _ _) (Sub.del _ _) hF2 (hE.sub sH) (by omega) hge hel (by omega) hIf hR hC (by simp (maxSteps := 300000) (disch := omega) only [gws, ↓reduceIte, reduceEqDiff, reduceToNat, reduceMul, reduceAdd, Nat.reduceBEq, isLd, e0]) (by simp (maxSteps := 300000) (disch := omega) only [gws, ↓reduceIte, reduceEqDiff, reduceToNat, reduceMul, reduceAdd, Nat.reduceBEq, isLd, e5]) (by simp (maxSteps := 300000) (disch := omega) only [gws, ↓reduceIte, reduceEqDiff, reduceToNat, reduceMul, reduceAdd, Nat.reduceBEq, isLd, e6]) (by simp (maxSteps := 300000) (disch := omega) only [gws, ↓reduceIte, reduceEqDiff, reduceToNat, reduceMul, reduceAdd, Nat.reduceBEq, isLd, e7]) (by simp (maxSteps := 300000) (disch := omega) only [gws, ↓reduceIte, reduceEqDiff, reduceToNat, reduceMul, reduceAdd, Nat.reduceBEq, isLd]) (by simp (maxSteps := 300000) (disch := omega) only [gws, ↓reduceIte, reduceEqDiff, reduceToNat, reduceMul, reduceAdd, Nat.reduceBEq, isLd]) (by simp (maxSteps := 300000) (disch := omega) only [gws, ↓reduceIte, reduceEqDiff, reduceToNat, reduceMul, reduceAdd, Nat.reduceBEq, isLd] <;> rfl) fun T' G' s' hF' hT' => ?_
    have u7 : T' 7 = .int .i64 n := by rw [hT' 7 (by omega)]; simp (maxSteps := 300000) (disch := omega) only [gws, ↓reduceIte, reduceEqDiff, reduceToNat, reduceMul, reduceAdd, Nat.reduceBEq, isLd, e7]
    have hT2 : SameN 6 T' T := fun l hl => by
      rw [hT' l (by omega)]
      repeat rw [upd_app, if_neg (by omega)]
      exact hT l hl
    simp (maxSteps := 300000) (disch := omega) only [gws, ↓reduceIte, reduceEqDiff, reduceToNat, reduceMul, reduceAdd, Nat.reduceBEq, isLd, u7]
    refine ⟨mm - 1, by omega, G', Sub.refl _, n + 1, fun l hl => ?_, rfl, by omega, by omega, sH.trans s', ?_⟩
    · repeat first | rw [upd_app, if_neg (by omega)] | rw [if_neg (by omega)]
      exact hT2 l hl
    · have : wE s (n + 1) = wFa s (wE s n) ((ofd s.base 1).getD n 0).toNat (fcs s.base ((ofd s.base 1).getD n 0).toNat).length := rfl
      rw [this, hge, Int.toNat_natCast]
      exact hF'
  · obtain rfl : n = (ofd s.base 1).length := by omega
    simp (maxSteps := 300000) (disch := omega) only [gws, ↓reduceIte, reduceEqDiff, reduceToNat, reduceMul, reduceAdd, Nat.reduceBEq, isLd, e1, e6, e7, hn, Int.le_refl]
    refine hQ _ _ hS hF fun l hl => ?_
    repeat rw [upd_app, if_neg (by omega)]
    exact hT l hl
theorem cm_tree {G : GH} {q : Option Addr} {m : ShM} {s : Shf} {R C : Nat} {T : Nat → Value} {K : (Nat → Value) → GH → Prop} (t0 : T 0 = .pointer q) (t1 : T 1 = .int .i64 0) (hP : ShP G q m s) (hs : ShOk s) (hR : ssum s.base s.st 1 = (R : Nat)) (hC : ssum s.base s.st 0 = (C : Nat))
    (hK : ∀ T' G' b5 bz, Sub G G' → G bz = none → b5 ≠ bz → (∀ l, l < 5 → T' l = T l) → T' 5 = .pointer (some ⟨b5, 0, none⟩) → G' b5 = some ⟨mat4 s.p R C (some ⟨bz, 0, none⟩) (R * C), true⟩ → G' bz = some ⟨zc [.int .i64 0] (R * C), true⟩ → K T' G') : gT Tryz.prog k16q [] K T G := by
  have hR32 := hs.st.2.2 1 (by omega) (by omega)
  have hC32 := hs.st.2.2 0 (by omega) (by omega)
  have hq := rd_some hP.f0
  have q1 := hP.f1
  have q2 := hP.f2
  have S1 : ∀ {G' : GH} (u : Sub G G') {Kx : Value → GH → Prop}, Kx (.int .i64 R) G' → GC Tryz.prog 84 [.pointer q, .slice m.S s.st.length m.e, .int .i64 1] G' Kx := by
    intro G' u Kx hx
    exact spec_l09Sum_ok (d := 1) (hP.sub u).cx (hP.sub u).g.st hs.b.cs hs.st.1 hs.st.2.1 (by omega) (by rw [hR]; exact hx)
  have S0 : ∀ {G' : GH} (u : Sub G G') {Kx : Value → GH → Prop}, Kx (.int .i64 C) G' → GC Tryz.prog 84 [.pointer q, .slice m.S s.st.length m.e, .int .i64 0] G' Kx := by
    intro G' u Kx hx
    exact spec_l09Sum_ok (d := 0) (hP.sub u).cx (hP.sub u).g.st hs.b.cs hs.st.1 hs.st.2.1 (by omega) (by rw [hC]; exact hx)
  simp (maxSteps := 300000) (disch := omega) only [gws, ↓reduceIte, reduceEqDiff, reduceToNat, reduceMul, reduceAdd, Nat.reduceBEq, isLd, t0, t1, q1, q2]
  refine ⟨S1 (Sub.refl _) ?_, fun b5 hb5 => ?_⟩
  · simp (maxSteps := 300000) (disch := omega) only [gws, ↓reduceIte, reduceEqDiff, reduceToNat, reduceMul, reduceAdd, Nat.reduceBEq, isLd, t0, t1, q1, q2]
    refine ⟨S0 (Sub.refl _) ?_, fun b5 hb5 => ?_⟩
    · simp (maxSteps := 300000) (disch := omega) only [gws, ↓reduceIte, reduceEqDiff, reduceToNat, reduceMul, reduceAdd, Nat.reduceBEq, isLd, t0, t1, q1, q2]
      refine ⟨spec_l03Zero_ok (by omega) (by omega) fun bz hbz => ?_, fun b5 hb5 => ?_⟩
      · skip
        have sz := Sub.put hbz ⟨zc [.int .i64 0] (R * C), true⟩
        unfold matV matC
        simp (maxSteps := 300000) (disch := omega) only [gws, ↓reduceIte, reduceEqDiff, reduceToNat, reduceMul, reduceAdd, Nat.reduceBEq, isLd, t0, t1, rd_sub sz q1, rd_sub sz q2]
        intro b5 hb5
        have nz : b5 ≠ bz := (put_none.1 hb5).1
        have s5 := Sub.put hb5 ⟨[.int .i64 s.p, .int .i64 R, .int .i64 C, .slice (some ⟨bz, 0, none⟩) (R * C) (R * C)], true⟩
        have s5z := Sub.put hb5 ⟨[.int .i64 0, .int .i64 0, .int .i64 0, .slice none 0 0], true⟩
        refine ⟨⟨rd_sub s5z (rd_sub sz q2), rd_sub s5z (rd_sub sz q2), rd_sub s5z (rd_sub sz q1), trivial⟩, ?_⟩
        simp (maxSteps := 300000) (disch := omega) only [gws, ↓reduceIte, reduceEqDiff, reduceToNat, reduceMul, reduceAdd, Nat.reduceBEq, isLd]
        refine st_fresh (vs := [.int .i64 s.p, .int .i64 R, .int .i64 C, .slice (some ⟨bz, 0, none⟩) (R * C) (R * C)]) rfl rfl rfl (by intro v hv; simp at hv; rcases hv with rfl | rfl | rfl | rfl <;> rfl) ?_
        simp (maxSteps := 300000) (disch := omega) only [gws, ↓reduceIte, reduceEqDiff, reduceToNat, reduceMul, reduceAdd, Nat.reduceBEq, isLd]
        exact hK _ _ b5 bz (sz.trans s5) hbz nz (fun l hl => by repeat rw [upd_app, if_neg (by omega)]) (by simp (maxSteps := 300000) (disch := omega) only [gws, ↓reduceIte, reduceEqDiff, reduceToNat, reduceMul, reduceAdd, Nat.reduceBEq, isLd]) (put_same _ _ _) (s5 _ _ (put_same _ _ _))
      · skip
        have s5 := Sub.put hb5 ⟨[.int .i64 0, .int .i64 0, .int .i64 0, .slice none 0 0], true⟩
        refine ⟨⟨rd_sub s5 q2, rd_sub s5 q2, rd_sub s5 q1, trivial⟩, ?_⟩
        simp (maxSteps := 300000) (disch := omega) only [gws, ↓reduceIte, reduceEqDiff, reduceToNat, reduceMul, reduceAdd, Nat.reduceBEq, isLd, t0, t1, rd_sub s5 q1, rd_sub s5 q2]
        refine spec_l03Zero_ok (by omega) (by omega) fun bz hbz => ?_
        have nz : bz ≠ b5 := (put_none.1 hbz).1
        have gz : G bz = none := (put_none.1 hbz).2
        have sz := Sub.put hbz ⟨zc [.int .i64 0] (R * C), true⟩
        unfold matV matC
        simp (maxSteps := 300000) (disch := omega) only [gws, ↓reduceIte, reduceEqDiff, reduceToNat, reduceMul, reduceAdd, Nat.reduceBEq, isLd, t0, t1, rd_sub sz (rd_sub s5 q1), rd_sub sz (rd_sub s5 q2)]
        refine st_many (vs := [.int .i64 s.p, .int .i64 R, .int .i64 C, .slice (some ⟨bz, 0, none⟩) (R * C) (R * C)]) rfl (sz _ _ (put_same _ _ _)) rfl (by simp) (by intro v hv; simp at hv; rcases hv with rfl | rfl | rfl | rfl <;> rfl) ?_
        simp (maxSteps := 300000) (disch := omega) only [gws, ↓reduceIte, reduceEqDiff, reduceToNat, reduceMul, reduceAdd, Nat.reduceBEq, isLd, over]
        exact hK _ _ b5 bz ((s5.trans sz).skip hb5) gz (Ne.symm nz) (fun l hl => by repeat rw [upd_app, if_neg (by omega)]) (by simp (maxSteps := 300000) (disch := omega) only [gws, ↓reduceIte, reduceEqDiff, reduceToNat, reduceMul, reduceAdd, Nat.reduceBEq, isLd]) (put_same _ _ _) (by rw [put_ne _ _ nz]; exact put_same _ _ _)
    · skip
      have s5 := Sub.put hb5 ⟨[.int .i64 0, .int .i64 0, .int .i64 0, .slice none 0 0], true⟩
      refine ⟨⟨rd_sub s5 q2, rd_sub s5 q2, rd_sub s5 q1, trivial⟩, ?_⟩
      simp (maxSteps := 300000) (disch := omega) only [gws, ↓reduceIte, reduceEqDiff, reduceToNat, reduceMul, reduceAdd, Nat.reduceBEq, isLd, t0, t1, rd_sub s5 q1, rd_sub s5 q2]
      refine S0 s5 ?_
      simp (maxSteps := 300000) (disch := omega) only [gws, ↓reduceIte, reduceEqDiff, reduceToNat, reduceMul, reduceAdd, Nat.reduceBEq, isLd, t0, t1, rd_sub s5 q1, rd_sub s5 q2]
      refine spec_l03Zero_ok (by omega) (by omega) fun bz hbz => ?_
      have nz : bz ≠ b5 := (put_none.1 hbz).1
      have gz : G bz = none := (put_none.1 hbz).2
      have sz := Sub.put hbz ⟨zc [.int .i64 0] (R * C), true⟩
      unfold matV matC
      simp (maxSteps := 300000) (disch := omega) only [gws, ↓reduceIte, reduceEqDiff, reduceToNat, reduceMul, reduceAdd, Nat.reduceBEq, isLd, t0, t1, rd_sub sz (rd_sub s5 q1), rd_sub sz (rd_sub s5 q2)]
      refine st_many (vs := [.int .i64 s.p, .int .i64 R, .int .i64 C, .slice (some ⟨bz, 0, none⟩) (R * C) (R * C)]) rfl (sz _ _ (put_same _ _ _)) rfl (by simp) (by intro v hv; simp at hv; rcases hv with rfl | rfl | rfl | rfl <;> rfl) ?_
      simp (maxSteps := 300000) (disch := omega) only [gws, ↓reduceIte, reduceEqDiff, reduceToNat, reduceMul, reduceAdd, Nat.reduceBEq, isLd, over]
      exact hK _ _ b5 bz ((s5.trans sz).skip hb5) gz (Ne.symm nz) (fun l hl => by repeat rw [upd_app, if_neg (by omega)]) (by simp (maxSteps := 300000) (disch := omega) only [gws, ↓reduceIte, reduceEqDiff, reduceToNat, reduceMul, reduceAdd, Nat.reduceBEq, isLd]) (put_same _ _ _) (by rw [put_ne _ _ nz]; exact put_same _ _ _)
  · skip
    have s5 := Sub.put hb5 ⟨[.int .i64 0, .int .i64 0, .int .i64 0, .slice none 0 0], true⟩
    refine ⟨⟨rd_sub s5 q2, rd_sub s5 q2, rd_sub s5 q1, trivial⟩, ?_⟩
    simp (maxSteps := 300000) (disch := omega) only [gws, ↓reduceIte, reduceEqDiff, reduceToNat, reduceMul, reduceAdd, Nat.reduceBEq, isLd, t0, t1, rd_sub s5 q1, rd_sub s5 q2]
    refine S1 s5 ?_
    simp (maxSteps := 300000) (disch := omega) only [gws, ↓reduceIte, reduceEqDiff, reduceToNat, reduceMul, reduceAdd, Nat.reduceBEq, isLd, t0, t1, rd_sub s5 q1, rd_sub s5 q2]
    refine S0 s5 ?_
    simp (maxSteps := 300000) (disch := omega) only [gws, ↓reduceIte, reduceEqDiff, reduceToNat, reduceMul, reduceAdd, Nat.reduceBEq, isLd, t0, t1, rd_sub s5 q1, rd_sub s5 q2]
    refine spec_l03Zero_ok (by omega) (by omega) fun bz hbz => ?_
    have nz : bz ≠ b5 := (put_none.1 hbz).1
    have gz : G bz = none := (put_none.1 hbz).2
    have sz := Sub.put hbz ⟨zc [.int .i64 0] (R * C), true⟩
    unfold matV matC
    simp (maxSteps := 300000) (disch := omega) only [gws, ↓reduceIte, reduceEqDiff, reduceToNat, reduceMul, reduceAdd, Nat.reduceBEq, isLd, t0, t1, rd_sub sz (rd_sub s5 q1), rd_sub sz (rd_sub s5 q2)]
    refine st_many (vs := [.int .i64 s.p, .int .i64 R, .int .i64 C, .slice (some ⟨bz, 0, none⟩) (R * C) (R * C)]) rfl (sz _ _ (put_same _ _ _)) rfl (by simp) (by intro v hv; simp at hv; rcases hv with rfl | rfl | rfl | rfl <;> rfl) ?_
    simp (maxSteps := 300000) (disch := omega) only [gws, ↓reduceIte, reduceEqDiff, reduceToNat, reduceMul, reduceAdd, Nat.reduceBEq, isLd, over]
    exact hK _ _ b5 bz ((s5.trans sz).skip hb5) gz (Ne.symm nz) (fun l hl => by repeat rw [upd_app, if_neg (by omega)]) (by simp (maxSteps := 300000) (disch := omega) only [gws, ↓reduceIte, reduceEqDiff, reduceToNat, reduceMul, reduceAdd, Nat.reduceBEq, isLd]) (put_same _ _ _) (by rw [put_ne _ _ nz]; exact put_same _ _ _)
theorem spec_l11Matrix_ok {G : GH} {q : Option Addr} {m : ShM} {s : Shf} {R C : Nat} (hP : ShP G q m s) (hs : ShOk s) (hms : s.ms.length ≤ 2 ^ 20) (hR : ssum s.base s.st 1 = (R : Nat)) (hC : ssum s.base s.st 0 = (C : Nat)) {K : Value → GH → Prop}
    (hk : ∀ G' D e, Sub G G' → Off G D → IntS G' D e (flatL R C (cobF s)) → K (matV s.p R C D (R * C) e) G') : GC Tryz.prog 93 [.pointer q, .int .i64 0] G K := by
  refine k17h (by simp) ?_
  have hw := @cm_tree
  unfold k17f
  generalize k16q = D1 at hw ⊢
  simp (maxSteps := 300000) (disch := omega) only [gws, ↓reduceIte, reduceEqDiff, reduceToNat, reduceMul, reduceAdd, Nat.reduceBEq, isLd]
  intro b4 hb4
  have s4 := Sub.put hb4 ⟨[.int .i64 0, .int .i64 0, .int .i64 0, .slice none 0 0], true⟩
  have g4 := put_same G b4 ⟨[.int .i64 0, .int .i64 0, .int .i64 0, .slice none 0 0], true⟩
  revert s4 g4
  generalize put G b4 ⟨[.int .i64 0, .int .i64 0, .int .i64 0, .slice none 0 0], true⟩ = G4
  intro s4 g4
  simp (maxSteps := 300000) (disch := omega) only [gws, ↓reduceIte, reduceEqDiff, reduceToNat, reduceMul, reduceAdd, Nat.reduceBEq, isLd]
  refine hw (q := q) (m := m) (s := s) (R := R) (C := C) (by simp (maxSteps := 300000) (disch := omega) only [gws, ↓reduceIte, reduceEqDiff, reduceToNat, reduceMul, reduceAdd, Nat.reduceBEq, isLd]) (by simp (maxSteps := 300000) (disch := omega) only [gws, ↓reduceIte, reduceEqDiff, reduceToNat, reduceMul, reduceAdd, Nat.reduceBEq, isLd]) (hP.sub s4) hs hR hC fun T1 G1 b5 bz s1 gz n5 hT t5 g5 gzz => ?_
  have t0 : T1 0 = .pointer q := by rw [hT 0 (by omega)]; simp (maxSteps := 300000) (disch := omega) only [gws, ↓reduceIte, reduceEqDiff, reduceToNat, reduceMul, reduceAdd, Nat.reduceBEq, isLd]
  have t1 : T1 1 = .int .i64 0 := by rw [hT 1 (by omega)]; simp (maxSteps := 300000) (disch := omega) only [gws, ↓reduceIte, reduceEqDiff, reduceToNat, reduceMul, reduceAdd, Nat.reduceBEq, isLd]
  have t4 : T1 4 = .pointer (some ⟨b4, 0, none⟩) := by rw [hT 4 (by omega)]; simp (maxSteps := 300000) (disch := omega) only [gws, ↓reduceIte, reduceEqDiff, reduceToNat, reduceMul, reduceAdd, Nat.reduceBEq, isLd]
  clear hT
  have n4 : b4 ≠ bz := fun e => by rw [← e, g4] at gz; cases gz
  have gz0 : G bz = none := s4.none gz
  have hbn := hs.b.n
  have hP1 := (hP.sub s4).sub s1
  have hq := rd_some hP1.f0
  simp (maxSteps := 300000) (disch := omega) only [gws, ↓reduceIte, reduceEqDiff, reduceToNat, reduceMul, reduceAdd, Nat.reduceBEq, isLd, t0, t1, t4, t5]
  refine spec_l05Of_ok (d := 1) hP1.cx hbn hs.b.cs.l (by omega) fun G2 Ye ye hN => ?_
  have hbz : G1 bz ≠ none := by rw [gzz]; simp
  have sH : Sub G4 (del G2 bz) := (s1.trans hN.sub).in_del gz
  have hE : IntS (del G2 bz) Ye ye (ofd s.base 1) := (hN.own.ints' rfl).sub fun x f hx => by
    obtain ⟨q1, q2⟩ := rest_some.1 hx
    rw [del_ne _ fun e' => hbz (by rw [← e']; exact q1)]; exact q2
  have h5 : del G2 bz b5 = some ⟨mat4 s.p R C (some ⟨bz, 0, none⟩) (R * C), true⟩ := by rw [del_ne _ n5]; exact hN.sub _ _ g5
  have hF0 := Fl.zero (hN.sub _ _ gzz)
  have h4 := sH _ _ g4
  simp (maxSteps := 300000) (disch := omega) only [gws, ↓reduceIte, reduceEqDiff, reduceToNat, reduceMul, reduceAdd, Nat.reduceBEq, isLd, t0, t1, t4, t5]
  refine cm_l3 (H := del G2 bz) (R := R) (C := C) (b5 := b5) ((hP.sub s4).sub sH) hs hms h5 (del_none _ _) (Sub.del _ _) hF0 hE hR.symm hC.symm (by simp (maxSteps := 300000) (disch := omega) only [gws, ↓reduceIte, reduceEqDiff, reduceToNat, reduceMul, reduceAdd, Nat.reduceBEq, isLd, t0]) (by simp (maxSteps := 300000) (disch := omega) only [gws, ↓reduceIte, reduceEqDiff, reduceToNat, reduceMul, reduceAdd, Nat.reduceBEq, isLd, t1]) (by simp (maxSteps := 300000) (disch := omega) only [gws, ↓reduceIte, reduceEqDiff, reduceToNat, reduceMul, reduceAdd, Nat.reduceBEq, isLd, t5]) (by simp (maxSteps := 300000) (disch := omega) only [gws, ↓reduceIte, reduceEqDiff, reduceToNat, reduceMul, reduceAdd, Nat.reduceBEq, isLd]) (by simp (maxSteps := 300000) (disch := omega) only [gws, ↓reduceIte, reduceEqDiff, reduceToNat, reduceMul, reduceAdd, Nat.reduceBEq, isLd] <;> rfl) fun T' G' s' hF hT' => ?_
  have u4 : T' 4 = .pointer (some ⟨b4, 0, none⟩) := by rw [hT' 4 (by omega)]; simp (maxSteps := 300000) (disch := omega) only [gws, ↓reduceIte, reduceEqDiff, reduceToNat, reduceMul, reduceAdd, Nat.reduceBEq, isLd, t4]
  have u5 : T' 5 = .pointer (some ⟨b5, 0, none⟩) := by rw [hT' 5 (by omega)]; simp (maxSteps := 300000) (disch := omega) only [gws, ↓reduceIte, reduceEqDiff, reduceToNat, reduceMul, reduceAdd, Nat.reduceBEq, isLd, t5]
  have g5' := s' _ _ h5
  have x0 : rd G' (some ⟨b5, 0, none⟩) = some (.int .i64 s.p) := by simp only [rd, g5']; rfl
  have x1 : rd G' (some ⟨b5, 1, none⟩) = some (.int .i64 R) := by simp only [rd, g5']; rfl
  have x2 : rd G' (some ⟨b5, 2, none⟩) = some (.int .i64 C) := by simp only [rd, g5']; rfl
  have x3 : rd G' (some ⟨b5, 3, none⟩) = some (.slice (some ⟨bz, 0, none⟩) (R * C) (R * C)) := by simp only [rd, g5']; rfl
  simp (maxSteps := 300000) (disch := omega) only [gws, ↓reduceIte, reduceEqDiff, reduceToNat, reduceMul, reduceAdd, Nat.reduceBEq, isLd, u4, u5, x0, x1, x2, x3]
  refine st_many (vs := [.int .i64 s.p, .int .i64 R, .int .i64 C, .slice (some ⟨bz, 0, none⟩) (R * C) (R * C)]) rfl (s' _ _ h4) rfl (by simp) (by intro v hv; simp at hv; rcases hv with rfl | rfl | rfl | rfl <;> rfl) ?_
  simp (maxSteps := 300000) (disch := omega) only [gws, ↓reduceIte, reduceEqDiff, reduceToNat, reduceMul, reduceAdd, Nat.reduceBEq, isLd, over, u4]
  have hI := hF.ints
  exact hk _ (some ⟨bz, 0, none⟩) (R * C) (((s4.trans sH).trans s').skip hb4) (fun a ha => by cases ha; exact gz0) (ints_put hI fun a ha => by cases ha; exact Ne.symm n4)
theorem flat_set {R C i j : Nat} {F : Int → Int → Int} {x : Int} (hi : i < R) (hj : j < C) : ((flatL R C F).map I64).set (i * C + j) (I64 x) = (flatL R C (upd2 F i j x)).map I64 := by
  rw [← List.map_set]
  congr 1
  refine List.ext_getElem (by simp [flatL_len]) fun v h1 h2 => ?_
  have hv : v < R * C := by simpa [flatL_len] using h2
  simp only [List.getElem_set, flatL, List.getElem_map, List.getElem_range]
  unfold upd2
  have hC : 0 < C := by omega
  by_cases e : i * C + j = v
  · subst e
    have e1 : (i * C + j) / C = i := by rw [Nat.add_comm, Nat.add_mul_div_right _ _ hC, Nat.div_eq_of_lt hj]; omega
    have e2 : (i * C + j) % C = j := by rw [Nat.add_comm, Nat.add_mul_mod_self_right, Nat.mod_eq_of_lt hj]
    rw [if_pos rfl, e1, e2, if_pos ⟨rfl, rfl⟩]
  · rw [if_neg e, if_neg]
    rintro ⟨h1, h2⟩
    apply e
    have h3 : v / C = i := by omega
    have h4 : v % C = j := by omega
    rw [← h3, ← h4, Nat.mul_comm]
    exact Nat.div_add_mod v C
/-- a matrix's cells are a list of one's own, besides what stays known. -/
structure WF (H G : GH) (A : Option Addr) (c R C : Nat) (F : Int → Int → Int) : Prop where
  o : Own G A c ((flatL R C F).map I64) 1 (R * C)
  s : Sub H G
  f : Off H A
theorem WF.st {H G : GH} {A : Option Addr} {c R C : Nat} {F : Int → Int → Int} (h : WF H G A c R C F) {i j : Nat} (hi : i < R) (hj : j < C) {x : Int} {K : Value → GH → Prop} (hk : ∀ G', WF H G' A c R C (upd2 F i j x) → K undef G') : gSt 1 (.pointer (pa A (i * C + j))) (.int .i64 x) G K := by
  refine h.o.store (flat_nat hi hj) rfl fun G' ho hs => hk G' ⟨?_, hs H h.s h.f, h.f⟩
  have := flat_set (F := F) (x := x) hi hj
  unfold I64 at this ho ⊢
  rwa [this] at ho
theorem WF.ints {H G : GH} {A : Option Addr} {c R C : Nat} {F : Int → Int → Int} (h : WF H G A c R C F) : IntS G A c (flatL R C F) := h.o.ints' (by rw [flatL_len])
theorem WF.sn {H G : GH} {A : Option Addr} {c R C : Nat} {F : Int → Int → Int} (h : WF H G A c R C F) (h0 : 0 < R * C) : 0 < Gh.sn A := h.ints.sn (by rw [flatL_len]; exact h0)
theorem WF.up {H G G2 : GH} {A : Option Addr} {c R C : Nat} {F : Int → Int → Int} (h : WF H G A c R C F) (s : Sub G G2) : WF (wz G2 A) G2 A c R C F := ⟨h.o.sub s, Sub.wz _ _, Off.wz _ _⟩
theorem WF.to {H G G2 : GH} {A : Option Addr} {c R C : Nat} {F : Int → Int → Int} (h : WF H G A c R C F) (s : Sub G G2) : Sub H (wz G2 A) := fun x e hx => by
  rw [wz_ne fun a ha e' => by have := h.f a ha; rw [e', hx] at this; cases this]
  exact s _ _ (h.s _ _ hx)
theorem WF.nw {H G G2 : GH} {A : Option Addr} {c R C x : Nat} {F : Int → Int → Int} (h : WF H G A c R C F) (hx : G x = none) : wz G2 A x = G2 x := wz_ne fun a ha e => by
  have := own_ne h.o a ha
  rw [e] at this; exact this hx
theorem WF.rest {H G G2 : GH} {A : Option Addr} {c R C : Nat} {F : Int → Int → Int} (h : WF H G A c R C F) : Sub (Gh.rest G G2) (wz G2 A) := fun x e hx => by
  obtain ⟨q1, q2⟩ := rest_some.1 hx
  rw [h.nw q1]; exact q2
/-- the temporaries outside an inner loop stay. -/
def SameO (T' T : Nat → Value) : Prop := ∀ l, l ≤ 13 ∨ (15 ≤ l ∧ l ≤ 62) → T' l = T l
theorem ci_l0 {H G : GH} {b2 b5 b10 ax k R C tp lf a i e : Nat} {A Ax : Option Addr} {m : ShM} {s : Shf} {M : Mt} {F : Int → Int → Int} {T : Nat → Value} {Q : Cont} (hP : ShP H (some ⟨b2, 0, none⟩) m s) (h10 : MB H b10 M.p M.r.toNat M.c.toNat A k (fM M)) (hMo : MtOk M) (hp : 2 ≤ s.p ∧ s.p ≤ 251) (h5 : H b5 = some ⟨mat4 s.p R C Ax ax, true⟩) (hF : WF H G Ax ax R C F)
    (hR : R ≤ 32) (hC : C ≤ 32) (hi : i ≤ 10) (ha : a < M.r.toNat) (hta : tp + M.r.toNat ≤ R) (hlb : lf + M.c.toNat ≤ C)
    (t2 : T 2 = .pointer (some ⟨b2, 0, none⟩)) (t5 : T 5 = .pointer (some ⟨b5, 0, none⟩)) (t8 : T 8 = .int .i64 i) (t10 : T 10 = .pointer (some ⟨b10, 0, none⟩)) (t11 : T 11 = .int .i64 tp) (t12 : T 12 = .int .i64 lf) (t13 : T 13 = .int .i64 a) (t63 : T 63 = .int .i64 (M.c.toNat : Nat)) (t64 : T 64 = .int .i64 0)
    (hQ : ∀ T' G', WF H G' Ax ax R C (wB F (fun i' j => fM M i' j * sgn s.p i % s.p) tp lf a M.c.toNat) → SameO T' T → Q (.ex 6) T' G') : gLoop (gW Tryz.prog k6x) Q T G := by
  obtain ⟨f0, f1, f2, f3⟩ := hP.b
  have hsz := hMo.c
  have hrz := hMo.r
  have m5 : ∀ {G' : GH}, Sub H G' → rd G' (some ⟨b5, 2, none⟩) = some (.int .i64 C) ∧ rd G' (some ⟨b5, 3, none⟩) = some (.slice Ax (R * C) ax) := fun u => by
    simp only [rd, u _ _ h5]; exact ⟨rfl, rfl⟩
  refine gLoop_intro (fun mm T' G' => ∃ b : Nat, SameO T' T ∧ T' 63 = .int .i64 (M.c.toNat : Nat) ∧ T' 64 = .int .i64 b ∧ mm + b = M.c.toNat ∧ b ≤ M.c.toNat ∧ WF H G' Ax ax R C (wB F (fun i' j => fM M i' j * sgn s.p i % s.p) tp lf a b)) M.c.toNat
    ⟨0, fun l _ => rfl, t63, t64, by omega, by omega, hF⟩ ?_
  clear hF
  rintro mm T1 G1 ⟨b, hT, e63, e64, hm, hbl, hF⟩
  have hS := hF.s
  have e2 : T1 2 = .pointer (some ⟨b2, 0, none⟩) := (hT 2 (by omega)).trans t2
  have e5 : T1 5 = .pointer (some ⟨b5, 0, none⟩) := (hT 5 (by omega)).trans t5
  have e8 : T1 8 = .int .i64 i := (hT 8 (by omega)).trans t8
  have e10 : T1 10 = .pointer (some ⟨b10, 0, none⟩) := (hT 10 (by omega)).trans t10
  have e11 : T1 11 = .int .i64 tp := (hT 11 (by omega)).trans t11
  have e12 : T1 12 = .int .i64 lf := (hT 12 (by omega)).trans t12
  have e13 : T1 13 = .int .i64 a := (hT 13 (by omega)).trans t13
  simp (maxSteps := 300000) (disch := omega) only [gws, ↓reduceIte, reduceEqDiff, reduceToNat, reduceMul, reduceAdd, Nat.reduceBEq, isLd, e63, e64]
  by_cases hb : (b : Int) < (M.c.toNat : Nat)
  · have hb' : b < M.c.toNat := by omega
    have hM1 := h10.sub hS
    obtain ⟨q2, q3⟩ := m5 hS
    have p1 := rd_sub hS f1
    have hfb := fM_bd hMo a b
    have hsg : 0 ≤ sgn s.p i ∧ sgn s.p i ≤ 250 := by unfold sgn; split <;> omega
    have huv := uv_bd hfb hsg
    have w1 := w64 (fM M a b * sgn s.p i) (by omega) (by omega)
    have hrem := bin_rem .i64 (fM M a b * sgn s.p i) s.p (by omega)
    rw [Int.tmod_eq_emod_of_nonneg huv.1] at hrem
    have m1 := mulB (a := (tp : Int) + a) (b := (C : Int)) (A := 2 ^ 10) (B := 2 ^ 10) (by omega) (by omega)
    have w2 := w64 (((tp : Int) + a) * C) (by omega) (by omega)
    have w3 := w64 (((tp : Int) + a) * C + lf) (by omega) (by omega)
    have w4 := w64 (((tp : Int) + a) * C + lf + b) (by omega) (by omega)
    have e1 : ((tp : Int) + a) * C + lf + b = (((tp + a) * C + (lf + b) : Nat) : Int) := by push_cast; omega
    have l1 := flat_nat (show tp + a < R by omega) (show lf + b < C by omega)
    have hxs := hF.sn (by omega)
    simp (maxSteps := 300000) (disch := omega) only [gws, ↓reduceIte, reduceEqDiff, reduceToNat, reduceMul, reduceAdd, Nat.reduceBEq, isLd, e2, e5, e8, e10, e11, e12, e13, e63, e64, hb, q2, q3, p1, hM1.f0, hM1.f1, hM1.f2, hM1.f3, w2, w3, w4, e1]
    refine impl_at_ok (p := M.p) (R := M.r.toNat) (C := M.c.toNat) (A := A) (c := k) (f := fM M) hM1.m ha hb' (by omega) (by omega) ?_
    simp (maxSteps := 300000) (disch := omega) only [gws, ↓reduceIte, reduceEqDiff, reduceToNat, reduceMul, reduceAdd, Nat.reduceBEq, isLd, q2, q3, p1, hM1.f0, hM1.f1, hM1.f2, hM1.f3]
    refine impl_alternating_ok (i := i) hp (by omega) ?_
    simp (maxSteps := 300000) (disch := omega) only [gws, ↓reduceIte, reduceEqDiff, reduceToNat, reduceMul, reduceAdd, Nat.reduceBEq, isLd, q2, q3, p1, hM1.f0, hM1.f1, hM1.f2, hM1.f3, w1, hrem, e1]
    refine hF.st (show tp + a < R by omega) (show lf + b < C by omega) fun G4 hF4 => ?_
    simp (maxSteps := 300000) (disch := omega) only [gws, ↓reduceIte, reduceEqDiff, reduceToNat, reduceMul, reduceAdd, Nat.reduceBEq, isLd, e63, e64]
    refine ⟨mm - 1, by omega, G4, Sub.refl _, b + 1, fun l hl => ?_, rfl, by omega, by omega, ?_⟩
    · repeat first | rw [upd_app, if_neg (by omega)] | rw [if_neg (by omega)]
      exact hT l hl
    · have e3 : ((tp + a : Nat) : Int) = (tp : Int) + a := by push_cast; rfl
      have e4 : ((lf + b : Nat) : Int) = (lf : Int) + b := by push_cast; rfl
      rw [e3, e4] at hF4
      exact hF4
  · obtain rfl : b = M.c.toNat := by omega
    simp (maxSteps := 300000) (disch := omega) only [gws, ↓reduceIte, reduceEqDiff, reduceToNat, reduceMul, reduceAdd, Nat.reduceBEq, isLd, e63, e64, hb]
    refine hQ _ _ hF fun l hl => ?_
    repeat rw [upd_app, if_neg (by omega)]
    exact hT l hl
/-- the temporaries outside the rows' loop stay. -/
def SameP (T' T : Nat → Value) : Prop := ∀ l, l ≤ 12 ∨ (15 ≤ l ∧ l ≤ 57) → T' l = T l
theorem ci_l1 {H G : GH} {b2 b5 b10 ax k R C tp lf i : Nat} {A Ax : Option Addr} {m : ShM} {s : Shf} {M : Mt} {F : Int → Int → Int} {T : Nat → Value} {Q : Cont} (hP : ShP H (some ⟨b2, 0, none⟩) m s) (h10 : MB H b10 M.p M.r.toNat M.c.toNat A k (fM M)) (hMo : MtOk M) (hp : 2 ≤ s.p ∧ s.p ≤ 251) (h5 : H b5 = some ⟨mat4 s.p R C Ax ax, true⟩) (hF : WF H G Ax ax R C F)
    (hR : R ≤ 32) (hC : C ≤ 32) (hi : i ≤ 10) (hta : tp + M.r.toNat ≤ R) (hlb : lf + M.c.toNat ≤ C)
    (t2 : T 2 = .pointer (some ⟨b2, 0, none⟩)) (t5 : T 5 = .pointer (some ⟨b5, 0, none⟩)) (t8 : T 8 = .int .i64 i) (t10 : T 10 = .pointer (some ⟨b10, 0, none⟩)) (t11 : T 11 = .int .i64 tp) (t12 : T 12 = .int .i64 lf) (t58 : T 58 = .int .i64 (M.r.toNat : Nat)) (t59 : T 59 = .int .i64 0)
    (hQ : ∀ T' G', WF H G' Ax ax R C (wA F (fun i' j => fM M i' j * sgn s.p i % s.p) tp lf M.c.toNat M.r.toNat) → SameP T' T → Q (.ex 4) T' G') : gLoop (gW Tryz.prog k6z) Q T G := by
  have hrz := hMo.r
  refine gLoop_intro (fun mm T' G' => ∃ a : Nat, SameP T' T ∧ T' 58 = .int .i64 (M.r.toNat : Nat) ∧ T' 59 = .int .i64 a ∧ mm + a = M.r.toNat ∧ a ≤ M.r.toNat ∧ WF H G' Ax ax R C (wA F (fun i' j => fM M i' j * sgn s.p i % s.p) tp lf M.c.toNat a)) M.r.toNat
    ⟨0, fun l _ => rfl, t58, t59, by omega, by omega, hF⟩ ?_
  clear hF
  rintro mm T1 G1 ⟨a, hT, e58, e59, hm, hal, hF⟩
  have hS := hF.s
  have e2 : T1 2 = .pointer (some ⟨b2, 0, none⟩) := (hT 2 (by omega)).trans t2
  have e5 : T1 5 = .pointer (some ⟨b5, 0, none⟩) := (hT 5 (by omega)).trans t5
  have e8 : T1 8 = .int .i64 i := (hT 8 (by omega)).trans t8
  have e10 : T1 10 = .pointer (some ⟨b10, 0, none⟩) := (hT 10 (by omega)).trans t10
  have e11 : T1 11 = .int .i64 tp := (hT 11 (by omega)).trans t11
  have e12 : T1 12 = .int .i64 lf := (hT 12 (by omega)).trans t12
  have hM1 := h10.sub hS
  simp (maxSteps := 300000) (disch := omega) only [gws, ↓reduceIte, reduceEqDiff, reduceToNat, reduceMul, reduceAdd, Nat.reduceBEq, isLd, e58, e59]
  by_cases ha : (a : Int) < (M.r.toNat : Nat)
  · simp (maxSteps := 300000) (disch := omega) only [gws, ↓reduceIte, reduceEqDiff, reduceToNat, reduceMul, reduceAdd, Nat.reduceBEq, isLd, e58, e59, ha, e10, hM1.f2]
    refine ci_l0 (a := a) (i := i) (e := 0) hP h10 hMo hp h5 hF hR hC hi (by omega) hta hlb (by simp (maxSteps := 300000) (disch := omega) only [gws, ↓reduceIte, reduceEqDiff, reduceToNat, reduceMul, reduceAdd, Nat.reduceBEq, isLd, e2]) (by simp (maxSteps := 300000) (disch := omega) only [gws, ↓reduceIte, reduceEqDiff, reduceToNat, reduceMul, reduceAdd, Nat.reduceBEq, isLd, e5]) (by simp (maxSteps := 300000) (disch := omega) only [gws, ↓reduceIte, reduceEqDiff, reduceToNat, reduceMul, reduceAdd, Nat.reduceBEq, isLd, e8]) (by simp (maxSteps := 300000) (disch := omega) only [gws, ↓reduceIte, reduceEqDiff, reduceToNat, reduceMul, reduceAdd, Nat.reduceBEq, isLd, e10]) (by simp (maxSteps := 300000) (disch := omega) only [gws, ↓reduceIte, reduceEqDiff, reduceToNat, reduceMul, reduceAdd, Nat.reduceBEq, isLd, e11]) (by simp (maxSteps := 300000) (disch := omega) only [gws, ↓reduceIte, reduceEqDiff, reduceToNat, reduceMul, reduceAdd, Nat.reduceBEq, isLd, e12]) (by simp (maxSteps := 300000) (disch := omega) only [gws, ↓reduceIte, reduceEqDiff, reduceToNat, reduceMul, reduceAdd, Nat.reduceBEq, isLd]) (by simp (maxSteps := 300000) (disch := omega) only [gws, ↓reduceIte, reduceEqDiff, reduceToNat, reduceMul, reduceAdd, Nat.reduceBEq, isLd]) (by simp (maxSteps := 300000) (disch := omega) only [gws, ↓reduceIte, reduceEqDiff, reduceToNat, reduceMul, reduceAdd, Nat.reduceBEq, isLd] <;> rfl) fun T' G' hF' hT' => ?_
    have u58 : T' 58 = .int .i64 (M.r.toNat : Nat) := by rw [hT' 58 (by omega)]; simp (maxSteps := 300000) (disch := omega) only [gws, ↓reduceIte, reduceEqDiff, reduceToNat, reduceMul, reduceAdd, Nat.reduceBEq, isLd, e58]
    have u59 : T' 59 = .int .i64 a := by rw [hT' 59 (by omega)]; simp (maxSteps := 300000) (disch := omega) only [gws, ↓reduceIte, reduceEqDiff, reduceToNat, reduceMul, reduceAdd, Nat.reduceBEq, isLd, e59]
    have hT2 : SameP T' T := fun l hl => by
      rw [hT' l (by omega)]
      repeat rw [upd_app, if_neg (by omega)]
      exact hT l hl
    simp (maxSteps := 300000) (disch := omega) only [gws, ↓reduceIte, reduceEqDiff, reduceToNat, reduceMul, reduceAdd, Nat.reduceBEq, isLd, u58, u59]
    refine ⟨mm - 1, by omega, G', Sub.refl _, a + 1, fun l hl => ?_, rfl, by omega, by omega, hF'⟩
    repeat first | rw [upd_app, if_neg (by omega)] | rw [if_neg (by omega)]
    exact hT2 l hl
  · obtain rfl : a = M.r.toNat := by omega
    simp (maxSteps := 300000) (disch := omega) only [gws, ↓reduceIte, reduceEqDiff, reduceToNat, reduceMul, reduceAdd, Nat.reduceBEq, isLd, e58, e59, ha]
    refine hQ _ _ hF fun l hl => ?_
    repeat rw [upd_app, if_neg (by omega)]
    exact hT l hl
/-- the temporaries outside the faces' loop stay. -/
def SameQ (T' T : Nat → Value) : Prop := ∀ l, l ≤ 7 ∨ (15 ≤ l ∧ l ≤ 41) → T' l = T l
theorem ci_l2 {H G : GH} {b2 b5 ax R C e yf : Nat} {Yf Ax : Option Addr} {m : ShM} {s : Shf} {F : Int → Int → Int} {T : Nat → Value} {Q : Cont} (hP : ShP H (some ⟨b2, 0, none⟩) m s) (hs : ShOk s) (hms : s.ms.length ≤ 2 ^ 20) (h5 : H b5 = some ⟨mat4 s.p R C Ax ax, true⟩) (hF : WF H G Ax ax R C F)
    (hel : e < s.base.length) (he2 : (s.base.getD e []).length = 2) (hf : IntS H Yf yf (fcs s.base e)) (hR : (R : Int) = ssum s.base s.st 1) (hC : (C : Int) = ssum s.base s.st 0)
    (t2 : T 2 = .pointer (some ⟨b2, 0, none⟩)) (t5 : T 5 = .pointer (some ⟨b5, 0, none⟩)) (t7 : T 7 = .int .i64 e) (t40 : T 40 = .slice Yf (fcs s.base e).length yf) (t41 : T 41 = .int .i64 (fcs s.base e).length) (t42 : T 42 = .int .i64 0)
    (hQ : ∀ T' G', WF H G' Ax ax R C (wFa s F e (fcs s.base e).length) → SameQ T' T → Q (.ex 2) T' G') : gLoop (gW Tryz.prog k71) Q T G := by
  have hR32 := hs.st.2.2 1 (by omega) (by omega)
  have hC32 := hs.st.2.2 0 (by omega) (by omega)
  have hfl : (fcs s.base e).length = 2 := by rw [fcs_len, facs_two, if_pos (by omega), he2]
  have hst := hs.st
  have hfsn := hf.sn (by omega)
  have hfe := fcol_nn hst e
  have hend := fcol_end hst hel (by omega)
  rw [show dimS s e = 1 by unfold dimS; omega] at hend
  obtain ⟨tp, htp⟩ : ∃ tp : Nat, fcol s e = tp := ⟨(fcol s e).toNat, by omega⟩
  refine gLoop_intro (fun mm T' G' => ∃ i : Nat, SameQ T' T ∧ T' 42 = .int .i64 i ∧ mm + i = 2 ∧ i ≤ 2 ∧ WF H G' Ax ax R C (wFa s F e i)) 2
    ⟨0, fun l _ => rfl, t42, by omega, by omega, hF⟩ ?_
  clear hF
  rintro mm T1 G1 ⟨i, hT, e42, hm, hil, hF⟩
  have hS := hF.s
  have e2 : T1 2 = .pointer (some ⟨b2, 0, none⟩) := (hT 2 (by omega)).trans t2
  have e5 : T1 5 = .pointer (some ⟨b5, 0, none⟩) := (hT 5 (by omega)).trans t5
  have e7 : T1 7 = .int .i64 e := (hT 7 (by omega)).trans t7
  have e40 : T1 40 = .slice Yf (fcs s.base e).length yf := (hT 40 (by omega)).trans t40
  have e41 : T1 41 = .int .i64 (fcs s.base e).length := (hT 41 (by omega)).trans t41
  simp (maxSteps := 300000) (disch := omega) only [gws, ↓reduceIte, reduceEqDiff, reduceToNat, reduceMul, reduceAdd, Nat.reduceBEq, isLd, e41, e42]
  by_cases hi : (i : Int) < (fcs s.base e).length
  · have hi2 : i < (fcs s.base e).length := by omega
    have hP1 := hP.sub hS
    obtain ⟨f0, f1, f2, f3⟩ := hP1.b
    obtain ⟨f, hfe1, hfe2, hfe3, _⟩ := fcs_bd hs.b hel hi2
    have hfa : faN s e i = f := by unfold faN; rw [hfe2]; rfl
    have rf := (hf.sub hS).rd i hi2
    rw [hfe2] at rf
    have hmo := hs.m e i hel hi2
    have hki := fmap_lt hel hi2
    have hnn := hs.n
    have hff := fcol_nn hst f
    have hfend := fcol_end hst (k := f) (by omega) (by omega)
    rw [show dimS s f = 0 by unfold dimS; omega] at hfend
    obtain ⟨lf, hlf⟩ : ∃ lf : Nat, fcol s f = lf := ⟨(fcol s f).toNat, by omega⟩
    have hp1 := hs.p.1
    have hp2 := hs.p.2.1
    have hcc := hmo.2.2.2
    rw [hfe2, Int.toNat_natCast] at hcc
    have hrr := hmo.2.2.1
    have hstl := hst.1
    have hse := hst.2.1 e (by omega)
    have hsf := hst.2.1 f (by omega)
    simp (maxSteps := 300000) (disch := omega) only [gws, ↓reduceIte, reduceEqDiff, reduceToNat, reduceMul, reduceAdd, Nat.reduceBEq, isLd, e2, e5, e7, e40, e41, e42, hi, rf, f0, f1, f2, f3]
    refine impl_direct_ok (m := m) (s := s) (k := e) (i := i) hP1.g hs.b (by omega) (by omega) hms ?_
    simp (maxSteps := 300000) (disch := omega) only [gws, ↓reduceIte, reduceEqDiff, reduceToNat, reduceMul, reduceAdd, Nat.reduceBEq, isLd]
    intro b10 hb10
    simp (maxSteps := 300000) (disch := omega) only [gws, ↓reduceIte, reduceEqDiff, reduceToNat, reduceMul, reduceAdd, Nat.reduceBEq, isLd]
    refine st_fresh (vs := mtC (dirM s e i) (m.Hm (fmap s.base e + i)).1 (m.Hm (fmap s.base e + i)).2) rfl rfl rfl (mtC_one _ _ _) ?_
    have sb := Sub.put hb10 ⟨mtC (dirM s e i) (m.Hm (fmap s.base e + i)).1 (m.Hm (fmap s.base e + i)).2, true⟩
    have hWn := hF.up sb
    have hWt := hF.to sb
    have g10 : wz (put G1 b10 ⟨mtC (dirM s e i) (m.Hm (fmap s.base e + i)).1 (m.Hm (fmap s.base e + i)).2, true⟩) Ax b10 = some ⟨mtC (dirM s e i) (m.Hm (fmap s.base e + i)).1 (m.Hm (fmap s.base e + i)).2, true⟩ := by rw [hF.nw hb10]; exact put_same _ _ _
    have hPd := hP.sub hWt
    have hPa := hP1.sub sb
    revert hWn hWt g10 hPd hPa
    generalize wz (put G1 b10 ⟨mtC (dirM s e i) (m.Hm (fmap s.base e + i)).1 (m.Hm (fmap s.base e + i)).2, true⟩) Ax = H'
    generalize put G1 b10 ⟨mtC (dirM s e i) (m.Hm (fmap s.base e + i)).1 (m.Hm (fmap s.base e + i)).2, true⟩ = G2
    intro hWn hWt g10 hPd hPa
    obtain ⟨ml, mr, mc⟩ := mt_len hmo.1
    have hB10 : MB H' b10 (dirM s e i).p (dirM s e i).r.toNat (dirM s e i).c.toNat (m.Hm (fmap s.base e + i)).1 (m.Hm (fmap s.base e + i)).2 (fM (dirM s e i)) := by
      obtain ⟨_, x0, x1, x2, x3⟩ := MtP.of g10 (hPd.g.ms.m _ (by omega))
      exact ⟨x0, by rw [show ((dirM s e i).r.toNat : Int) = (dirM s e i).r from mr]; exact x1, by rw [show ((dirM s e i).c.toNat : Int) = (dirM s e i).c from mc]; exact x2, by rw [← show (dirM s e i).m.length = (dirM s e i).r.toNat * (dirM s e i).c.toNat from ml]; exact x3, mt_ints hmo.1 (hPd.g.ms.m _ (by omega))⟩
    have hB2 := hB10.sub hWn.s
    obtain ⟨f0, f1, f2, f3⟩ := hPa.b
    simp (maxSteps := 300000) (disch := omega) only [gws, ↓reduceIte, reduceEqDiff, reduceToNat, reduceMul, reduceAdd, Nat.reduceBEq, isLd, e2, e5, e7, e40, e41, e42, f0, f1, f2, f3]
    refine impl_firstColumn_ok (m := m) (s := s) (k := e) hPa.g hs.b hst hel ?_
    simp (maxSteps := 300000) (disch := omega) only [gws, ↓reduceIte, reduceEqDiff, reduceToNat, reduceMul, reduceAdd, Nat.reduceBEq, isLd, e2, e5, e7, e40, e41, e42, f0, f1, f2, f3]
    refine impl_firstColumn_ok (m := m) (s := s) (k := f) hPa.g hs.b hst (by omega) ?_
    simp (maxSteps := 300000) (disch := omega) only [gws, ↓reduceIte, reduceEqDiff, reduceToNat, reduceMul, reduceAdd, Nat.reduceBEq, isLd, e2, e5, e7, e40, e41, e42, f0, f1, f2, f3, hB2.f1]
    refine ci_l1 (tp := tp) (lf := lf) (i := i) (b10 := b10) hPd hB10 hmo.1 ⟨hp1, hp2⟩ (hWt _ _ h5) hWn (by omega) (by omega) (by omega) (by rw [show (dirM s e i).r = _ from hrr]; omega) (by rw [show (dirM s e i).c = _ from hcc]; omega) (by simp (maxSteps := 300000) (disch := omega) only [gws, ↓reduceIte, reduceEqDiff, reduceToNat, reduceMul, reduceAdd, Nat.reduceBEq, isLd, e2]) (by simp (maxSteps := 300000) (disch := omega) only [gws, ↓reduceIte, reduceEqDiff, reduceToNat, reduceMul, reduceAdd, Nat.reduceBEq, isLd, e5]) (by simp (maxSteps := 300000) (disch := omega) only [gws, ↓reduceIte, reduceEqDiff, reduceToNat, reduceMul, reduceAdd, Nat.reduceBEq, isLd]) (by simp (maxSteps := 300000) (disch := omega) only [gws, ↓reduceIte, reduceEqDiff, reduceToNat, reduceMul, reduceAdd, Nat.reduceBEq, isLd]) (by simp (maxSteps := 300000) (disch := omega) only [gws, ↓reduceIte, reduceEqDiff, reduceToNat, reduceMul, reduceAdd, Nat.reduceBEq, isLd, htp]) (by simp (maxSteps := 300000) (disch := omega) only [gws, ↓reduceIte, reduceEqDiff, reduceToNat, reduceMul, reduceAdd, Nat.reduceBEq, isLd, hlf]) (by simp (maxSteps := 300000) (disch := omega) only [gws, ↓reduceIte, reduceEqDiff, reduceToNat, reduceMul, reduceAdd, Nat.reduceBEq, isLd]) (by simp (maxSteps := 300000) (disch := omega) only [gws, ↓reduceIte, reduceEqDiff, reduceToNat, reduceMul, reduceAdd, Nat.reduceBEq, isLd] <;> rfl) fun T' G' hF' hT' => ?_
    have u42 : T' 42 = .int .i64 i := by rw [hT' 42 (by omega)]; simp (maxSteps := 300000) (disch := omega) only [gws, ↓reduceIte, reduceEqDiff, reduceToNat, reduceMul, reduceAdd, Nat.reduceBEq, isLd, e42]
    have hT2 : SameQ T' T := fun l hl => by
      rw [hT' l (by omega)]
      repeat rw [upd_app, if_neg (by omega)]
      exact hT l hl
    simp (maxSteps := 300000) (disch := omega) only [gws, ↓reduceIte, reduceEqDiff, reduceToNat, reduceMul, reduceAdd, Nat.reduceBEq, isLd, u42]
    refine ⟨mm - 1, by omega, G', Sub.refl _, i + 1, fun l hl => ?_, rfl, by omega, by omega, ?_⟩
    · repeat first | rw [upd_app, if_neg (by omega)] | rw [if_neg (by omega)]
      exact hT2 l hl
    · have : wFa s F e (i + 1) = wA (wFa s F e i) (gF s e i) (fcol s e) (fcol s (faN s e i)) (dirM s e i).c.toNat (dirM s e i).r.toNat := rfl
      rw [this, hfa, htp, hlf]
      exact ⟨hF'.o, hWt.trans hF'.s, hF.f⟩
  · obtain rfl : i = 2 := by omega
    simp (maxSteps := 300000) (disch := omega) only [gws, ↓reduceIte, reduceEqDiff, reduceToNat, reduceMul, reduceAdd, Nat.reduceBEq, isLd, e41, e42, hi]
    rw [hfl] at hQ
    refine hQ _ _ hF fun l hl => ?_
    repeat rw [upd_app, if_neg (by omega)]
    exact hT l hl
/-- the temporaries outside the edges' loop stay. -/
def SameR (T' T : Nat → Value) : Prop := ∀ l, l ≤ 6 ∨ (15 ≤ l ∧ l ≤ 30) → T' l = T l
theorem impl_zero_ok {G : GH} {p : Int} {R C : Nat} (hR : R ≤ 2 ^ 10) (hC : C ≤ 2 ^ 10) {K : Value → GH → Prop}
    (hk : ∀ G' A c, Sub G G' → Off G A → Own G' A c ((flatL R C fun _ _ => 0).map I64) 1 (R * C) → K (matV p R C A (R * C) c) G') : GC Tryz.prog 158 [.int .i64 p, .int .i64 R, .int .i64 C] G K := by
  refine kht (by simp) ?_
  simp (maxSteps := 300000) (disch := omega) only [gws, ↓reduceIte, reduceEqDiff, reduceToNat, reduceMul, reduceAdd, Nat.reduceBEq, isLd]
  intro b6 hb6
  have s6 := Sub.put hb6 ⟨[.int .i64 0, .int .i64 0, .int .i64 0, .slice none 0 0], true⟩
  have g6 := put_same G b6 ⟨[.int .i64 0, .int .i64 0, .int .i64 0, .slice none 0 0], true⟩
  revert s6 g6
  generalize put G b6 ⟨[.int .i64 0, .int .i64 0, .int .i64 0, .slice none 0 0], true⟩ = G1
  intro s6 g6
  simp (maxSteps := 300000) (disch := omega) only [gws, ↓reduceIte, reduceEqDiff, reduceToNat, reduceMul, reduceAdd, Nat.reduceBEq, isLd]
  refine impl_filledF_ok (R := R) (C := C) (dl := fun _ _ => 0) hR hC (fun G' s' i j hi hj K' hK' => ?_) fun G2 B d s3 oB hW => ?_
  · simp (maxSteps := 300000) (disch := omega) only [gws, ↓reduceIte, reduceEqDiff, reduceToNat, reduceMul, reduceAdd, Nat.reduceBEq, isLd]
    refine khy (by simp) ?_
    simp (maxSteps := 300000) (disch := omega) only [gws, ↓reduceIte, reduceEqDiff, reduceToNat, reduceMul, reduceAdd, Nat.reduceBEq, isLd]
    exact hK'
  · have g3 := s3 _ _ g6
    unfold matV matC
    simp (maxSteps := 300000) (disch := omega) only [gws, ↓reduceIte, reduceEqDiff, reduceToNat, reduceMul, reduceAdd, Nat.reduceBEq, isLd]
    refine st_many (vs := [.int .i64 p, .int .i64 R, .int .i64 C, .slice B (R * C) d]) rfl g3 rfl (by simp) (by intro v hv; simp at hv; rcases hv with rfl | rfl | rfl | rfl <;> rfl) ?_
    have nb : ∀ a, B = some a → a.block ≠ b6 := fun a ha e => by have := oB a ha; rw [e, g6] at this; cases this
    simp (maxSteps := 300000) (disch := omega) only [gws, ↓reduceIte, reduceEqDiff, reduceToNat, reduceMul, reduceAdd, Nat.reduceBEq, isLd, over]
    exact hk _ _ _ ((s6.trans s3).skip hb6) (oB.mono s6) (hW.put nb _)
theorem ci_tree {G : GH} {b2 : Nat} {m : ShM} {s : Shf} {R C : Nat} {T : Nat → Value} {K : (Nat → Value) → GH → Prop} (t1 : T 1 = .int .i64 0) (t2 : T 2 = .pointer (some ⟨b2, 0, none⟩)) (hP : ShP G (some ⟨b2, 0, none⟩) m s) (hs : ShOk s) (hR : ssum s.base s.st 1 = (R : Nat)) (hC : ssum s.base s.st 0 = (C : Nat))
    (hK : ∀ T' G' b5 A c, Sub G G' → Off G A → (∀ a, A = some a → a.block ≠ b5) → (∀ l, l < 5 → T' l = T l) → T' 5 = .pointer (some ⟨b5, 0, none⟩) → G' b5 = some ⟨mat4 s.p R C A c, true⟩ → Own G' A c ((flatL R C fun _ _ => 0).map I64) 1 (R * C) → K T' G') : gT Tryz.prog k6f [] K T G := by
  have hR32 := hs.st.2.2 1 (by omega) (by omega)
  have hC32 := hs.st.2.2 0 (by omega) (by omega)
  have S1 : ∀ {G' : GH} (u : Sub G G') {Kx : Value → GH → Prop}, Kx (.int .i64 R) G' → GC Tryz.prog 100 [shV m s, .int .i64 1] G' Kx := by
    intro G' u Kx hx
    have := (hP.sub u).g
    exact impl_stalkSum_ok (d := 1) this.rows this.st hs.b.cs hs.st.1 hs.st.2.1 (by omega) (by rw [hR]; exact hx)
  have S0 : ∀ {G' : GH} (u : Sub G G') {Kx : Value → GH → Prop}, Kx (.int .i64 C) G' → GC Tryz.prog 100 [shV m s, .int .i64 0] G' Kx := by
    intro G' u Kx hx
    have := (hP.sub u).g
    exact impl_stalkSum_ok (d := 0) this.rows this.st hs.b.cs hs.st.1 hs.st.2.1 (by omega) (by rw [hC]; exact hx)
  have rds : ∀ {G' : GH}, Sub G G' → rd G' (some ⟨b2, 0, none⟩) = some (.slice m.A s.base.length m.c) ∧ rd G' (some ⟨b2, 1, none⟩) = some (.int .i64 s.p) ∧ rd G' (some ⟨b2, 2, none⟩) = some (.slice m.S s.st.length m.e) ∧ rd G' (some ⟨b2, 3, none⟩) = some (.slice m.M s.ms.length m.l) := fun u => (hP.sub u).b
  have w1 := w64 (0 + 1) (by omega) (by omega)
  unfold shV shC at S1 S0
  obtain ⟨q0, q1, q2, q3⟩ := rds (Sub.refl _)
  simp (maxSteps := 300000) (disch := omega) only [gws, ↓reduceIte, reduceEqDiff, reduceToNat, reduceMul, reduceAdd, Nat.reduceBEq, isLd, t1, t2, q0, q1, q2, q3, w1]
  refine ⟨S1 (Sub.refl _) ?_, fun b5 hb5 => ?_⟩
  · simp (maxSteps := 300000) (disch := omega) only [gws, ↓reduceIte, reduceEqDiff, reduceToNat, reduceMul, reduceAdd, Nat.reduceBEq, isLd, t1, t2, q0, q1, q2, q3, w1]
    refine ⟨S0 (Sub.refl _) ?_, fun b5 hb5 => ?_⟩
    · simp (maxSteps := 300000) (disch := omega) only [gws, ↓reduceIte, reduceEqDiff, reduceToNat, reduceMul, reduceAdd, Nat.reduceBEq, isLd, t1, t2, q0, q1, q2, q3, w1]
      refine ⟨impl_zero_ok (by omega) (by omega) fun G2 A c u2 oA hW => ?_, fun b5 hb5 => ?_⟩
      · unfold matV matC
        obtain ⟨q0, q1, q2, q3⟩ := rds u2
        simp (maxSteps := 300000) (disch := omega) only [gws, ↓reduceIte, reduceEqDiff, reduceToNat, reduceMul, reduceAdd, Nat.reduceBEq, isLd, t1, t2, q0, q1, q2, q3, w1]
        intro b5 hb5
        have u5 := Sub.put hb5 ⟨[.int .i64 0, .int .i64 0, .int .i64 0, .slice none 0 0], true⟩
        obtain ⟨q0, q1, q2, q3⟩ := rds (u2.trans u5)
        simp (maxSteps := 300000) (disch := omega) only [gws, ↓reduceIte, reduceEqDiff, reduceToNat, reduceMul, reduceAdd, Nat.reduceBEq, isLd, t1, t2, q0, q1, q2, q3, w1]
        refine st_fresh (vs := [.int .i64 s.p, .int .i64 R, .int .i64 C, .slice A (R * C) c]) rfl rfl rfl (by intro v hv; simp at hv; rcases hv with rfl | rfl | rfl | rfl <;> rfl) ?_
        simp (maxSteps := 300000) (disch := omega) only [gws, ↓reduceIte, reduceEqDiff, reduceToNat, reduceMul, reduceAdd, Nat.reduceBEq, isLd]
        have s5 := Sub.put hb5 ⟨[.int .i64 s.p, .int .i64 R, .int .i64 C, .slice A (R * C) c], true⟩
        have nb : ∀ a, A = some a → a.block ≠ b5 := hW.ne hb5
        exact hK _ _ b5 A c (u2.trans s5) oA nb (fun l hl => by repeat rw [upd_app, if_neg (by omega)]) (by simp (maxSteps := 300000) (disch := omega) only [gws, ↓reduceIte, reduceEqDiff, reduceToNat, reduceMul, reduceAdd, Nat.reduceBEq, isLd]) (put_same _ _ _) (hW.sub s5)
      · have u5 := Sub.put hb5 ⟨[.int .i64 0, .int .i64 0, .int .i64 0, .slice none 0 0], true⟩
        obtain ⟨q0, q1, q2, q3⟩ := rds u5
        simp (maxSteps := 300000) (disch := omega) only [gws, ↓reduceIte, reduceEqDiff, reduceToNat, reduceMul, reduceAdd, Nat.reduceBEq, isLd, t1, t2, q0, q1, q2, q3, w1]
        refine impl_zero_ok (by omega) (by omega) fun G2 A c u2 oA hW => ?_
        unfold matV matC
        obtain ⟨q0, q1, q2, q3⟩ := rds (u5.trans u2)
        simp (maxSteps := 300000) (disch := omega) only [gws, ↓reduceIte, reduceEqDiff, reduceToNat, reduceMul, reduceAdd, Nat.reduceBEq, isLd, t1, t2, q0, q1, q2, q3, w1]
        refine st_many (vs := [.int .i64 s.p, .int .i64 R, .int .i64 C, .slice A (R * C) c]) rfl (u2 _ _ (put_same _ _ _)) rfl (by simp) (by intro v hv; simp at hv; rcases hv with rfl | rfl | rfl | rfl <;> rfl) ?_
        simp (maxSteps := 300000) (disch := omega) only [gws, ↓reduceIte, reduceEqDiff, reduceToNat, reduceMul, reduceAdd, Nat.reduceBEq, isLd, over]
        have nb : ∀ a, A = some a → a.block ≠ b5 := fun a ha e => by have := oA a ha; rw [e, put_same] at this; cases this
        exact hK _ _ b5 A c ((u5.trans u2).skip hb5) (oA.mono u5) nb (fun l hl => by repeat rw [upd_app, if_neg (by omega)]) (by simp (maxSteps := 300000) (disch := omega) only [gws, ↓reduceIte, reduceEqDiff, reduceToNat, reduceMul, reduceAdd, Nat.reduceBEq, isLd]) (put_same _ _ _) (hW.put nb _)
    · have u5 := Sub.put hb5 ⟨[.int .i64 0, .int .i64 0, .int .i64 0, .slice none 0 0], true⟩
      obtain ⟨q0, q1, q2, q3⟩ := rds u5
      simp (maxSteps := 300000) (disch := omega) only [gws, ↓reduceIte, reduceEqDiff, reduceToNat, reduceMul, reduceAdd, Nat.reduceBEq, isLd, t1, t2, q0, q1, q2, q3, w1]
      refine S0 u5 ?_
      simp (maxSteps := 300000) (disch := omega) only [gws, ↓reduceIte, reduceEqDiff, reduceToNat, reduceMul, reduceAdd, Nat.reduceBEq, isLd, t1, t2, q0, q1, q2, q3, w1]
      refine impl_zero_ok (by omega) (by omega) fun G2 A c u2 oA hW => ?_
      unfold matV matC
      obtain ⟨q0, q1, q2, q3⟩ := rds (u5.trans u2)
      simp (maxSteps := 300000) (disch := omega) only [gws, ↓reduceIte, reduceEqDiff, reduceToNat, reduceMul, reduceAdd, Nat.reduceBEq, isLd, t1, t2, q0, q1, q2, q3, w1]
      refine st_many (vs := [.int .i64 s.p, .int .i64 R, .int .i64 C, .slice A (R * C) c]) rfl (u2 _ _ (put_same _ _ _)) rfl (by simp) (by intro v hv; simp at hv; rcases hv with rfl | rfl | rfl | rfl <;> rfl) ?_
      simp (maxSteps := 300000) (disch := omega) only [gws, ↓reduceIte, reduceEqDiff, reduceToNat, reduceMul, reduceAdd, Nat.reduceBEq, isLd, over]
      have nb : ∀ a, A = some a → a.block ≠ b5 := fun a ha e => by have := oA a ha; rw [e, put_same] at this; cases this
      exact hK _ _ b5 A c ((u5.trans u2).skip hb5) (oA.mono u5) nb (fun l hl => by repeat rw [upd_app, if_neg (by omega)]) (by simp (maxSteps := 300000) (disch := omega) only [gws, ↓reduceIte, reduceEqDiff, reduceToNat, reduceMul, reduceAdd, Nat.reduceBEq, isLd]) (put_same _ _ _) (hW.put nb _)
  · have u5 := Sub.put hb5 ⟨[.int .i64 0, .int .i64 0, .int .i64 0, .slice none 0 0], true⟩
    obtain ⟨q0, q1, q2, q3⟩ := rds u5
    simp (maxSteps := 300000) (disch := omega) only [gws, ↓reduceIte, reduceEqDiff, reduceToNat, reduceMul, reduceAdd, Nat.reduceBEq, isLd, t1, t2, q0, q1, q2, q3, w1]
    refine S1 u5 ?_
    simp (maxSteps := 300000) (disch := omega) only [gws, ↓reduceIte, reduceEqDiff, reduceToNat, reduceMul, reduceAdd, Nat.reduceBEq, isLd, t1, t2, q0, q1, q2, q3, w1]
    refine S0 u5 ?_
    simp (maxSteps := 300000) (disch := omega) only [gws, ↓reduceIte, reduceEqDiff, reduceToNat, reduceMul, reduceAdd, Nat.reduceBEq, isLd, t1, t2, q0, q1, q2, q3, w1]
    refine impl_zero_ok (by omega) (by omega) fun G2 A c u2 oA hW => ?_
    unfold matV matC
    obtain ⟨q0, q1, q2, q3⟩ := rds (u5.trans u2)
    simp (maxSteps := 300000) (disch := omega) only [gws, ↓reduceIte, reduceEqDiff, reduceToNat, reduceMul, reduceAdd, Nat.reduceBEq, isLd, t1, t2, q0, q1, q2, q3, w1]
    refine st_many (vs := [.int .i64 s.p, .int .i64 R, .int .i64 C, .slice A (R * C) c]) rfl (u2 _ _ (put_same _ _ _)) rfl (by simp) (by intro v hv; simp at hv; rcases hv with rfl | rfl | rfl | rfl <;> rfl) ?_
    simp (maxSteps := 300000) (disch := omega) only [gws, ↓reduceIte, reduceEqDiff, reduceToNat, reduceMul, reduceAdd, Nat.reduceBEq, isLd, over]
    have nb : ∀ a, A = some a → a.block ≠ b5 := fun a ha e => by have := oA a ha; rw [e, put_same] at this; cases this
    exact hK _ _ b5 A c ((u5.trans u2).skip hb5) (oA.mono u5) nb (fun l hl => by repeat rw [upd_app, if_neg (by omega)]) (by simp (maxSteps := 300000) (disch := omega) only [gws, ↓reduceIte, reduceEqDiff, reduceToNat, reduceMul, reduceAdd, Nat.reduceBEq, isLd]) (put_same _ _ _) (hW.put nb _)
theorem ci_l3 {H G : GH} {b2 b5 ax R C ye : Nat} {Ax Ye : Option Addr} {m : ShM} {s : Shf} {T : Nat → Value} {Q : Cont} (hP : ShP H (some ⟨b2, 0, none⟩) m s) (hs : ShOk s) (hms : s.ms.length ≤ 2 ^ 20) (h5 : H b5 = some ⟨mat4 s.p R C Ax ax, true⟩) (hF : WF H G Ax ax R C (fun _ _ => 0))
    (hE : IntS H Ye ye (ofd s.base 1)) (hR : (R : Int) = ssum s.base s.st 1) (hC : (C : Int) = ssum s.base s.st 0)
    (t1 : T 1 = .int .i64 0) (t2 : T 2 = .pointer (some ⟨b2, 0, none⟩)) (t5 : T 5 = .pointer (some ⟨b5, 0, none⟩)) (t29 : T 29 = .slice Ye (ofd s.base 1).length ye) (t30 : T 30 = .int .i64 (ofd s.base 1).length) (t31 : T 31 = .int .i64 0)
    (hQ : ∀ T' G', WF H G' Ax ax R C (cobF s) → SameR T' T → Q (.ex 0) T' G') : gLoop (gW Tryz.prog k73) Q T G := by
  have hst := hs.st
  have hbn := hs.b.n
  have hol := ofd_len hbn 1
  have hesn := hE.sn
  refine gLoop_intro (fun mm T' G' => ∃ n : Nat, SameR T' T ∧ T' 31 = .int .i64 n ∧ mm + n = (ofd s.base 1).length ∧ n ≤ (ofd s.base 1).length ∧ WF H G' Ax ax R C (wE s n)) (ofd s.base 1).length
    ⟨0, fun l _ => rfl, t31, by omega, by omega, hF⟩ ?_
  clear hF
  rintro mm T1 G1 ⟨n, hT, e31, hm, hnl, hF⟩
  have hS := hF.s
  have e1 : T1 1 = .int .i64 0 := (hT 1 (by omega)).trans t1
  have e2 : T1 2 = .pointer (some ⟨b2, 0, none⟩) := (hT 2 (by omega)).trans t2
  have e5 : T1 5 = .pointer (some ⟨b5, 0, none⟩) := (hT 5 (by omega)).trans t5
  have e29 : T1 29 = .slice Ye (ofd s.base 1).length ye := (hT 29 (by omega)).trans t29
  have e30 : T1 30 = .int .i64 (ofd s.base 1).length := (hT 30 (by omega)).trans t30
  simp (maxSteps := 300000) (disch := omega) only [gws, ↓reduceIte, reduceEqDiff, reduceToNat, reduceMul, reduceAdd, Nat.reduceBEq, isLd, e30, e31]
  by_cases hn : (n : Int) < (ofd s.base 1).length
  · obtain ⟨e, hel, hge, hd⟩ := ofd_get (show n < (ofd s.base 1).length by omega)
    have hP1 := hP.sub hS
    obtain ⟨f0, f1, f2, f3⟩ := hP1.b
    have re := (hE.sub hS).rd n (by omega)
    rw [hge] at re
    simp (maxSteps := 300000) (disch := omega) only [gws, ↓reduceIte, reduceEqDiff, reduceToNat, reduceMul, reduceAdd, Nat.reduceBEq, isLd, e1, e2, e5, e29, e30, e31, hn, re, f0, f1, f2, f3, show ((0 : Int) < 0) = False from eq_false (by decide)]
    refine impl_faceIndices_ok (k := e) hP1.g.rows hs.b hel fun G2 Yf yf hN => ?_
    have hIf : IntS (wz G2 Ax) Yf yf (fcs s.base e) := (hN.own.ints' rfl).sub hF.rest
    have hWn := hF.up hN.sub
    have hWt := hF.to hN.sub
    simp (maxSteps := 300000) (disch := omega) only [gws, ↓reduceIte, reduceEqDiff, reduceToNat, reduceMul, reduceAdd, Nat.reduceBEq, isLd, e1, e2, e5, e29, e30, e31]
    refine ci_l2 (H := wz G2 Ax) (e := e) (hP.sub hWt) hs hms (hWt _ _ h5) hWn hel (by omega) hIf hR hC (by simp (maxSteps := 300000) (disch := omega) only [gws, ↓reduceIte, reduceEqDiff, reduceToNat, reduceMul, reduceAdd, Nat.reduceBEq, isLd, e2]) (by simp (maxSteps := 300000) (disch := omega) only [gws, ↓reduceIte, reduceEqDiff, reduceToNat, reduceMul, reduceAdd, Nat.reduceBEq, isLd, e5]) (by simp (maxSteps := 300000) (disch := omega) only [gws, ↓reduceIte, reduceEqDiff, reduceToNat, reduceMul, reduceAdd, Nat.reduceBEq, isLd]) (by simp (maxSteps := 300000) (disch := omega) only [gws, ↓reduceIte, reduceEqDiff, reduceToNat, reduceMul, reduceAdd, Nat.reduceBEq, isLd]) (by simp (maxSteps := 300000) (disch := omega) only [gws, ↓reduceIte, reduceEqDiff, reduceToNat, reduceMul, reduceAdd, Nat.reduceBEq, isLd]) (by simp (maxSteps := 300000) (disch := omega) only [gws, ↓reduceIte, reduceEqDiff, reduceToNat, reduceMul, reduceAdd, Nat.reduceBEq, isLd] <;> rfl) fun T' G' hF' hT' => ?_
    have u31 : T' 31 = .int .i64 n := by rw [hT' 31 (by omega)]; simp (maxSteps := 300000) (disch := omega) only [gws, ↓reduceIte, reduceEqDiff, reduceToNat, reduceMul, reduceAdd, Nat.reduceBEq, isLd, e31]
    have hT2 : SameR T' T := fun l hl => by
      rw [hT' l (by omega)]
      repeat rw [upd_app, if_neg (by omega)]
      exact hT l hl
    simp (maxSteps := 300000) (disch := omega) only [gws, ↓reduceIte, reduceEqDiff, reduceToNat, reduceMul, reduceAdd, Nat.reduceBEq, isLd, u31]
    refine ⟨mm - 1, by omega, G', Sub.refl _, n + 1, fun l hl => ?_, rfl, by omega, by omega, ?_⟩
    · repeat first | rw [upd_app, if_neg (by omega)] | rw [if_neg (by omega)]
      exact hT2 l hl
    · have : wE s (n + 1) = wFa s (wE s n) ((ofd s.base 1).getD n 0).toNat (fcs s.base ((ofd s.base 1).getD n 0).toNat).length := rfl
      rw [this, hge, Int.toNat_natCast]
      exact ⟨hF'.o, hWt.trans hF'.s, hF.f⟩
  · obtain rfl : n = (ofd s.base 1).length := by omega
    simp (maxSteps := 300000) (disch := omega) only [gws, ↓reduceIte, reduceEqDiff, reduceToNat, reduceMul, reduceAdd, Nat.reduceBEq, isLd, e30, e31, hn]
    refine hQ _ _ hF fun l hl => ?_
    repeat rw [upd_app, if_neg (by omega)]
    exact hT l hl
theorem impl_coboundaryMatrix_ok {G : GH} {m : ShM} {s : Shf} {R C : Nat} (hG : ShG G m s) (hs : ShOk s) (hms : s.ms.length ≤ 2 ^ 20) (hR : ssum s.base s.st 1 = (R : Nat)) (hC : ssum s.base s.st 0 = (C : Nat)) {K : Value → GH → Prop}
    (hk : ∀ G' D e, Sub G G' → Off G D → IntS G' D e (flatL R C (cobF s)) → K (matV s.p R C D (R * C) e) G') : GC Tryz.prog 104 [shV m s, .int .i64 0] G K := by
  refine k77 (by simp) ?_
  have hw := @ci_tree
  have hw3 := @ci_l3
  unfold k75
  generalize k6f = D1 at hw ⊢
  generalize k73 = L3 at hw3 ⊢
  unfold shV shC
  simp (maxSteps := 300000) (disch := omega) only [gws, ↓reduceIte, reduceEqDiff, reduceToNat, reduceMul, reduceAdd, Nat.reduceBEq, isLd]
  intro b2 hb2
  have s2 := Sub.put hb2 ⟨shC m s, true⟩
  have hP := ShP.box hb2 hG
  unfold shC at s2 hP
  revert s2 hP
  generalize put G b2 ⟨[.slice m.A s.base.length m.c, .int .i64 s.p, .slice m.S s.st.length m.e, .slice m.M s.ms.length m.l], true⟩ = G2
  intro s2 hP
  simp (maxSteps := 300000) (disch := omega) only [gws, ↓reduceIte, reduceEqDiff, reduceToNat, reduceMul, reduceAdd, Nat.reduceBEq, isLd]
  intro b4 hb4
  have s4 := Sub.put hb4 ⟨[.int .i64 0, .int .i64 0, .int .i64 0, .slice none 0 0], true⟩
  have g4 := put_same G2 b4 ⟨[.int .i64 0, .int .i64 0, .int .i64 0, .slice none 0 0], true⟩
  have n4 : G b4 = none := s2.none hb4
  have hP4 := hP.sub s4
  have s24 := s2.trans s4
  revert s24 g4 hP4
  generalize put G2 b4 ⟨[.int .i64 0, .int .i64 0, .int .i64 0, .slice none 0 0], true⟩ = G4
  intro g4 hP4 s24
  simp (maxSteps := 300000) (disch := omega) only [gws, ↓reduceIte, reduceEqDiff, reduceToNat, reduceMul, reduceAdd, Nat.reduceBEq, isLd]
  refine hw (b2 := b2) (m := m) (s := s) (R := R) (C := C) (by simp (maxSteps := 300000) (disch := omega) only [gws, ↓reduceIte, reduceEqDiff, reduceToNat, reduceMul, reduceAdd, Nat.reduceBEq, isLd]) (by simp (maxSteps := 300000) (disch := omega) only [gws, ↓reduceIte, reduceEqDiff, reduceToNat, reduceMul, reduceAdd, Nat.reduceBEq, isLd]) hP4 hs hR hC fun T1 G1 b5 A c s1 oA nA hT t5 g5 hW => ?_
  have t1 : T1 1 = .int .i64 0 := by rw [hT 1 (by omega)]; simp (maxSteps := 300000) (disch := omega) only [gws, ↓reduceIte, reduceEqDiff, reduceToNat, reduceMul, reduceAdd, Nat.reduceBEq, isLd]
  have t2 : T1 2 = .pointer (some ⟨b2, 0, none⟩) := by rw [hT 2 (by omega)]; simp (maxSteps := 300000) (disch := omega) only [gws, ↓reduceIte, reduceEqDiff, reduceToNat, reduceMul, reduceAdd, Nat.reduceBEq, isLd]
  have t4 : T1 4 = .pointer (some ⟨b4, 0, none⟩) := by rw [hT 4 (by omega)]; simp (maxSteps := 300000) (disch := omega) only [gws, ↓reduceIte, reduceEqDiff, reduceToNat, reduceMul, reduceAdd, Nat.reduceBEq, isLd]
  clear hT
  have hbn := hs.b.n
  have hP1 := hP4.sub s1
  obtain ⟨f0, f1, f2, f3⟩ := hP1.b
  have hWF : WF G4 G1 A c R C (fun _ _ => 0) := ⟨hW, s1, oA⟩
  simp (maxSteps := 300000) (disch := omega) only [gws, ↓reduceIte, reduceEqDiff, reduceToNat, reduceMul, reduceAdd, Nat.reduceBEq, isLd, t1, t2, t4, t5, f0, f1, f2, f3]
  refine impl_simplicesOf_ok (d := 1) hP1.g.rows hbn hs.b.cs.l (by omega) fun G3 Ye ye hN => ?_
  have hWn := hWF.up hN.sub
  have hWt := hWF.to hN.sub
  have hE : IntS (wz G3 A) Ye ye (ofd s.base 1) := (hN.own.ints' rfl).sub hWF.rest
  have h5 : wz G3 A b5 = some ⟨mat4 s.p R C A c, true⟩ := by rw [wz_ne nA]; exact hN.sub _ _ g5
  have h4 := hWt _ _ g4
  simp (maxSteps := 300000) (disch := omega) only [gws, ↓reduceIte, reduceEqDiff, reduceToNat, reduceMul, reduceAdd, Nat.reduceBEq, isLd, t1, t2, t4, t5]
  refine hw3 (H := wz G3 A) (R := R) (C := C) (b5 := b5) (b2 := b2) (hP4.sub hWt) hs hms h5 hWn hE hR.symm hC.symm (by simp (maxSteps := 300000) (disch := omega) only [gws, ↓reduceIte, reduceEqDiff, reduceToNat, reduceMul, reduceAdd, Nat.reduceBEq, isLd, t1]) (by simp (maxSteps := 300000) (disch := omega) only [gws, ↓reduceIte, reduceEqDiff, reduceToNat, reduceMul, reduceAdd, Nat.reduceBEq, isLd, t2]) (by simp (maxSteps := 300000) (disch := omega) only [gws, ↓reduceIte, reduceEqDiff, reduceToNat, reduceMul, reduceAdd, Nat.reduceBEq, isLd, t5]) (by simp (maxSteps := 300000) (disch := omega) only [gws, ↓reduceIte, reduceEqDiff, reduceToNat, reduceMul, reduceAdd, Nat.reduceBEq, isLd]) (by simp (maxSteps := 300000) (disch := omega) only [gws, ↓reduceIte, reduceEqDiff, reduceToNat, reduceMul, reduceAdd, Nat.reduceBEq, isLd]) (by simp (maxSteps := 300000) (disch := omega) only [gws, ↓reduceIte, reduceEqDiff, reduceToNat, reduceMul, reduceAdd, Nat.reduceBEq, isLd] <;> rfl) fun T' G' hF hT' => ?_
  have u4 : T' 4 = .pointer (some ⟨b4, 0, none⟩) := by rw [hT' 4 (by omega)]; simp (maxSteps := 300000) (disch := omega) only [gws, ↓reduceIte, reduceEqDiff, reduceToNat, reduceMul, reduceAdd, Nat.reduceBEq, isLd, t4]
  have u5 : T' 5 = .pointer (some ⟨b5, 0, none⟩) := by rw [hT' 5 (by omega)]; simp (maxSteps := 300000) (disch := omega) only [gws, ↓reduceIte, reduceEqDiff, reduceToNat, reduceMul, reduceAdd, Nat.reduceBEq, isLd, t5]
  have g5' := hF.s _ _ h5
  have x0 : rd G' (some ⟨b5, 0, none⟩) = some (.int .i64 s.p) := by simp only [rd, g5']; rfl
  have x1 : rd G' (some ⟨b5, 1, none⟩) = some (.int .i64 R) := by simp only [rd, g5']; rfl
  have x2 : rd G' (some ⟨b5, 2, none⟩) = some (.int .i64 C) := by simp only [rd, g5']; rfl
  have x3 : rd G' (some ⟨b5, 3, none⟩) = some (.slice A (R * C) c) := by simp only [rd, g5']; rfl
  simp (maxSteps := 300000) (disch := omega) only [gws, ↓reduceIte, reduceEqDiff, reduceToNat, reduceMul, reduceAdd, Nat.reduceBEq, isLd, u4, u5, x0, x1, x2, x3]
  refine st_many (vs := [.int .i64 s.p, .int .i64 R, .int .i64 C, .slice A (R * C) c]) rfl (hF.s _ _ h4) rfl (by simp) (by intro v hv; simp at hv; rcases hv with rfl | rfl | rfl | rfl <;> rfl) ?_
  simp (maxSteps := 300000) (disch := omega) only [gws, ↓reduceIte, reduceEqDiff, reduceToNat, reduceMul, reduceAdd, Nat.reduceBEq, isLd, over, u4]
  have hI := hF.ints
  have nb4 : ∀ a, A = some a → a.block ≠ b4 := fun a ha e => by have := oA a ha; rw [e, g4] at this; cases this
  exact hk _ A c (((s24.trans hWt).trans hF.s).skip n4) (oA.mono s24) (ints_put hI nb4)
theorem wB_bd {F g : Int → Int → Int} (hF : ∀ i j, 0 ≤ F i j ∧ F i j ≤ 250) (hg : ∀ i j, 0 ≤ g i j ∧ g i j ≤ 250) (top left : Int) (a : Nat) : ∀ b i j, 0 ≤ wB F g top left a b i j ∧ wB F g top left a b i j ≤ 250
  | 0, i, j => hF i j
  | b + 1, i, j => by
    show 0 ≤ upd2 (wB F g top left a b) (top + a) (left + b) (g a b) i j ∧ upd2 (wB F g top left a b) (top + a) (left + b) (g a b) i j ≤ 250
    unfold upd2; split
    · exact hg _ _
    · exact wB_bd hF hg top left a b i j
theorem wA_bd {F g : Int → Int → Int} (hF : ∀ i j, 0 ≤ F i j ∧ F i j ≤ 250) (hg : ∀ i j, 0 ≤ g i j ∧ g i j ≤ 250) (top left : Int) (C : Nat) : ∀ a i j, 0 ≤ wA F g top left C a i j ∧ wA F g top left C a i j ≤ 250
  | 0, i, j => hF i j
  | a + 1, i, j => wB_bd (wA_bd hF hg top left C a) hg top left a C i j
theorem gF_bd {s : Shf} (hp : 2 ≤ s.p ∧ s.p ≤ 251) (e i : Nat) : ∀ a b, 0 ≤ gF s e i a b ∧ gF s e i a b ≤ 250 := fun a b => by
  unfold gF
  have h1 := Int.emod_nonneg (fM (dirM s e i) a b * sgn s.p i) (show s.p ≠ 0 by omega)
  have h2 := Int.emod_lt_of_pos (fM (dirM s e i) a b * sgn s.p i) (show 0 < s.p by omega)
  omega
theorem wFa_bd {s : Shf} (hp : 2 ≤ s.p ∧ s.p ≤ 251) {F : Int → Int → Int} (hF : ∀ i j, 0 ≤ F i j ∧ F i j ≤ 250) (e : Nat) : ∀ i a b, 0 ≤ wFa s F e i a b ∧ wFa s F e i a b ≤ 250
  | 0, a, b => hF a b
  | i + 1, a, b => wA_bd (wFa_bd hp hF e i) (gF_bd hp e i) _ _ _ _ a b
theorem wE_bd {s : Shf} (hp : 2 ≤ s.p ∧ s.p ≤ 251) : ∀ n a b, 0 ≤ wE s n a b ∧ wE s n a b ≤ 250
  | 0, a, b => ⟨Int.le_refl _, by show (0 : Int) ≤ 250; decide⟩
  | n + 1, a, b => wFa_bd hp (wE_bd hp n) _ _ a b
theorem cobF_bd {s : Shf} (hp : 2 ≤ s.p ∧ s.p ≤ 251) : ∀ i j, 0 ≤ cobF s i j ∧ cobF s i j ≤ 250 := wE_bd hp _
/-- how many rows and columns the coboundary has. -/
def nR (s : Shf) : Nat := (ssum s.base s.st 1).toNat
def nC (s : Shf) : Nat := (ssum s.base s.st 0).toNat
theorem nR_eq {s : Shf} (hs : ShOk s) : ssum s.base s.st 1 = (nR s : Nat) ∧ nR s ≤ 32 := by
  have h1 := hs.st.2.2 1 (by omega) (by omega)
  have h2 : 0 ≤ ssum s.base s.st 1 := (stN_bd hs.st.2.1 _).1
  unfold nR; omega
theorem nC_eq {s : Shf} (hs : ShOk s) : ssum s.base s.st 0 = (nC s : Nat) ∧ nC s ≤ 32 := by
  have h1 := hs.st.2.2 0 (by omega) (by omega)
  have h2 : 0 ≤ ssum s.base s.st 0 := (stN_bd hs.st.2.1 _).1
  unfold nC; omega
theorem rd_bd {s : Shf} (hs : ShOk s) {x : List Int} (hr : RdOk s x) : InB x 0 250 ∧ x.length = nC s := by
  have h1 := hs.p.1
  have h2 := hs.p.2.1
  have h3 := (nC_eq hs).1
  have h4 := hr.2
  exact ⟨fun i hi => by have := hr.1 i hi; omega, by omega⟩
theorem codeC_ok {s : Shf} {x : List Int} (h : codeC s x = 0) : ShOk s ∧ RdOk s x := by
  unfold codeC at h
  by_cases h1 : ShG' s
  · rw [if_pos h1] at h
    by_cases h2 : RdOk s x
    · exact ⟨h1.1, h2⟩
    · rw [if_neg h2] at h; cases h
  · rw [if_neg h1] at h; cases h
theorem codeR_iff {s : Shf} {x ws : List Int} : codeR s x ws = 0 ↔ codeC s x = 0 ∧ VtOk s ws := by
  unfold codeR codeC
  by_cases h1 : ShG' s
  · rw [if_pos h1, if_pos h1]
    by_cases h2 : RdOk s x
    · rw [if_pos h2, if_pos h2]
      by_cases h3 : VtOk s ws
      · rw [if_pos h3]; simp [h3]
      · rw [if_neg h3]; simp [h3]
    · rw [if_neg h2, if_neg h2]; simp
  · rw [if_neg h1, if_neg h1]; simp
theorem vt_len (s : Shf) : (vsN s.base s.base.length).length = (ofd s.base 0).length := vsN_len _ _
theorem spec_l17Vertices_ok {G : GH} {q W : Option Addr} {w : Nat} {m : ShM} {s : Shf} {ws : List Int} (h : ShP G q m s) (hb : CxOk s.base) (hw : IntS G W w ws) (hwl : ws.length < 2 ^ 40) {K : Value → GH → Prop}
    (hk : ∀ z : Bool, (z = true ↔ VtOk s ws) → K (.bool z) G) : GC Tryz.prog 55 [.pointer q, .slice W ws.length w] G K := by
  refine GC_drop (k18r (by simp) ?_)
  have hq := rd_some h.f0
  have hbn := hb.n
  have hol := ofd_len hbn 0
  have w1 := w64 (((ofd s.base 0).length : Int) - 1) (by omega) (by omega)
  simp (maxSteps := 300000) (disch := omega) only [gws, ↓reduceIte, reduceEqDiff, reduceToNat, reduceMul, reduceAdd, Nat.reduceBEq, isLd]
  refine spec_l05Of_ok (d := 0) h.cx hbn hb.cs.l (by omega) fun G2 Y y hN => ?_
  simp (maxSteps := 300000) (disch := omega) only [gws, ↓reduceIte, reduceEqDiff, reduceToNat, reduceMul, reduceAdd, Nat.reduceBEq, isLd, w1]
  refine spec_l00Rises_ok (hw.sub hN.sub) hwl fun z hz => ?_
  simp (maxSteps := 300000) (disch := omega) only [gws, ↓reduceIte, reduceEqDiff, reduceToNat, reduceMul, reduceAdd, Nat.reduceBEq, isLd]
  refine ⟨G, hN.sub, hk z ?_⟩
  rw [hz]
  unfold VtOk
  rw [vt_len]
  exact And.comm
/-- the vertices come first. -/
theorem pre0 {xss : List (List Int)} (ha : SAsc xss) (h1 : ∀ i, i < xss.length → 1 ≤ (xss.getD i []).length) : ∀ k, k ≤ xss.length → ofdN xss 0 k = (List.range (ofdN xss 0 k).length).map (fun i : Nat => (i : Int)) ∧ ∀ i, i < k → ((xss.getD i []).length = 1 ↔ i < (ofdN xss 0 k).length)
  | 0, _ => ⟨by simp [ofdN], fun i hi => by omega⟩
  | k + 1, hk => by
    obtain ⟨e1, e2⟩ := pre0 ha h1 k (by omega)
    have hle := ofdN_len xss 0 k
    by_cases c : ((xss.getD k []).length : Int) = 0 + 1
    · have hall : ∀ i, i < k → (xss.getD i []).length = 1 := fun i hi => by
        have hc := cmpS_neg.1 (sasc_get ha hi (show k < xss.length by omega))
        have := h1 i (by omega)
        omega
      have hlen : (ofdN xss 0 k).length = k := by
        apply Classical.byContradiction; intro hn
        have := (e2 (ofdN xss 0 k).length (by omega)).1 (hall _ (by omega))
        omega
      rw [ofdN_yes c]
      have hl2 : (ofdN xss 0 k ++ [(k : Int)]).length = k + 1 := by rw [List.length_append, hlen]; rfl
      rw [hl2]
      refine ⟨?_, fun i hi => ⟨fun _ => by omega, fun _ => ?_⟩⟩
      · rw [List.range_succ, List.map_append]
        conv => lhs; rw [e1, hlen]
        rfl
      · by_cases e : i = k
        · subst e; omega
        · exact hall i (by omega)
    · rw [ofdN_no c]
      refine ⟨e1, fun i hi => ?_⟩
      by_cases e : i = k
      · subst e
        exact ⟨fun y => absurd (by omega) c, fun y => by omega⟩
      · exact e2 i (by omega)
/-- a vertex' name. -/
def lab (xss : List (List Int)) (v : Nat) : Int := (xss.getD v []).getD 0 0
theorem vs_get {xss : List (List Int)} (hx : CxOk xss) {v : Nat} (hv : v < (vsN xss xss.length).length) : (vsN xss xss.length).getD v 0 = lab xss v ∧ v < xss.length ∧ xss.getD v [] = [lab xss v] := by
  obtain ⟨e1, e2⟩ := pre0 hx.a (fun i hi => (hx.s i hi).1.1) xss.length (Nat.le_refl _)
  have hl := vsN_len xss xss.length
  have hle := ofdN_len xss 0 xss.length
  have hv' : v < (ofdN xss 0 xss.length).length := by omega
  have hg : (ofdN xss 0 xss.length).getD v 0 = v := by rw [e1]; simp [List.getD, hv']
  refine ⟨?_, by omega, ?_⟩
  · have : (vsN xss xss.length).getD v 0 = lab xss ((ofdN xss 0 xss.length).getD v 0).toNat := by
      unfold vsN lab; simp [List.getD, hv']
    rw [this, hg, Int.toNat_natCast]
  · have h1 := (e2 v (by omega)).2 hv'
    unfold lab
    match hq : xss.getD v [], h1 with
    | [a], _ => rfl
theorem vs_len {s : Shf} (hs : CxOk s.base) : (vsN s.base s.base.length).length ≤ 48 := by
  have h1 := hs.n
  have h2 := ofd_len h1 0
  rw [vt_len]; exact h2
theorem Own.rest {G G' : GH} {A : Option Addr} {c sz n : Nat} {cs : List Value} (h : Own G' A c cs sz n) (o : Off G A) : Own (Gh.rest G G') A c cs sz n := by
  rcases h with h | ⟨b, r, rfl, hb, h⟩
  · exact .inl h
  · exact .inr ⟨b, r, rfl, rest_some.2 ⟨o _ rfl, hb⟩, h⟩
theorem OwnR.rest {G G' : GH} {B : Option Addr} {d : Nat} {hs : Nat → Option Addr × Nat} {xss : List (List Int)} (h : OwnR G' B d hs xss) (o : Off G B) (oR : ∀ i, i < xss.length → Off G (hs i).1) : OwnR (Gh.rest G G') B d hs xss := ⟨h.out.rest o, fun i hi => (h.row i hi).rest (oR i hi), h.ne, h.inj⟩
theorem laws_szInt64SS_ok2 {G : GH} {A : Option Addr} {c : Nat} {hs : Nat → Option Addr × Nat} {xss : List (List Int)} {left : Int} (h : RowS G A c hs xss) (h0 : 0 ≤ left ∧ left ≤ 2 ^ 20) (hn : xss.length ≤ 2 ^ 63 - 1) (hn' : ∀ i, i < xss.length → (xss.getD i []).length ≤ 2 ^ 63 - 1) {K : Value → GH → Prop}
    (hk : ∀ l : Int, -1 ≤ l → l ≤ 2 ^ 20 → (0 ≤ l → l ≤ left ∧ Sm xss ∧ pre xss xss.length ≤ 2 ^ 20) → K (.int .i64 l) G) : GC Tryz.prog 89 [.slice A xss.length c, .int .i64 left] G K := by
  refine knx (by simp) ?_
  have hsn := h.sn
  have r := h.r
  simp (maxSteps := 300000) (disch := omega) only [gws, ↓reduceIte, reduceEqDiff, reduceToNat, reduceMul, reduceAdd, Nat.reduceBEq, isLd]
  by_cases h1 : left - (xss.length : Int) < 0
  · simp (maxSteps := 300000) (disch := omega) only [gws, ↓reduceIte, reduceEqDiff, reduceToNat, reduceMul, reduceAdd, Nat.reduceBEq, isLd, h1]; exact hk _ (by omega) (by omega) (by omega)
  simp (maxSteps := 300000) (disch := omega) only [gws, ↓reduceIte, reduceEqDiff, reduceToNat, reduceMul, reduceAdd, Nat.reduceBEq, isLd, h1]
  refine gLoop_intro (fun m T G' => ∃ (k : Nat) (l : Int), T 0 = .slice A xss.length c ∧ T 1 = .int .i64 l ∧ T 5 = .int .i64 k ∧ m + k = xss.length ∧ k ≤ xss.length ∧ G' = G ∧ (0 ≤ l ∧ l + pre xss k ≤ left) ∧ ∀ i, i < k → (xss.getD i []).length ≤ 2 ^ 20)
    xss.length ⟨0, _, by simp (maxSteps := 300000) (disch := omega) only [gws, ↓reduceIte, reduceEqDiff, reduceToNat, reduceMul, reduceAdd, Nat.reduceBEq, isLd], by simp (maxSteps := 300000) (disch := omega) only [gws, ↓reduceIte, reduceEqDiff, reduceToNat, reduceMul, reduceAdd, Nat.reduceBEq, isLd] <;> rfl, by simp (maxSteps := 300000) (disch := omega) only [gws, ↓reduceIte, reduceEqDiff, reduceToNat, reduceMul, reduceAdd, Nat.reduceBEq, isLd] <;> rfl, by omega, by omega, rfl, by simp only [pre]; omega, fun i hi => by omega⟩ ?_
  rintro m T G' ⟨k, l, e0, e1, e5, hm, hkl, rfl, hl, hin⟩
  simp (maxSteps := 300000) (disch := omega) only [gws, ↓reduceIte, reduceEqDiff, reduceToNat, reduceMul, reduceAdd, Nat.reduceBEq, isLd, e0, e1, e5]
  by_cases hkk : (k : Int) < xss.length
  · simp (maxSteps := 300000) (disch := omega) only [gws, ↓reduceIte, reduceEqDiff, reduceToNat, reduceMul, reduceAdd, Nat.reduceBEq, isLd, e0, e1, e5, hkk, r]
    have := hn' k (by omega)
    refine laws_szInt64S_ok ⟨by omega, by omega⟩ this fun l' q1 q2 q3 => ?_
    simp (maxSteps := 300000) (disch := omega) only [gws, ↓reduceIte, reduceEqDiff, reduceToNat, reduceMul, reduceAdd, Nat.reduceBEq, isLd, e0, e1, e5]
    by_cases h2 : l' < 0
    · simp (maxSteps := 300000) (disch := omega) only [gws, ↓reduceIte, reduceEqDiff, reduceToNat, reduceMul, reduceAdd, Nat.reduceBEq, isLd, h2]; exact hk _ (by omega) (by omega) (by omega)
    · simp (maxSteps := 300000) (disch := omega) only [gws, ↓reduceIte, reduceEqDiff, reduceToNat, reduceMul, reduceAdd, Nat.reduceBEq, isLd, h2, e0, e1, e5]
      have hp : pre xss (k + 1) = pre xss k + (xss.getD k []).length := rfl
      refine ⟨m - 1, by omega, _, Sub.refl _, k + 1, l', rfl, rfl, by omega, by omega, rfl, by omega, fun i hi => ?_⟩
      by_cases hik : i = k
      · subst hik; omega
      · exact hin i (by omega)
  · simp (maxSteps := 300000) (disch := omega) only [gws, ↓reduceIte, reduceEqDiff, reduceToNat, reduceMul, reduceAdd, Nat.reduceBEq, isLd, e0, e1, e5, hkk]
    obtain rfl : k = xss.length := by omega
    exact hk _ (by omega) (by omega) fun _ => ⟨by omega, ⟨by omega, fun i hi => hin i (by omega)⟩, by omega⟩
theorem laws_toInt64SS_new {G : GH} {A : Option Addr} {c : Nat} {hs : Nat → Option Addr × Nat} {xss : List (List Int)} (h : RowS G A c hs xss) (hsm : Sm xss) {K : Value → GH → Prop}
    (hk : ∀ A' hs' G', Sub G G' → OwnR (rest G G') A' xss.length hs' xss → K (.slice A' xss.length xss.length) G') : GC Tryz.prog 96 [.slice A xss.length c] G K := by
  refine kpr (by simp) ?_
  have hsn := h.sn
  obtain ⟨hs1, hs2⟩ := hsm
  simp (maxSteps := 300000) (disch := omega) only [gws, ↓reduceIte, reduceEqDiff, reduceToNat, reduceMul, reduceAdd, Nat.reduceBEq, isLd]
  refine ⟨xss.length, xss.length, rfl, rfl, Nat.le_refl _, by omega, by omega, fun b hb => ?_⟩
  simp (maxSteps := 300000) (disch := omega) only [gws, ↓reduceIte, reduceEqDiff, reduceToNat, reduceMul, reduceAdd, Nat.reduceBEq, isLd]
  refine gLoop_intro (fun m T G' => ∃ (k : Nat) (bs : Nat → Nat), T 0 = .slice A xss.length c ∧ T 3 = .slice (some ⟨b, 0, none⟩) xss.length xss.length ∧ T 4 = .int .i64 k ∧ m + k = xss.length ∧ k ≤ xss.length ∧ Sub G G' ∧
    G' b = some ⟨(List.range k).map (fun i => Value.slice (some ⟨bs i, 0, none⟩) (xss.getD i []).length (xss.getD i []).length) ++ List.replicate (xss.length - k) (.slice none 0 0), true⟩ ∧ (∀ i, i < k → bs i ≠ b ∧ G (bs i) = none ∧ G' (bs i) = some ⟨(xss.getD i []).map I64, true⟩) ∧ ∀ i j, i < k → j < k → i ≠ j → bs i ≠ bs j)
    xss.length ⟨0, fun _ => 0, by simp (maxSteps := 300000) (disch := omega) only [gws, ↓reduceIte, reduceEqDiff, reduceToNat, reduceMul, reduceAdd, Nat.reduceBEq, isLd], by simp (maxSteps := 300000) (disch := omega) only [gws, ↓reduceIte, reduceEqDiff, reduceToNat, reduceMul, reduceAdd, Nat.reduceBEq, isLd], by simp (maxSteps := 300000) (disch := omega) only [gws, ↓reduceIte, reduceEqDiff, reduceToNat, reduceMul, reduceAdd, Nat.reduceBEq, isLd] <;> rfl, by omega, by omega, Sub.put hb _, by rw [put_same, zc_one]; simp, fun i hi => by omega, fun i j hi => by omega⟩ ?_
  rintro m T G' ⟨k, bs, e0, e3, e4, hm, hkl, hS, hB, hR, hI⟩
  have hh := h.sub hS
  have r := hh.r
  simp (maxSteps := 300000) (disch := omega) only [gws, ↓reduceIte, reduceEqDiff, reduceToNat, reduceMul, reduceAdd, Nat.reduceBEq, isLd, e0, e3, e4]
  by_cases hkk : (k : Int) < xss.length
  · simp (maxSteps := 300000) (disch := omega) only [gws, ↓reduceIte, reduceEqDiff, reduceToNat, reduceMul, reduceAdd, Nat.reduceBEq, isLd, e0, e3, e4, hkk, r]
    refine laws_toInt64S_ok (hh.row k (by omega)) (hs2 k (by omega)) fun b2 hb2 => ?_
    have n2 : b ≠ b2 := fun e => by rw [e, hb2] at hB; cases hB
    simp (maxSteps := 300000) (disch := omega) only [gws, ↓reduceIte, reduceEqDiff, reduceToNat, reduceMul, reduceAdd, Nat.reduceBEq, isLd, e0, e3, e4]
    refine st_one (by rw [put_ne _ _ n2]; exact hB) (by simp; omega) rfl ?_
    simp (maxSteps := 300000) (disch := omega) only [gws, ↓reduceIte, reduceEqDiff, reduceToNat, reduceMul, reduceAdd, Nat.reduceBEq, isLd, e0, e3, e4]
    refine ⟨m - 1, by omega, _, Sub.refl _, k + 1, fun i => if i = k then b2 else bs i, rfl, by omega, by omega, (hS.trans (Sub.put hb2 _)).skip hb, ?_, fun i hi => ?_, fun i j hi hj hij => ?_⟩
    · rw [put_same]
      congr 2
      rw [List.set_append_right _ _ (by simp)]
      simp only [List.length_map, List.length_range, Nat.sub_self]
      rw [show xss.length - k = (xss.length - (k + 1)) + 1 by omega, List.replicate_succ, List.set_cons_zero, List.range_succ, List.map_append, List.append_assoc]
      congr 1
      · exact List.map_congr_left fun i hi => by rw [if_neg (by have := List.mem_range.1 hi; omega)]
      · simp
    · dsimp only
      by_cases hik : i = k
      · subst hik
        rw [if_pos rfl]
        exact ⟨fun e => n2 e.symm, hS.none hb2, by rw [put_ne _ _ (fun e => n2 e.symm)]; exact put_same _ _ _⟩
      · rw [if_neg hik]
        obtain ⟨q1, q0, q2⟩ := hR i (by omega)
        have q3 : bs i ≠ b2 := fun e => by rw [e, hb2] at q2; cases q2
        exact ⟨q1, q0, by rw [put_ne _ _ q1, put_ne _ _ q3]; exact q2⟩
    · have nb : ∀ i, i < k → bs i ≠ b2 := fun i hi e => by have := (hR i hi).2.2; rw [e, hb2] at this; cases this
      by_cases ci : i = k
      · have cj : ¬ j = k := fun e => hij (ci.trans e.symm)
        simp only [if_pos ci, if_neg cj]
        exact (nb j (by omega)).symm
      · by_cases cj : j = k
        · simp only [if_neg ci, if_pos cj]; exact nb i (by omega)
        · simp only [if_neg ci, if_neg cj]; exact hI i j (by omega) (by omega) hij
  · simp (maxSteps := 300000) (disch := omega) only [gws, ↓reduceIte, reduceEqDiff, reduceToNat, reduceMul, reduceAdd, Nat.reduceBEq, isLd, e0, e3, e4, hkk]
    obtain rfl : k = xss.length := by omega
    refine hk _ (fun i => (some ⟨bs i, 0, none⟩, (xss.getD i []).length)) _ hS ⟨?_, fun i hi => ?_, fun i hi a b' ha hb' => by cases ha; cases hb'; exact (hR i hi).1, fun i j hi hj hij a b' ha hb' => by cases ha; cases hb'; exact hI i j hi hj hij⟩
    · refine .inr ⟨b, [], rfl, ?_, by simp, by simp, Nat.le_refl _⟩
      rw [List.append_nil]
      have := rest_some.2 ⟨hb, hB⟩
      rw [Nat.sub_self, List.replicate_zero, List.append_nil] at this
      exact this
    · refine .inr ⟨bs i, [], rfl, ?_, by simp, by simp, Nat.le_refl _⟩
      rw [List.append_nil]
      exact rest_some.2 (hR i hi).2
theorem OwnR.offs {G G' : GH} {B : Option Addr} {d : Nat} {hs : Nat → Option Addr × Nat} {xss : List (List Int)} (h : OwnR (Gh.rest G G') B d hs xss) : Off G B ∧ ∀ i, i < xss.length → Off G (hs i).1 := by
  have key : ∀ {A : Option Addr} {c sz n : Nat} {cs : List Value}, Own (Gh.rest G G') A c cs sz n → Off G A := fun h a ha => by
    rcases h with ⟨h, _⟩ | ⟨b, r, h1, h2, _⟩
    · rw [h] at ha; cases ha
    · rw [h1] at ha; cases ha; exact (rest_some.1 h2).1
  exact ⟨key h.out, fun i hi => key (h.row i hi)⟩
theorem laws_markInt64SS_ok {G : GH} {B : Option Addr} {d : Nat} {hs : Nat → Option Addr × Nat} {xss : List (List Int)} {k : Int} (h : OwnR G B d hs xss) (hsm : Sm xss) (hp : pre xss xss.length ≤ 2 ^ 30) (hk0 : 0 ≤ k ∧ k ≤ 2 ^ 30) {K : Value → GH → Prop}
    (hk : ∀ G', Oth (rowB hs xss.length) G G' → OwnR G' B d hs (mks k xss) → K (.int .i64 (k + pre xss xss.length)) G') : GC Tryz.prog 108 [.slice B xss.length d, .int .i64 k] G K := by
  refine kme (by simp) ?_
  obtain ⟨hs1, hs2⟩ := hsm
  have pm : ∀ i, i ≤ xss.length → pre xss i ≤ pre xss xss.length := by
    intro i hi
    obtain ⟨e, he⟩ : ∃ e, xss.length = i + e := ⟨xss.length - i, by omega⟩
    rw [he]
    clear he hi
    induction e with
    | zero => exact Nat.le_refl _
    | succ e ih => exact Nat.le_trans ih (Nat.le_add_right _ _)
  simp (maxSteps := 300000) (disch := omega) only [gws, ↓reduceIte, reduceEqDiff, reduceToNat, reduceMul, reduceAdd, Nat.reduceBEq, isLd]
  refine gLoop_intro (fun m T G' => ∃ i : Nat, T 0 = .slice B xss.length d ∧ T 1 = .int .i64 (k + pre xss i) ∧ T 5 = .int .i64 i ∧ m + i = xss.length ∧ i ≤ xss.length ∧ Oth (rowB hs xss.length) G G' ∧ OwnR G' B d hs (midR k xss i)) xss.length
    ⟨0, by simp (maxSteps := 300000) (disch := omega) only [gws, ↓reduceIte, reduceEqDiff, reduceToNat, reduceMul, reduceAdd, Nat.reduceBEq, isLd], by simp (maxSteps := 300000) (disch := omega) only [gws, ↓reduceIte, reduceEqDiff, reduceToNat, reduceMul, reduceAdd, Nat.reduceBEq, isLd] <;> simp [pre], by simp (maxSteps := 300000) (disch := omega) only [gws, ↓reduceIte, reduceEqDiff, reduceToNat, reduceMul, reduceAdd, Nat.reduceBEq, isLd] <;> rfl, by omega, by omega, Oth.refl _ _, by rw [midR_zero]; exact h⟩ ?_
  rintro m T G' ⟨i, e0, e1, e5, hm, hil, hO, hW⟩
  simp (maxSteps := 300000) (disch := omega) only [gws, ↓reduceIte, reduceEqDiff, reduceToNat, reduceMul, reduceAdd, Nat.reduceBEq, isLd, e0, e1, e5]
  by_cases hii : (i : Int) < xss.length
  · have hrow := hW.rows.r i (by rw [midR_len]; omega)
    have hsB := hW.rows.sn (by rw [midR_len]; omega)
    have hlen : ((midR k xss i).getD i []).length = (xss.getD i []).length := by rw [midR_get (by omega), if_neg (by omega)]
    rw [hlen] at hrow
    have hOwn := hW.row i (by rw [midR_len]; omega)
    rw [hlen] at hOwn
    simp (maxSteps := 300000) (disch := omega) only [gws, ↓reduceIte, reduceEqDiff, reduceToNat, reduceMul, reduceAdd, Nat.reduceBEq, isLd, e0, e1, e5, hii, hrow]
    have h1 := pm i (by omega)
    have h2 := hs2 i (by omega)
    refine laws_markInt64S_ok hOwn (by omega) (by omega) fun G4 u hw => ?_
    simp (maxSteps := 300000) (disch := omega) only [gws, ↓reduceIte, reduceEqDiff, reduceToNat, reduceMul, reduceAdd, Nat.reduceBEq, isLd, e0, e1, e5]
    have hp1 : pre xss (i + 1) = pre xss i + (xss.getD i []).length := rfl
    refine ⟨m - 1, by omega, G4, Sub.refl _, i + 1, by rw [hp1]; congr 1; omega, rfl, by omega, by omega, hO.trans (u.oth.mono fun x ⟨a, ha, hx⟩ => ⟨i, by omega, a, ha, hx⟩), ?_⟩
    refine hW.set (by rw [midR_len]; omega) u (by rw [midR_len, midR_len]) ?_ (fun j hj hji => ?_) ?_
    · rw [hlen, midR_get (by omega), if_pos (by omega), marks_len]
    · rw [midR_len] at hj
      rw [midR_get hj, midR_get hj]
      by_cases c : j < i
      · rw [if_pos c, if_pos (by omega)]
      · rw [if_neg c, if_neg (by omega)]
    · rw [midR_get (by omega), if_pos (by omega), marks_len]; exact hw
  · simp (maxSteps := 300000) (disch := omega) only [gws, ↓reduceIte, reduceEqDiff, reduceToNat, reduceMul, reduceAdd, Nat.reduceBEq, isLd, e0, e1, e5, hii]
    obtain rfl : i = xss.length := by omega
    rw [midR_all] at hW
    exact hk G' hO hW
/-- how many numbers lie ahead of a matrix. -/
def preM (ms : List Mt) : Nat → Nat
  | 0 => 0
  | j + 1 => preM ms j + (ms.getD j m0).m.length
theorem mtC_oneF (M : Mt) (A : Option Addr) (k : Nat) : ∀ v ∈ mtC M A k, oneB v = true := by
  intro v hv; simp [mtC] at hv; rcases hv with rfl | rfl | rfl | rfl <;> rfl
theorem laws_szMatrix_ok {G : GH} {M : Mt} {A : Option Addr} {c : Nat} {left : Int} (h0 : 0 ≤ left ∧ left ≤ 2 ^ 20) (hn : M.m.length ≤ 2 ^ 63 - 1) {K : Value → GH → Prop}
    (hk : ∀ l : Int, -1 ≤ l → l ≤ 2 ^ 20 → (0 ≤ l → l + M.m.length ≤ left) → K (.int .i64 l) G) : GC Tryz.prog 90 [mtV M A c, .int .i64 left] G K := by
  refine GC_drop (ko5 (by simp) ?_)
  unfold mtV mtC
  simp (maxSteps := 300000) (disch := omega) only [gws, ↓reduceIte, reduceEqDiff, reduceToNat, reduceMul, reduceAdd, Nat.reduceBEq, isLd]
  intro b1 hb1
  have s1 := Sub.put hb1 ⟨[.int .i64 M.p, .int .i64 M.r, .int .i64 M.c, .slice A M.m.length c], true⟩
  simp (maxSteps := 300000) (disch := omega) only [gws, ↓reduceIte, reduceEqDiff, reduceToNat, reduceMul, reduceAdd, Nat.reduceBEq, isLd]
  refine laws_szInt64S_ok ⟨by omega, by omega⟩ hn fun l q1 q2 q3 => ?_
  simp (maxSteps := 300000) (disch := omega) only [gws, ↓reduceIte, reduceEqDiff, reduceToNat, reduceMul, reduceAdd, Nat.reduceBEq, isLd]
  by_cases h1 : l < 0
  · simp (maxSteps := 300000) (disch := omega) only [gws, ↓reduceIte, reduceEqDiff, reduceToNat, reduceMul, reduceAdd, Nat.reduceBEq, isLd, h1]; exact ⟨G, s1, hk _ (by omega) (by omega) (by omega)⟩
  simp (maxSteps := 300000) (disch := omega) only [gws, ↓reduceIte, reduceEqDiff, reduceToNat, reduceMul, reduceAdd, Nat.reduceBEq, isLd, h1]
  exact ⟨G, s1, hk _ (by omega) (by omega) fun _ => by have := q3 (by omega); omega⟩
theorem laws_szMatrixS_ok {G : GH} {A : Option Addr} {c : Nat} {Hm : Nat → Option Addr × Nat} {ms : List Mt} {left : Int} (h : MsS G A c Hm ms) (h0 : 0 ≤ left ∧ left ≤ 2 ^ 20) (hn : ms.length ≤ 2 ^ 63 - 1) (hn' : ∀ i, i < ms.length → (ms.getD i m0).m.length ≤ 2 ^ 63 - 1) {K : Value → GH → Prop}
    (hk : ∀ l : Int, -1 ≤ l → l ≤ 2 ^ 20 → (0 ≤ l → ms.length ≤ 2 ^ 20 ∧ preM ms ms.length ≤ 2 ^ 20 ∧ ∀ i, i < ms.length → (ms.getD i m0).m.length ≤ 2 ^ 20) → K (.int .i64 l) G) : GC Tryz.prog 44 [.slice A ms.length c, .int .i64 left] G K := by
  refine kok (by simp) ?_
  have hsn := h.sn
  have r0 := h.r0
  have r1 := h.r1
  have r2 := h.r2
  have r3 := h.r3
  simp (maxSteps := 300000) (disch := omega) only [gws, ↓reduceIte, reduceEqDiff, reduceToNat, reduceMul, reduceAdd, Nat.reduceBEq, isLd]
  by_cases h1 : left - (ms.length : Int) < 0
  · simp (maxSteps := 300000) (disch := omega) only [gws, ↓reduceIte, reduceEqDiff, reduceToNat, reduceMul, reduceAdd, Nat.reduceBEq, isLd, h1]; exact hk _ (by omega) (by omega) (by omega)
  simp (maxSteps := 300000) (disch := omega) only [gws, ↓reduceIte, reduceEqDiff, reduceToNat, reduceMul, reduceAdd, Nat.reduceBEq, isLd, h1]
  refine gLoop_intro (fun m T G' => ∃ (k : Nat) (l : Int), T 0 = .slice A ms.length c ∧ T 1 = .int .i64 l ∧ T 5 = .int .i64 k ∧ m + k = ms.length ∧ k ≤ ms.length ∧ G' = G ∧ (0 ≤ l ∧ l + preM ms k ≤ left) ∧ ∀ i, i < k → (ms.getD i m0).m.length ≤ 2 ^ 20)
    ms.length ⟨0, _, by simp (maxSteps := 300000) (disch := omega) only [gws, ↓reduceIte, reduceEqDiff, reduceToNat, reduceMul, reduceAdd, Nat.reduceBEq, isLd], by simp (maxSteps := 300000) (disch := omega) only [gws, ↓reduceIte, reduceEqDiff, reduceToNat, reduceMul, reduceAdd, Nat.reduceBEq, isLd] <;> rfl, by simp (maxSteps := 300000) (disch := omega) only [gws, ↓reduceIte, reduceEqDiff, reduceToNat, reduceMul, reduceAdd, Nat.reduceBEq, isLd] <;> rfl, by omega, by omega, rfl, by simp only [preM]; omega, fun i hi => by omega⟩ ?_
  rintro m T G' ⟨k, l, e0, e1, e5, hm, hkl, rfl, hl, hin⟩
  simp (maxSteps := 300000) (disch := omega) only [gws, ↓reduceIte, reduceEqDiff, reduceToNat, reduceMul, reduceAdd, Nat.reduceBEq, isLd, e0, e1, e5]
  by_cases hkk : (k : Int) < ms.length
  · simp (maxSteps := 300000) (disch := omega) only [gws, ↓reduceIte, reduceEqDiff, reduceToNat, reduceMul, reduceAdd, Nat.reduceBEq, isLd, e0, e1, e5, hkk, r0, r1, r2, r3]
    refine laws_szMatrix_ok (M := ms.getD k m0) ⟨by omega, by omega⟩ (hn' k (by omega)) fun l' q1 q2 q3 => ?_
    simp (maxSteps := 300000) (disch := omega) only [gws, ↓reduceIte, reduceEqDiff, reduceToNat, reduceMul, reduceAdd, Nat.reduceBEq, isLd, e0, e1, e5]
    by_cases h2 : l' < 0
    · simp (maxSteps := 300000) (disch := omega) only [gws, ↓reduceIte, reduceEqDiff, reduceToNat, reduceMul, reduceAdd, Nat.reduceBEq, isLd, h2]; exact hk _ (by omega) (by omega) (by omega)
    · simp (maxSteps := 300000) (disch := omega) only [gws, ↓reduceIte, reduceEqDiff, reduceToNat, reduceMul, reduceAdd, Nat.reduceBEq, isLd, h2, e0, e1, e5]
      have q4 := q3 (by omega)
      have hp : preM ms (k + 1) = preM ms k + (ms.getD k m0).m.length := rfl
      refine ⟨m - 1, by omega, _, Sub.refl _, k + 1, l', rfl, rfl, by omega, by omega, rfl, by omega, fun i hi => ?_⟩
      by_cases hik : i = k
      · subst hik; omega
      · exact hin i (by omega)
  · simp (maxSteps := 300000) (disch := omega) only [gws, ↓reduceIte, reduceEqDiff, reduceToNat, reduceMul, reduceAdd, Nat.reduceBEq, isLd, e0, e1, e5, hkk]
    obtain rfl : k = ms.length := by omega
    exact hk _ (by omega) (by omega) fun _ => ⟨by omega, by omega, fun i hi => hin i (by omega)⟩
theorem laws_toMatrix_new {G : GH} {M : Mt} {A : Option Addr} {c : Nat} (h : IntS G A c M.m) (hl : M.m.length ≤ 2 ^ 20) {K : Value → GH → Prop}
    (hk : ∀ b, G b = none → K (mtV M (some ⟨b, 0, none⟩) M.m.length) (put G b ⟨M.m.map I64, true⟩)) : GC Tryz.prog 97 [mtV M A c] G K := by
  refine GC_drop (kq1 (by simp) ?_)
  unfold mtV mtC
  simp (maxSteps := 300000) (disch := omega) only [gws, ↓reduceIte, reduceEqDiff, reduceToNat, reduceMul, reduceAdd, Nat.reduceBEq, isLd]
  intro b1 hb1
  simp (maxSteps := 300000) (disch := omega) only [gws, ↓reduceIte, reduceEqDiff, reduceToNat, reduceMul, reduceAdd, Nat.reduceBEq, isLd]
  intro b2 hb2
  simp (maxSteps := 300000) (disch := omega) only [gws, ↓reduceIte, reduceEqDiff, reduceToNat, reduceMul, reduceAdd, Nat.reduceBEq, isLd]
  intro b3 hb3
  simp only [put_none] at hb2 hb3
  obtain ⟨n12, f2⟩ := hb2
  obtain ⟨n23, n13, f3⟩ := hb3
  simp (maxSteps := 300000) (disch := omega) only [gws, ↓reduceIte, reduceEqDiff, reduceToNat, reduceMul, reduceAdd, Nat.reduceBEq, isLd]
  refine st_one (put_same _ _ _) (by simp) rfl ?_
  simp (maxSteps := 300000) (disch := omega) only [gws, ↓reduceIte, reduceEqDiff, reduceToNat, reduceMul, reduceAdd, Nat.reduceBEq, isLd]
  refine st_one (put_same _ _ _) (by simp) rfl ?_
  simp (maxSteps := 300000) (disch := omega) only [gws, ↓reduceIte, reduceEqDiff, reduceToNat, reduceMul, reduceAdd, Nat.reduceBEq, isLd]
  refine st_one (put_same _ _ _) (by simp) rfl ?_
  simp (maxSteps := 300000) (disch := omega) only [gws, ↓reduceIte, reduceEqDiff, reduceToNat, reduceMul, reduceAdd, Nat.reduceBEq, isLd]
  refine laws_toInt64S_ok (h.sub ((((Sub.refl G).skip hb1).skip f2).skip f3)) hl fun b4 hb4 => ?_
  simp only [put_none] at hb4
  obtain ⟨n34, n24, n14, f4⟩ := hb4
  simp (maxSteps := 300000) (disch := omega) only [gws, ↓reduceIte, reduceEqDiff, reduceToNat, reduceMul, reduceAdd, Nat.reduceBEq, isLd]
  refine st_one (by rw [put_ne _ _ (by omega)]; exact put_same _ _ _) (by simp) rfl ?_
  simp (maxSteps := 300000) (disch := omega) only [gws, ↓reduceIte, reduceEqDiff, reduceToNat, reduceMul, reduceAdd, Nat.reduceBEq, isLd]
  refine st_many (vs := mtC M (some ⟨b4, 0, none⟩) M.m.length) rfl (by rw [put_ne _ _ (by omega), put_ne _ _ (by omega), put_ne _ _ (by omega)]; exact put_same _ _ _) rfl (by simp) (mtC_oneF _ _ _) ?_
  simp (maxSteps := 300000) (disch := omega) only [gws, ↓reduceIte, reduceEqDiff, reduceToNat, reduceMul, reduceAdd, Nat.reduceBEq, isLd, over, mtC]
  refine ⟨_, ?_, hk b4 f4⟩
  refine Sub.skip (Sub.skip (Sub.both ((((Sub.refl G).skip hb1).skip f2).skip f3)) ?_) ?_
  · rw [put_none]; exact ⟨by omega, f3⟩
  · rw [put_none]; exact ⟨by omega, f2⟩
theorem laws_eqMatrix_ok {G : GH} {M : Mt} {A B : Option Addr} {c d : Nat} (h : IntS G A c M.m) (h' : IntS G B d M.m) (hl : M.m.length < 2 ^ 40) {K : Value → GH → Prop} (hk : K (.bool true) G) : GC Tryz.prog 107 [mtV M A c, mtV M B d] G K := by
  refine GC_drop (kkl (by simp) ?_)
  unfold mtV mtC
  simp (maxSteps := 300000) (disch := omega) only [gws, ↓reduceIte, reduceEqDiff, reduceToNat, reduceMul, reduceAdd, Nat.reduceBEq, isLd]
  intro b1 hb1
  simp (maxSteps := 300000) (disch := omega) only [gws, ↓reduceIte, reduceEqDiff, reduceToNat, reduceMul, reduceAdd, Nat.reduceBEq, isLd]
  intro b2 hb2
  simp only [put_none] at hb2
  obtain ⟨n12, f2⟩ := hb2
  have hs := ((Sub.refl G).skip hb1 (e := ⟨[.int .i64 M.p, .int .i64 M.r, .int .i64 M.c, .slice A M.m.length c], true⟩)).skip f2 (e := ⟨[.int .i64 M.p, .int .i64 M.r, .int .i64 M.c, .slice B M.m.length d], true⟩)
  have t0 : decide (¬ M.p = M.p) = false := by simp
  have t1 : decide (¬ M.r = M.r) = false := by simp
  have t2 : decide (¬ M.c = M.c) = false := by simp
  simp (maxSteps := 300000) (disch := omega) only [gws, ↓reduceIte, reduceEqDiff, reduceToNat, reduceMul, reduceAdd, Nat.reduceBEq, isLd, t0, t1, t2]
  refine laws_eqInt64S_ok (h.sub hs) (h'.sub hs) hl ?_
  simp (maxSteps := 300000) (disch := omega) only [gws, ↓reduceIte, reduceEqDiff, reduceToNat, reduceMul, reduceAdd, Nat.reduceBEq, isLd, eq_self]
  exact ⟨G, hs, hk⟩
theorem laws_eqMatrixS_ok {G : GH} {A B : Option Addr} {c d : Nat} {Ha Hb : Nat → Option Addr × Nat} {ms : List Mt} (h : MsS G A c Ha ms) (h' : MsS G B d Hb ms) (hn : ms.length ≤ 2 ^ 40) (hn' : ∀ i, i < ms.length → (ms.getD i m0).m.length ≤ 2 ^ 20) {K : Value → GH → Prop} (hk : K (.bool true) G) : GC Tryz.prog 52 [.slice A ms.length c, .slice B ms.length d] G K := by
  refine kky (by simp) ?_
  have hsn := h.sn
  have hsn' := h'.sn
  have r0 := h.r0
  have r1 := h.r1
  have r2 := h.r2
  have r3 := h.r3
  have u0 := h'.r0
  have u1 := h'.r1
  have u2 := h'.r2
  have u3 := h'.r3
  have t0 : decide (¬ (ms.length : Int) = ms.length) = false := by simp
  simp (maxSteps := 300000) (disch := omega) only [gws, ↓reduceIte, reduceEqDiff, reduceToNat, reduceMul, reduceAdd, Nat.reduceBEq, isLd, t0]
  refine gLoop_intro (fun m T G' => ∃ k : Nat, T 0 = .slice A ms.length c ∧ T 1 = .slice B ms.length d ∧ T 5 = .int .i64 k ∧ m + k = ms.length ∧ k ≤ ms.length ∧ G' = G)
    ms.length ⟨0, by simp (maxSteps := 300000) (disch := omega) only [gws, ↓reduceIte, reduceEqDiff, reduceToNat, reduceMul, reduceAdd, Nat.reduceBEq, isLd], by simp (maxSteps := 300000) (disch := omega) only [gws, ↓reduceIte, reduceEqDiff, reduceToNat, reduceMul, reduceAdd, Nat.reduceBEq, isLd], by simp (maxSteps := 300000) (disch := omega) only [gws, ↓reduceIte, reduceEqDiff, reduceToNat, reduceMul, reduceAdd, Nat.reduceBEq, isLd] <;> rfl, by omega, by omega, rfl⟩ ?_
  rintro m T G' ⟨k, e0, e1, e5, hm, hkl, rfl⟩
  simp (maxSteps := 300000) (disch := omega) only [gws, ↓reduceIte, reduceEqDiff, reduceToNat, reduceMul, reduceAdd, Nat.reduceBEq, isLd, e0, e1, e5]
  by_cases hkk : (k : Int) < ms.length
  · simp (maxSteps := 300000) (disch := omega) only [gws, ↓reduceIte, reduceEqDiff, reduceToNat, reduceMul, reduceAdd, Nat.reduceBEq, isLd, e0, e1, e5, hkk, r0, r1, r2, r3, u0, u1, u2, u3]
    have := hn' k (by omega)
    refine laws_eqMatrix_ok (M := ms.getD k m0) (h.m k (by omega)) (h'.m k (by omega)) (by omega) ?_
    simp (maxSteps := 300000) (disch := omega) only [gws, ↓reduceIte, reduceEqDiff, reduceToNat, reduceMul, reduceAdd, Nat.reduceBEq, isLd, e0, e1, e5]
    exact ⟨m - 1, by omega, _, Sub.refl _, k + 1, rfl, by omega, by omega, rfl⟩
  · simp (maxSteps := 300000) (disch := omega) only [gws, ↓reduceIte, reduceEqDiff, reduceToNat, reduceMul, reduceAdd, Nat.reduceBEq, isLd, e0, e1, e5, hkk]
    exact hk
def cellsM (H : Nat → Option Addr × Nat) (ms : List Mt) : List Value := (List.range ms.length).flatMap fun i => mtC (ms.getD i m0) (H i).1 (H i).2
theorem cellsG_len (f : Nat → List Value) (hf : ∀ i, (f i).length = 4) : ∀ n, ((List.range n).flatMap f).length = n * 4
  | 0 => rfl
  | n + 1 => by rw [List.range_succ, List.flatMap_append, List.length_append, cellsG_len f hf n]; simp [hf]; omega
theorem cellsG_get (f : Nat → List Value) (hf : ∀ i, (f i).length = 4) : ∀ n i k, i < n → k < 4 → ((List.range n).flatMap f)[i * 4 + k]? = (f i)[k]?
  | 0, i, k, h, _ => by omega
  | n + 1, i, k, h, hk => by
    rw [List.range_succ, List.flatMap_append]
    by_cases hin : i = n
    · subst hin
      rw [List.getElem?_append_right (by rw [cellsG_len f hf]; omega), cellsG_len f hf]
      simp only [List.flatMap_cons, List.flatMap_nil, List.append_nil]
      congr 1; omega
    · rw [List.getElem?_append_left (by rw [cellsG_len f hf]; omega)]
      exact cellsG_get f hf n i k (by omega) hk
theorem cellsM_len (H : Nat → Option Addr × Nat) (ms : List Mt) : (cellsM H ms).length = ms.length * 4 := cellsG_len _ (fun _ => rfl) _
theorem cellsM_at {H : Nat → Option Addr × Nat} {ms : List Mt} {i k : Nat} (hi : i < ms.length) (hk : k < 4) : (cellsM H ms)[i * 4 + k]? = (mtC (ms.getD i m0) (H i).1 (H i).2)[k]? := cellsG_get _ (fun _ => rfl) _ i k hi hk
/-- a list of matrices, each with cells of its own. -/
structure OwnMS (G : GH) (A : Option Addr) (c : Nat) (H : Nat → Option Addr × Nat) (ms : List Mt) : Prop where
  out : Own G A c (cellsM H ms) 4 ms.length
  cel : ∀ i, i < ms.length → Own G (H i).1 (H i).2 ((ms.getD i m0).m.map I64) 1 (ms.getD i m0).m.length
  ne : ∀ i, i < ms.length → ∀ a b, (H i).1 = some a → A = some b → a.block ≠ b.block
  inj : ∀ i j, i < ms.length → j < ms.length → i ≠ j → ∀ a b, (H i).1 = some a → (H j).1 = some b → a.block ≠ b.block
theorem OwnMS.sub {G G' : GH} {A : Option Addr} {c : Nat} {H : Nat → Option Addr × Nat} {ms : List Mt} (h : OwnMS G A c H ms) (s : Sub G G') : OwnMS G' A c H ms := ⟨h.out.sub s, fun i hi => (h.cel i hi).sub s, h.ne, h.inj⟩
theorem OwnMS.mss {G : GH} {A : Option Addr} {c : Nat} {H : Nat → Option Addr × Nat} {ms : List Mt} (h : OwnMS G A c H ms) : MsS G A c H ms := by
  have k : ∀ i k, i < ms.length → k < 4 → ∀ v, (mtC (ms.getD i m0) (H i).1 (H i).2)[k]? = some v → rd G (pa A (i * 4 + k)) = some v := fun i k hi hk v hv => h.out.cells _ _ (by rw [cellsM_at hi hk]; exact hv)
  exact ⟨h.out.cap, fun i hi => k i 0 hi (by omega) _ rfl, fun i hi => k i 1 hi (by omega) _ rfl, fun i hi => k i 2 hi (by omega) _ rfl, fun i hi => k i 3 hi (by omega) _ rfl, fun i hi => (h.cel i hi).ints⟩
/-- the blocks of a list of lists, of a list. -/
def lB (A : Option Addr) (hs : Nat → Option Addr × Nat) (n : Nat) : Nat → Prop := fun x => (∃ a, A = some a ∧ a.block = x) ∨ rowB hs n x
def sB (S : Option Addr) : Nat → Prop := fun x => ∃ a, S = some a ∧ a.block = x
theorem OwnMS.on {G : GH} {A : Option Addr} {c : Nat} {H : Nat → Option Addr × Nat} {ms : List Mt} (h : OwnMS G A c H ms) : ∀ x, lB A H ms.length x → G x ≠ none := by
  rintro x (⟨a, ha, rfl⟩ | ⟨i, hi, a, ha, rfl⟩)
  · exact own_ne h.out a ha
  · exact own_ne (h.cel i hi) a ha
theorem OwnR.on {G : GH} {A : Option Addr} {c : Nat} {H : Nat → Option Addr × Nat} {ms : List (List Int)} (h : OwnR G A c H ms) : ∀ x, lB A H ms.length x → G x ≠ none := by
  rintro x (⟨a, ha, rfl⟩ | ⟨i, hi, a, ha, rfl⟩)
  · exact own_ne h.out a ha
  · exact own_ne (h.row i hi) a ha
theorem Own.on {G : GH} {A : Option Addr} {c sz n : Nat} {cs : List Value} (h : Own G A c cs sz n) : ∀ x, sB A x → G x ≠ none := by
  rintro x ⟨a, ha, rfl⟩; exact own_ne h a ha
theorem on_rest {G G' : GH} {x : Nat} (h : rest G G' x ≠ none) : G x = none := by
  cases hr : rest G G' x with
  | none => exact absurd hr h
  | some e => exact (rest_some.1 hr).1
theorem OwnMS.oth {G G' : GH} {S : Nat → Prop} {A : Option Addr} {c : Nat} {H : Nat → Option Addr × Nat} {ms : List Mt} (h : OwnMS G A c H ms) (u : Oth S G G') (o : ∀ x, lB A H ms.length x → ¬ S x) : OwnMS G' A c H ms :=
  ⟨h.out.oth u fun a ha => o _ (.inl ⟨a, ha, rfl⟩), fun i hi => (h.cel i hi).oth u fun a ha => o _ (.inr ⟨i, hi, a, ha, rfl⟩), h.ne, h.inj⟩
theorem OwnMS.rest {G G' : GH} {A : Option Addr} {c : Nat} {H : Nat → Option Addr × Nat} {ms : List Mt} (h : OwnMS G' A c H ms) (o : ∀ x, lB A H ms.length x → G x = none) : OwnMS (Gh.rest G G') A c H ms :=
  ⟨h.out.rest fun a ha => o _ (.inl ⟨a, ha, rfl⟩), fun i hi => (h.cel i hi).rest fun a ha => o _ (.inr ⟨i, hi, a, ha, rfl⟩), h.ne, h.inj⟩
theorem laws_toMatrixS_new {G : GH} {A : Option Addr} {c : Nat} {Hm : Nat → Option Addr × Nat} {ms : List Mt} (h : MsS G A c Hm ms) (hn : ms.length ≤ 2 ^ 20) (hn' : ∀ i, i < ms.length → (ms.getD i m0).m.length ≤ 2 ^ 20) {K : Value → GH → Prop}
    (hk : ∀ A' H' G', Sub G G' → OwnMS (rest G G') A' ms.length H' ms → K (.slice A' ms.length ms.length) G') : GC Tryz.prog 48 [.slice A ms.length c] G K := by
  refine kqc (by simp) ?_
  have hsn := h.sn
  simp (maxSteps := 300000) (disch := omega) only [gws, ↓reduceIte, reduceEqDiff, reduceToNat, reduceMul, reduceAdd, Nat.reduceBEq, isLd]
  refine ⟨ms.length, ms.length, rfl, rfl, Nat.le_refl _, by omega, by omega, fun b hb => ?_⟩
  simp (maxSteps := 300000) (disch := omega) only [gws, ↓reduceIte, reduceEqDiff, reduceToNat, reduceMul, reduceAdd, Nat.reduceBEq, isLd]
  have hfl : ∀ (bs : Nat → Nat) j, ((List.range j).flatMap (fun i => mtC (ms.getD i m0) (some ⟨bs i, 0, none⟩) (ms.getD i m0).m.length)).length = j * 4 := fun bs j => cellsG_len _ (fun _ => rfl) j
  refine gLoop_intro (fun m T G' => ∃ (k : Nat) (bs : Nat → Nat) (z : List Value), T 0 = .slice A ms.length c ∧ T 3 = .slice (some ⟨b, 0, none⟩) ms.length ms.length ∧ T 4 = .int .i64 k ∧ m + k = ms.length ∧ k ≤ ms.length ∧ Sub G G' ∧
    G' b = some ⟨((List.range k).flatMap (fun i => mtC (ms.getD i m0) (some ⟨bs i, 0, none⟩) (ms.getD i m0).m.length)) ++ z, true⟩ ∧ z.length = (ms.length - k) * 4 ∧
    (∀ i, i < k → bs i ≠ b ∧ G (bs i) = none ∧ G' (bs i) = some ⟨(ms.getD i m0).m.map I64, true⟩) ∧ ∀ i j, i < k → j < k → i ≠ j → bs i ≠ bs j)
    ms.length ⟨0, fun _ => 0, _, by simp (maxSteps := 300000) (disch := omega) only [gws, ↓reduceIte, reduceEqDiff, reduceToNat, reduceMul, reduceAdd, Nat.reduceBEq, isLd], by simp (maxSteps := 300000) (disch := omega) only [gws, ↓reduceIte, reduceEqDiff, reduceToNat, reduceMul, reduceAdd, Nat.reduceBEq, isLd], by simp (maxSteps := 300000) (disch := omega) only [gws, ↓reduceIte, reduceEqDiff, reduceToNat, reduceMul, reduceAdd, Nat.reduceBEq, isLd] <;> rfl, by omega, by omega, Sub.put hb _, put_same _ _ _, by simp [zc], fun i hi => by omega, fun i j hi => by omega⟩ ?_
  rintro m T G' ⟨k, bs, z, e0, e3, e4, hm, hkl, hS, hBl, hz, hR, hI⟩
  have hh := h.sub hS
  have r0 := hh.r0
  have r1 := hh.r1
  have r2 := hh.r2
  have r3 := hh.r3
  simp (maxSteps := 300000) (disch := omega) only [gws, ↓reduceIte, reduceEqDiff, reduceToNat, reduceMul, reduceAdd, Nat.reduceBEq, isLd, e0, e3, e4]
  by_cases hkk : (k : Int) < ms.length
  · simp (maxSteps := 300000) (disch := omega) only [gws, ↓reduceIte, reduceEqDiff, reduceToNat, reduceMul, reduceAdd, Nat.reduceBEq, isLd, e0, e3, e4, hkk, r0, r1, r2, r3]
    refine laws_toMatrix_new (M := ms.getD k m0) (hh.m k (by omega)) (hn' k (by omega)) fun b2 hb2 => ?_
    have n2 : b ≠ b2 := fun e => by rw [e, hb2] at hBl; cases hBl
    have hB2 := Sub.put hb2 ⟨(ms.getD k m0).m.map I64, true⟩ _ _ hBl
    unfold mtV mtC
    simp (maxSteps := 300000) (disch := omega) only [gws, ↓reduceIte, reduceEqDiff, reduceToNat, reduceMul, reduceAdd, Nat.reduceBEq, isLd, e0, e3, e4]
    refine st_many (vs := mtC (ms.getD k m0) (some ⟨b2, 0, none⟩) (ms.getD k m0).m.length) rfl hB2 rfl (by rw [List.length_append, hfl, hz]; omega) (mtC_oneF _ _ _) ?_
    simp (maxSteps := 300000) (disch := omega) only [gws, ↓reduceIte, reduceEqDiff, reduceToNat, reduceMul, reduceAdd, Nat.reduceBEq, isLd, e0, e3, e4]
    refine ⟨m - 1, by omega, _, Sub.refl _, k + 1, fun i => if i = k then b2 else bs i, z.drop 4, rfl, by omega, by omega, (hS.trans (Sub.put hb2 _)).skip hb, ?_, by rw [List.length_drop, hz]; omega, fun i hi => ?_, fun i j hi hj hij => ?_⟩
    · rw [put_same]
      congr 2
      have := over_app (mtC (ms.getD k m0) (some ⟨b2, 0, none⟩) (ms.getD k m0).m.length) ((List.range k).flatMap (fun i => mtC (ms.getD i m0) (some ⟨bs i, 0, none⟩) (ms.getD i m0).m.length)) z
      rw [hfl] at this
      rw [this, if_pos (by rw [hz]; simp only [mtC, List.length_cons, List.length_nil]; omega), List.range_succ, List.flatMap_append]
      congr 1
      congr 1
      · exact flatMap_cong fun i hi => by have := List.mem_range.1 hi; simp only [if_neg (show ¬ i = k by omega), mtC]
      · simp [mtC]
    · dsimp only
      by_cases hik : i = k
      · subst hik
        rw [if_pos rfl]
        exact ⟨fun e => n2 e.symm, hS.none hb2, by rw [put_ne _ _ (fun e => n2 e.symm)]; exact put_same _ _ _⟩
      · rw [if_neg hik]
        obtain ⟨q1, q0, q2⟩ := hR i (by omega)
        have q3 : bs i ≠ b2 := fun e => by rw [e, hb2] at q2; cases q2
        exact ⟨q1, q0, by rw [put_ne _ _ q1, put_ne _ _ q3]; exact q2⟩
    · have nb : ∀ i, i < k → bs i ≠ b2 := fun i hi e => by have := (hR i hi).2.2; rw [e, hb2] at this; cases this
      by_cases ci : i = k
      · have cj : ¬ j = k := fun e => hij (ci.trans e.symm)
        simp only [if_pos ci, if_neg cj]
        exact (nb j (by omega)).symm
      · by_cases cj : j = k
        · simp only [if_neg ci, if_pos cj]; exact nb i (by omega)
        · simp only [if_neg ci, if_neg cj]; exact hI i j (by omega) (by omega) hij
  · simp (maxSteps := 300000) (disch := omega) only [gws, ↓reduceIte, reduceEqDiff, reduceToNat, reduceMul, reduceAdd, Nat.reduceBEq, isLd, e0, e3, e4, hkk]
    obtain rfl : k = ms.length := by omega
    rw [Nat.sub_self, Nat.zero_mul] at hz
    obtain rfl := List.length_eq_zero_iff.1 hz
    rw [List.append_nil] at hBl
    refine hk _ (fun i => (some ⟨bs i, 0, none⟩, (ms.getD i m0).m.length)) _ hS ⟨?_, fun i hi => ?_, fun i hi a b' ha hb' => by cases ha; cases hb'; exact (hR i hi).1, fun i j hi hj hij a b' ha hb' => by cases ha; cases hb'; exact hI i j hi hj hij⟩
    · refine .inr ⟨b, [], rfl, ?_, cellsM_len _ _, by rw [List.append_nil]; exact cellsM_len _ _, Nat.le_refl _⟩
      rw [List.append_nil]
      exact rest_some.2 ⟨hb, hBl⟩
    · refine .inr ⟨bs i, [], rfl, ?_, by simp, by simp, Nat.le_refl _⟩
      rw [List.append_nil]
      exact rest_some.2 (hR i hi).2
theorem laws_toComplex_new {G : GH} {A : Option Addr} {c : Nat} {hs : Nat → Option Addr × Nat} {xss : List (List Int)} (h : RowS G A c hs xss) (hsm : Sm xss) {K : Value → GH → Prop}
    (hk : ∀ A' hs' G', Sub G G' → OwnR (rest G G') A' xss.length hs' xss → K (cxV A' xss.length xss.length) G') : GC Tryz.prog 47 [cxV A xss.length c] G K := by
  refine kp5 (by simp) ?_
  unfold cxV
  simp (maxSteps := 300000) (disch := omega) only [gws, ↓reduceIte, reduceEqDiff, reduceToNat, reduceMul, reduceAdd, Nat.reduceBEq, isLd]
  intro b1 hb1
  simp (maxSteps := 300000) (disch := omega) only [gws, ↓reduceIte, reduceEqDiff, reduceToNat, reduceMul, reduceAdd, Nat.reduceBEq, isLd]
  intro b2 hb2
  simp (maxSteps := 300000) (disch := omega) only [gws, ↓reduceIte, reduceEqDiff, reduceToNat, reduceMul, reduceAdd, Nat.reduceBEq, isLd]
  intro b3 hb3
  simp only [put_none] at hb2 hb3
  obtain ⟨n12, f2⟩ := hb2
  obtain ⟨n23, n13, f3⟩ := hb3
  simp (maxSteps := 300000) (disch := omega) only [gws, ↓reduceIte, reduceEqDiff, reduceToNat, reduceMul, reduceAdd, Nat.reduceBEq, isLd]
  have s3 := ((((Sub.refl G).skip hb1 (e := ⟨[.slice A xss.length c], true⟩)).skip f2 (e := ⟨[.slice none 0 0], true⟩)).skip f3 (e := ⟨[.slice none 0 0], true⟩))
  have g2 : put (put (put G b1 ⟨[.slice A xss.length c], true⟩) b2 ⟨[.slice none 0 0], true⟩) b3 ⟨[.slice none 0 0], true⟩ b2 = some ⟨[.slice none 0 0], true⟩ := by rw [put_ne _ _ (by omega)]; exact put_same _ _ _
  have g3 : put (put (put G b1 ⟨[.slice A xss.length c], true⟩) b2 ⟨[.slice none 0 0], true⟩) b3 ⟨[.slice none 0 0], true⟩ b3 = some ⟨[.slice none 0 0], true⟩ := put_same _ _ _
  revert s3 g2 g3
  generalize put (put (put G b1 ⟨[.slice A xss.length c], true⟩) b2 ⟨[.slice none 0 0], true⟩) b3 ⟨[.slice none 0 0], true⟩ = G5
  intro s3 g2 g3
  refine laws_toInt64SS_new (h.sub s3) hsm fun B' hs' G' hS hR => ?_
  simp (maxSteps := 300000) (disch := omega) only [gws, ↓reduceIte, reduceEqDiff, reduceToNat, reduceMul, reduceAdd, Nat.reduceBEq, isLd]
  refine st_one (hS _ _ g3) (by simp) rfl ?_
  simp (maxSteps := 300000) (disch := omega) only [gws, ↓reduceIte, reduceEqDiff, reduceToNat, reduceMul, reduceAdd, Nat.reduceBEq, isLd]
  refine st_many (vs := [.slice B' xss.length xss.length]) rfl (by rw [put_ne _ _ (by omega)]; exact hS _ _ g2) rfl (by simp) (by intro v hv; simp at hv; subst hv; rfl) ?_
  simp (maxSteps := 300000) (disch := omega) only [gws, ↓reduceIte, reduceEqDiff, reduceToNat, reduceMul, reduceAdd, Nat.reduceBEq, isLd, over]
  have hon := hR.on
  have o5 : ∀ x, lB B' hs' xss.length x → G5 x = none := fun x hx => on_rest (hon x hx)
  have sR := Sub.rest G5 G'
  have r2 : rest G5 G' b2 = none := by cases hr : rest G5 G' b2 with | none => rfl | some e => (have := (rest_some.1 hr).1; rw [g2] at this; cases this)
  have r3 : rest G5 G' b3 = none := by cases hr : rest G5 G' b3 with | none => rfl | some e => (have := (rest_some.1 hr).1; rw [g3] at this; cases this)
  have sF := (sR.skip r3 (e := ⟨[.slice B' xss.length xss.length], true⟩)).skip r2 (e := ⟨[.slice B' xss.length xss.length], true⟩)
  exact hk B' hs' _ (((s3.trans hS).skip f3).skip f2) ((hR.sub sF).rest (fun a ha => s3.none (o5 _ (.inl ⟨a, ha, rfl⟩))) fun i hi a ha => s3.none (o5 _ (.inr ⟨i, hi, a, ha, rfl⟩)))
theorem preM_mono {ms : List Mt} : ∀ {i j : Nat}, i ≤ j → preM ms i ≤ preM ms j := by
  intro i j h
  obtain ⟨e, rfl⟩ : ∃ e, j = i + e := ⟨j - i, by omega⟩
  clear h
  induction e with
  | zero => exact Nat.le_refl _
  | succ e ih => exact Nat.le_trans ih (Nat.le_add_right _ _)
/-- a cell of one's own list is written. -/
theorem Own.storeG {G : GH} {A : Option Addr} {c n sz : Nat} {cs : List Value} (h : Own G A c cs sz n) {k : Nat} {v : Value} {K : Value → GH → Prop} (hk : k < n * sz) (hv : oneB v = true) (hK : ∀ G', Own G' A c (cs.set k v) sz n → Oth (sB A) G G' → K undef G') : gSt 1 (.pointer (pa A k)) v G K := by
  rcases h with ⟨_, _, h0, _⟩ | ⟨b, r, rfl, h2, h3, h4, h5⟩
  · subst h0; omega
  · rw [pa_mk, Nat.zero_add]
    refine st_one h2 (by rw [List.length_append]; omega) hv ?_
    rw [List.set_append_left _ _ (by omega)]
    refine hK _ (.inr ⟨b, r, rfl, put_same _ _ _, by simpa using h3, by simpa using h4, h5⟩) fun x hx => put_ne _ _ fun e => hx ⟨_, rfl, e.symm⟩
theorem setM_get {ms : List Mt} {i : Nat} {M : Mt} (hi : i < ms.length) (j : Nat) : (ms.set i M).getD j m0 = if j = i then M else ms.getD j m0 := by
  by_cases e : j = i
  · subst e; rw [if_pos rfl]; simp [List.getD, hi]
  · rw [if_neg e]; simp [List.getD, List.getElem?_set, Ne.symm e]
theorem cellsM_set {H : Nat → Option Addr × Nat} {ms : List Mt} {i j : Nat} {M : Mt} {v : Value} (hi : i < ms.length) (hj : j < 4) (hc : mtC M (H i).1 (H i).2 = (mtC (ms.getD i m0) (H i).1 (H i).2).set j v) : (cellsM H ms).set (i * 4 + j) v = cellsM H (ms.set i M) := by
  have hl := cellsM_len H ms
  have hl' := cellsM_len H (ms.set i M)
  rw [List.length_set] at hl'
  apply List.ext_getElem?
  intro n
  by_cases hn : n < ms.length * 4
  · obtain ⟨a, b, hb, rfl⟩ : ∃ a b, b < 4 ∧ n = a * 4 + b := ⟨n / 4, n % 4, Nat.mod_lt _ (by omega), by omega⟩
    have ha : a < ms.length := by omega
    rw [cellsM_at (ms := ms.set i M) (by rw [List.length_set]; exact ha) hb, setM_get hi]
    rw [List.getElem?_set]
    by_cases e : a = i
    · subst e
      rw [if_pos rfl, hc, List.getElem?_set]
      by_cases e2 : b = j
      · subst e2
        rw [if_pos rfl, if_pos (by omega), if_pos rfl, if_pos (by simp [mtC]; omega)]
      · rw [if_neg (by omega), if_neg (by omega), cellsM_at ha hb]
    · rw [if_neg (by omega), if_neg e, cellsM_at ha hb]
  · rw [List.getElem?_eq_none (by rw [List.length_set]; omega), List.getElem?_eq_none (by omega)]
theorem OwnMS.fld {G : GH} {A : Option Addr} {c : Nat} {H : Nat → Option Addr × Nat} {ms : List Mt} (h : OwnMS G A c H ms) {i j k : Nat} {v : Value} {M : Mt} {K : Value → GH → Prop} (hi : i < ms.length) (hj : j < 4) (hk : k = i * 4 + j) (hv : oneB v = true) (hm : M.m = (ms.getD i m0).m)
    (hc : mtC M (H i).1 (H i).2 = (mtC (ms.getD i m0) (H i).1 (H i).2).set j v) (hK : ∀ G', OwnMS G' A c H (ms.set i M) → Oth (lB A H ms.length) G G' → K undef G') : gSt 1 (.pointer (pa A k)) v G K := by
  subst hk
  refine h.out.storeG (by omega) hv fun G' ho u => hK G' ⟨?_, fun a ha => ?_, fun a ha => h.ne a (by rwa [List.length_set] at ha), fun a b ha hb => h.inj a b (by rwa [List.length_set] at ha) (by rwa [List.length_set] at hb)⟩ (u.mono fun x hx => .inl hx)
  · rw [cellsM_set hi hj hc] at ho
    rw [List.length_set]; exact ho
  · rw [List.length_set] at ha
    have e : ((ms.set i M).getD a m0).m = (ms.getD a m0).m := by
      rw [setM_get hi]
      by_cases e : a = i
      · subst e; rw [if_pos rfl]; exact hm
      · rw [if_neg e]
    rw [e]
    exact (h.cel a ha).oth u fun x hx ⟨y, hy, hxy⟩ => h.ne a ha x y hx hy hxy.symm
theorem OwnMS.cls {G G' : GH} {A : Option Addr} {c : Nat} {H : Nat → Option Addr × Nat} {ms : List Mt} (h : OwnMS G A c H ms) {i : Nat} {M : Mt} (hi : i < ms.length) (u : Upd G G' (H i).1) (hc : mtC M (H i).1 (H i).2 = mtC (ms.getD i m0) (H i).1 (H i).2)
    (hw : Own G' (H i).1 (H i).2 (M.m.map I64) 1 M.m.length) : OwnMS G' A c H (ms.set i M) ∧ Oth (lB A H ms.length) G G' := by
  refine ⟨⟨?_, fun a ha => ?_, fun a ha => h.ne a (by rwa [List.length_set] at ha), fun a b ha hb => h.inj a b (by rwa [List.length_set] at ha) (by rwa [List.length_set] at hb)⟩, u.oth.mono fun x ⟨a, ha, hx⟩ => .inr ⟨i, hi, a, ha, hx⟩⟩
  · have e : cellsM H (ms.set i M) = cellsM H ms := by
      unfold cellsM
      rw [List.length_set]
      refine flatMap_cong fun a ha => ?_
      rw [setM_get hi]
      by_cases e : a = i
      · subst e; rw [if_pos rfl]; exact hc
      · rw [if_neg e]
    rw [e, List.length_set]
    exact h.out.oth u.oth fun b hb ⟨a, ha, hx⟩ => h.ne i hi a b ha hb hx
  · rw [List.length_set] at ha
    rw [setM_get hi]
    by_cases e : a = i
    · subst e; rw [if_pos rfl]; exact hw
    · rw [if_neg e]
      exact (h.cel a ha).oth u.oth fun x hx ⟨y, hy, hxy⟩ => h.inj a i ha hi e x y hx hy hxy.symm
theorem laws_markMatrixS_ok {G : GH} {A : Option Addr} {c : Nat} {H : Nat → Option Addr × Nat} {ms : List Mt} {k : Int} (h : OwnMS G A c H ms) (hn : ms.length ≤ 2 ^ 20) (hp : preM ms ms.length ≤ 2 ^ 20) (hk0 : 0 ≤ k ∧ k ≤ 2 ^ 31) {K : Value → GH → Prop}
    (hk : ∀ G' l, Oth (lB A H ms.length) G G' → 0 ≤ l → l ≤ k + 2 ^ 22 → K (.int .i64 l) G') : GC Tryz.prog 54 [.slice A ms.length c, .int .i64 k] G K := by
  refine kmu (by simp) ?_
  have hpm : ∀ i, i ≤ ms.length → preM ms i ≤ 2 ^ 20 := fun i hi => Nat.le_trans (preM_mono hi) hp
  simp (maxSteps := 300000) (disch := omega) only [gws, ↓reduceIte, reduceEqDiff, reduceToNat, reduceMul, reduceAdd, Nat.reduceBEq, isLd]
  refine gLoop_intro (fun m T G' => ∃ (i : Nat) (ns : List Mt), T 0 = .slice A ms.length c ∧ T 1 = .int .i64 (k + ((3 * i + preM ms i : Nat) : Int)) ∧ T 5 = .int .i64 i ∧ m + i = ms.length ∧ i ≤ ms.length ∧ ns.length = ms.length ∧ (∀ a, (ns.getD a m0).m.length = (ms.getD a m0).m.length) ∧ Oth (lB A H ms.length) G G' ∧ OwnMS G' A c H ns) ms.length
    ⟨0, ms, by simp (maxSteps := 300000) (disch := omega) only [gws, ↓reduceIte, reduceEqDiff, reduceToNat, reduceMul, reduceAdd, Nat.reduceBEq, isLd], by simp (maxSteps := 300000) (disch := omega) only [gws, ↓reduceIte, reduceEqDiff, reduceToNat, reduceMul, reduceAdd, Nat.reduceBEq, isLd] <;> simp [preM], by simp (maxSteps := 300000) (disch := omega) only [gws, ↓reduceIte, reduceEqDiff, reduceToNat, reduceMul, reduceAdd, Nat.reduceBEq, isLd] <;> rfl, by omega, by omega, rfl, fun _ => rfl, Oth.refl _ _, h⟩ ?_
  rintro m T G' ⟨i, ns, e0, e1, e5, hm, hil, hnl, hml, hO, hW⟩
  simp (maxSteps := 300000) (disch := omega) only [gws, ↓reduceIte, reduceEqDiff, reduceToNat, reduceMul, reduceAdd, Nat.reduceBEq, isLd, e0, e1, e5]
  by_cases hii : (i : Int) < ms.length
  · have hsn := hW.mss.sn (by omega)
    have hin : i < ns.length := by omega
    have hp0 := hpm i (by omega)
    have hp1 := hpm (i + 1) (by omega)
    have hps : preM ms (i + 1) = preM ms i + (ms.getD i m0).m.length := rfl
    obtain ⟨k0, hk0'⟩ : ∃ k0 : Int, k0 = k + ((3 * i + preM ms i : Nat) : Int) := ⟨_, rfl⟩
    have hb0 : 0 ≤ k0 ∧ k0 ≤ 2 ^ 33 := by omega
    rw [← hk0'] at e1
    have w1 := w64 (k0 + 1) (by omega) (by omega)
    have w2 := w64 (k0 + 1 + 1) (by omega) (by omega)
    have w3 := w64 (k0 + 1 + 1 + 1) (by omega) (by omega)
    simp (maxSteps := 300000) (disch := omega) only [gws, ↓reduceIte, reduceEqDiff, reduceToNat, reduceMul, reduceAdd, Nat.reduceBEq, isLd, e0, e1, e5, hii]
    refine hW.fld (i := i) (j := 0) (M := { ns.getD i m0 with p := k0 }) hin (by omega) rfl rfl rfl rfl fun G1 hW1 u1 => ?_
    simp (maxSteps := 300000) (disch := omega) only [gws, ↓reduceIte, reduceEqDiff, reduceToNat, reduceMul, reduceAdd, Nat.reduceBEq, isLd, e0, e1, e5, w1]
    refine hW1.fld (i := i) (j := 1) (M := { ns.getD i m0 with p := k0, r := k0 + 1 }) (by rw [List.length_set]; exact hin) (by omega) rfl rfl (by rw [setM_get hin, if_pos rfl]) (by rw [setM_get hin, if_pos rfl]; rfl) fun G2 hW2 u2 => ?_
    rw [List.set_set] at hW2
    simp (maxSteps := 300000) (disch := omega) only [gws, ↓reduceIte, reduceEqDiff, reduceToNat, reduceMul, reduceAdd, Nat.reduceBEq, isLd, e0, e1, e5, w1, w2]
    refine hW2.fld (i := i) (j := 2) (M := { ns.getD i m0 with p := k0, r := k0 + 1, c := k0 + 1 + 1 }) (by rw [List.length_set]; exact hin) (by omega) rfl rfl (by rw [setM_get hin, if_pos rfl]) (by rw [setM_get hin, if_pos rfl]; rfl) fun G3 hW3 u3 => ?_
    rw [List.set_set] at hW3
    rw [List.length_set, hnl] at u2 u3
    rw [hnl] at u1
    have r3 := hW3.mss.r3 i (by rw [List.length_set]; exact hin)
    have hc3 := hW3.cel i (by rw [List.length_set]; exact hin)
    rw [setM_get hin, if_pos rfl] at r3 hc3
    dsimp only at r3 hc3
    have hlen := hml i
    simp (maxSteps := 300000) (disch := omega) only [gws, ↓reduceIte, reduceEqDiff, reduceToNat, reduceMul, reduceAdd, Nat.reduceBEq, isLd, e0, e1, e5, w1, w2, w3, r3]
    refine laws_markInt64S_ok hc3 (by omega) (by omega) fun G4 uu hw => ?_
    have hc4 := hW3.cls (i := i) (M := { ns.getD i m0 with p := k0, r := k0 + 1, c := k0 + 1 + 1, m := marks (k0 + 1 + 1 + 1) (ns.getD i m0).m.length }) (by rw [List.length_set]; exact hin) uu (by rw [setM_get hin, if_pos rfl]; simp [mtC, marks_len]) (by dsimp only; rw [marks_len]; exact hw)
    obtain ⟨hW4, u4⟩ := hc4
    rw [List.set_set] at hW4
    rw [List.length_set, hnl] at u4
    simp (maxSteps := 300000) (disch := omega) only [gws, ↓reduceIte, reduceEqDiff, reduceToNat, reduceMul, reduceAdd, Nat.reduceBEq, isLd, e0, e1, e5]
    refine ⟨m - 1, by omega, G4, Sub.refl _, i + 1, _, by rw [hk0', hps, hlen]; push_cast; congr 1; omega, rfl, by omega, by omega, by rw [List.length_set]; exact hnl, fun a => ?_, (((hO.trans u1).trans u2).trans u3).trans u4, hW4⟩
    rw [setM_get hin]
    by_cases e : a = i
    · subst e; rw [if_pos rfl]; dsimp only; rw [marks_len]; exact hlen
    · rw [if_neg e]; exact hml a
  · simp (maxSteps := 300000) (disch := omega) only [gws, ↓reduceIte, reduceEqDiff, reduceToNat, reduceMul, reduceAdd, Nat.reduceBEq, isLd, e0, e1, e5, hii]
    have hp0 := hpm i (by omega)
    exact hk G' _ hO (by omega) (by omega)
theorem laws_markComplex_ok {G : GH} {A : Option Addr} {c : Nat} {hs : Nat → Option Addr × Nat} {xss : List (List Int)} {k : Int} (h : OwnR G A c hs xss) (hsm : Sm xss) (hp : pre xss xss.length ≤ 2 ^ 20) (hk0 : 0 ≤ k ∧ k ≤ 2 ^ 20) {K : Value → GH → Prop}
    (hk : ∀ G' l, Oth (lB A hs xss.length) G G' → 0 ≤ l → l ≤ k + 2 ^ 20 → K (.int .i64 l) G') : GC Tryz.prog 53 [cxV A xss.length c, .int .i64 k] G K := by
  refine GC_drop (klt (by simp) ?_)
  unfold cxV
  have hon := h.on
  simp (maxSteps := 300000) (disch := omega) only [gws, ↓reduceIte, reduceEqDiff, reduceToNat, reduceMul, reduceAdd, Nat.reduceBEq, isLd]
  intro b2 hb2
  have s2 := Sub.put hb2 ⟨[.slice A xss.length c], true⟩
  simp (maxSteps := 300000) (disch := omega) only [gws, ↓reduceIte, reduceEqDiff, reduceToNat, reduceMul, reduceAdd, Nat.reduceBEq, isLd]
  refine laws_markInt64SS_ok (h.sub s2) hsm (by omega) (by omega) fun G3 u3 _ => ?_
  simp (maxSteps := 300000) (disch := omega) only [gws, ↓reduceIte, reduceEqDiff, reduceToNat, reduceMul, reduceAdd, Nat.reduceBEq, isLd]
  refine ⟨wz G3 (some ⟨b2, 0, none⟩), Sub.wz _ _, hk _ _ (fun x hx => ?_) (by omega) (by omega)⟩
  by_cases e : x = b2
  · subst e
    rw [hb2]; unfold wz; exact if_pos rfl
  · rw [wz_ne fun a ha y => by cases ha; exact e y.symm, u3 x fun y => hx (.inr y), put_ne _ _ e]
/-- a list of lists, each one's own, that is being laid. -/
structure RO (G0 G : GH) (Z : Option Addr) (z : Nat) (hs : Nat → Option Addr × Nat) (xss : List (List Int)) : Prop where
  sub : Sub G0 G
  out : Own G Z z ((List.range xss.length).map fun i => Value.slice (hs i).1 (xss.getD i []).length (hs i).2) 1 xss.length
  off : Off G0 Z
  row : ∀ i, i < xss.length → Own (wz G Z) (hs i).1 (hs i).2 ((xss.getD i []).map I64) 1 (xss.getD i []).length
  roff : ∀ i, i < xss.length → Off G0 (hs i).1
  inj : ∀ i j, i < xss.length → j < xss.length → i ≠ j → ∀ a b, (hs i).1 = some a → (hs j).1 = some b → a.block ≠ b.block
theorem RO.nil (G : GH) (hs : Nat → Option Addr × Nat) : RO G G none 0 hs [] := ⟨Sub.refl _, Own.nil _ _, Off.nil _, fun i hi => by simp at hi, fun i hi => by simp at hi, fun i j hi => by simp at hi⟩
theorem RO.up {G0 G G' : GH} {Z : Option Addr} {z : Nat} {hs : Nat → Option Addr × Nat} {xss : List (List Int)} (h : RO G0 G Z z hs xss) (s : Sub G G') : RO G0 G' Z z hs xss := ⟨h.sub.trans s, h.out.sub s, h.off, fun i hi => (h.row i hi).sub (Sub.wz_mono s), h.roff, h.inj⟩
theorem RO.low {G0 G1 G : GH} {Z : Option Addr} {z : Nat} {hs : Nat → Option Addr × Nat} {xss : List (List Int)} (h : RO G1 G Z z hs xss) (s : Sub G0 G1) : RO G0 G Z z hs xss := ⟨s.trans h.sub, h.out, h.off.mono s, h.row, fun i hi => (h.roff i hi).mono s, h.inj⟩
theorem RO.add {G0 G : GH} {bs : Nat} {Z : Option Addr} {z : Nat} {hs : Nat → Option Addr × Nat} {xss : List (List Int)} {r : List Int} {D : Option Addr} {e : Nat} (h : RO G0 G Z z hs xss) (hr : Own (wz G Z) D e (r.map I64) 1 r.length) (hro : Off G0 D) (hri : ∀ i, i < xss.length → ∀ a b, (hs i).1 = some a → D = some b → a.block ≠ b.block) (hb : G bs = some ⟨[.slice D r.length e], true⟩) (hl : xss.length < 2 ^ 20) {K : Value → GH → Prop}
    (hK : ∀ G4 Z' z' hs', RO G0 G4 Z' z' hs' (xss ++ [r]) → K (.slice Z' (xss.length + 1) z') G4) : gAp 1 24 [.slice none 0 0] (.slice Z xss.length z) (.slice (some ⟨bs, 0, none⟩) 1 1) G K := by
  refine ap_own h.out (news := [.slice D r.length e]) (m := 1) (Own.blk (n := 1) (sz := 1) hb rfl).cells (by rfl) (by intro v hv; simp at hv; subst hv; rfl) rfl (by omega) (by omega) (by omega) fun G4 Z' z' hO keep => ?_
  obtain ⟨s4, o4⟩ := keep _ (Sub.wz G Z) (Off.wz G Z)
  have s0 : Sub G0 G4 := fun q f hq => by
    refine s4 _ _ ?_
    rw [wz_ne fun a ha e => ?_]
    · exact h.sub _ _ hq
    · have := h.off a ha
      rw [e, hq] at this; cases this
  have o0 : Off G0 Z' := fun a ha => by
    have h2 := o4 a ha
    by_cases c : G a.block = none
    · exact h.sub.none c
    · have : ∃ y, Z = some y ∧ y.block = a.block := by
        apply Classical.byContradiction; intro hn
        rw [wz_ne fun y hy e => hn ⟨y, hy, e⟩] at h2
        exact c h2
      obtain ⟨y, hy, e⟩ := this
      have := h.off y hy
      rwa [e] at this
  have w : Sub (wz G Z) (wz G4 Z') := fun q f hq => by
    rw [wz_ne fun a ha e => ?_]
    · exact s4 _ _ hq
    · have := o4 a ha
      rw [e, hq] at this; cases this
  have hg : ∀ i, i < xss.length → (xss ++ [r]).getD i [] = xss.getD i [] := fun i hi => by simp [List.getD, List.getElem?_append_left hi]
  have hgl : (xss ++ [r]).getD xss.length [] = r := by simp [List.getD]
  have hl' : (xss ++ [r]).length = xss.length + 1 := by simp
  refine hK G4 Z' z' (fun i => if i = xss.length then (D, e) else hs i) ⟨s0, hO.cast ?_ hl'.symm, o0, fun i hi => ?_, fun i hi => ?_, fun i j hi hj hij => ?_⟩
  · rw [hl', List.range_succ, List.map_append]
    congr 1
    · exact List.map_congr_left fun i hi => by
        have := List.mem_range.1 hi
        rw [if_neg (by omega), hg i this]
    · simp
  · rw [hl'] at hi
    by_cases c : i = xss.length
    · subst c; simp only [if_true]; rw [hgl]; exact hr.sub w
    · simp only [if_neg c]; rw [hg i (by omega)]; exact (h.row i (by omega)).sub w
  · rw [hl'] at hi
    by_cases c : i = xss.length
    · subst c; simp only [if_true]; exact hro
    · simp only [if_neg c]; exact h.roff i (by omega)
  · rw [hl'] at hi hj
    by_cases ci : i = xss.length
    · subst ci
      have cj : ¬ j = xss.length := fun y => hij y.symm
      simp only [if_true, if_neg cj]
      exact fun a b ha hb' e' => hri j (by omega) b a hb' ha e'.symm
    · by_cases cj : j = xss.length
      · subst cj
        simp only [if_true, if_neg ci]
        exact hri i (by omega)
      · simp only [if_neg ci, if_neg cj]
        exact h.inj i j (by omega) (by omega) hij
def rowsF (R C : Nat) (f : Int → Int → Int) : List (List Int) := (List.range R).map fun i : Nat => rowL C (f i)
theorem rowsF_len (R C : Nat) (f : Int → Int → Int) : (rowsF R C f).length = R := by simp [rowsF]
theorem rowsF_get {R C : Nat} {f : Int → Int → Int} {i : Nat} (h : i < R) : (rowsF R C f).getD i [] = rowL C (f i) := by simp [rowsF, List.getD, h]
theorem RO.ao {H G : GH} {Z : Option Addr} {z R C : Nat} {hs : Nat → Option Addr × Nat} {F : Int → Int → Int} (h : RO H G Z z hs (rowsF R C F)) (hR : 0 < R) : ∃ bO ro, Z = some ⟨bO, 0, none⟩ ∧ R ≤ z ∧ Ao H G bO (fun i => (hs i).1) (fun _ => C) (fun i => (hs i).2) R F ro := by
  have hl := rowsF_len R C F
  rcases h.out with ⟨_, _, h0, _⟩ | ⟨b, r, rfl, h6, _, _, h7⟩
  · omega
  · rw [hl] at h6 h7
    have hd : Sub (wz G (some ⟨b, 0, none⟩)) (del G b) := fun x e hx => by
      unfold wz at hx
      split at hx
      · cases hx
      · rename_i hne
        have : x ≠ b := fun e' => hne (by rw [e']; rfl)
        rw [del_ne _ this]; exact hx
    refine ⟨b, r, rfl, h7, h.sub, h.off _ rfl, ?_, fun i hi => ?_, fun i hi => h.roff i (by omega), fun i j hi hj hij => h.inj i j (by omega) (by omega) hij⟩
    · rw [h6]
      refine congrArg (fun l => some (⟨l ++ r, true⟩ : Ent)) ?_
      unfold rowsA
      exact List.map_congr_left fun i hi => by rw [rowsF_get (List.mem_range.1 hi), rowL_len]
    · have := (h.row i (by omega)).sub hd
      rw [rowsF_get hi, rowL_len] at this
      exact this
theorem impl_rowsOf3_ok {G : GH} {p : Int} {A : Option Addr} {R C c : Nat} {f : Int → Int → Int} (h : IntS G A c (flatL R C f)) (hC : C ≤ 2 ^ 10) (hR : R ≤ 2 ^ 10) {K : Value → GH → Prop}
    (hk : ∀ G' Y y hs, RO G G' Y y hs (rowsF R C f) → K (.slice Y R y) G') : GC Tryz.prog 165 [matV p R C A (R * C) c] G K := by
  refine kel (by simp) ?_
  unfold matV matC
  simp (maxSteps := 300000) (disch := omega) only [gws, ↓reduceIte, reduceEqDiff, reduceToNat, reduceMul, reduceAdd, Nat.reduceBEq, isLd]
  intro b1 hb1
  have s1 := Sub.put hb1 ⟨[.int .i64 p, .int .i64 R, .int .i64 C, .slice A (R * C) c], true⟩
  have r0 : rd (put G b1 ⟨[.int .i64 p, .int .i64 R, .int .i64 C, .slice A (R * C) c], true⟩) (some ⟨b1, 0, none⟩) = some (.int .i64 p) := rd_box _ _ _ 0 _ rfl
  have r1 : rd (put G b1 ⟨[.int .i64 p, .int .i64 R, .int .i64 C, .slice A (R * C) c], true⟩) (some ⟨b1, 1, none⟩) = some (.int .i64 R) := rd_box _ _ _ 1 _ rfl
  have r2 : rd (put G b1 ⟨[.int .i64 p, .int .i64 R, .int .i64 C, .slice A (R * C) c], true⟩) (some ⟨b1, 2, none⟩) = some (.int .i64 C) := rd_box _ _ _ 2 _ rfl
  have r3 : rd (put G b1 ⟨[.int .i64 p, .int .i64 R, .int .i64 C, .slice A (R * C) c], true⟩) (some ⟨b1, 3, none⟩) = some (.slice A (R * C) c) := rd_box _ _ _ 3 _ rfl
  have h1 := h.sub s1
  revert s1 r0 r1 r2 r3 h1
  generalize put G b1 ⟨[.int .i64 p, .int .i64 R, .int .i64 C, .slice A (R * C) c], true⟩ = G1
  intro s1 r0 r1 r2 r3 h1
  simp (maxSteps := 300000) (disch := omega) only [gws, ↓reduceIte, reduceEqDiff, reduceToNat, reduceMul, reduceAdd, Nat.reduceBEq, isLd, r1]
  refine gLoop_intro (fun m T G' => ∃ (i : Nat) (Z : Option Addr) (z : Nat) (hs : Nat → Option Addr × Nat), T 1 = .pointer (some ⟨b1, 0, none⟩) ∧ T 3 = .slice Z i z ∧ T 6 = .int .i64 R ∧ T 7 = .int .i64 i ∧ m + i = R ∧ i ≤ R ∧ RO G1 G' Z z hs (rowsF i C f))
    R ⟨0, none, 0, fun _ => (none, 0), by simp (maxSteps := 300000) (disch := omega) only [gws, ↓reduceIte, reduceEqDiff, reduceToNat, reduceMul, reduceAdd, Nat.reduceBEq, isLd], by simp (maxSteps := 300000) (disch := omega) only [gws, ↓reduceIte, reduceEqDiff, reduceToNat, reduceMul, reduceAdd, Nat.reduceBEq, isLd], by simp (maxSteps := 300000) (disch := omega) only [gws, ↓reduceIte, reduceEqDiff, reduceToNat, reduceMul, reduceAdd, Nat.reduceBEq, isLd], by simp (maxSteps := 300000) (disch := omega) only [gws, ↓reduceIte, reduceEqDiff, reduceToNat, reduceMul, reduceAdd, Nat.reduceBEq, isLd] <;> rfl, by omega, by omega, RO.nil _ _⟩ ?_
  rintro m T G' ⟨i, Z, z, hs, e1, e3, e6, e7, hm, hi, hB⟩
  simp (maxSteps := 300000) (disch := omega) only [gws, ↓reduceIte, reduceEqDiff, reduceToNat, reduceMul, reduceAdd, Nat.reduceBEq, isLd, e1, e3, e6, e7]
  by_cases hii : (i : Int) < R
  · have q0 := rd_sub hB.sub r0
    have q1 := rd_sub hB.sub r1
    have q2 := rd_sub hB.sub r2
    have q3 := rd_sub hB.sub r3
    simp (maxSteps := 300000) (disch := omega) only [gws, ↓reduceIte, reduceEqDiff, reduceToNat, reduceMul, reduceAdd, Nat.reduceBEq, isLd, e1, e3, e6, e7, hii, q0, q1, q2, q3]
    refine impl_row2_ok (p := p) (R := R) (C := C) (A := A) (c := c) (i := i) (f := f) (h1.sub hB.sub) (by omega) (by omega) (by omega) fun B d hI => ?_
    simp (maxSteps := 300000) (disch := omega) only [gws, ↓reduceIte, reduceEqDiff, reduceToNat, reduceMul, reduceAdd, Nat.reduceBEq, isLd, e1, e3, e6, e7]
    have key := fun K => slices_Clone_ok hI (by rw [rowL_len]; omega) (K := K)
    rw [rowL_len] at key
    refine key _ fun G2 D e hN => ?_
    simp (maxSteps := 300000) (disch := omega) only [gws, ↓reduceIte, reduceEqDiff, reduceToNat, reduceMul, reduceAdd, Nat.reduceBEq, isLd, gBs]
    refine ⟨fun v hv => (by simp at hv; subst hv; rfl), fun b2 hb2 => ?_⟩
    have s2 := Sub.put hb2 ⟨[.slice D (rowL C (f i)).length e], true⟩
    have oD : Off G' D := fun a ha => on_rest (own_ne hN.own a ha)
    have hr : Own (wz G2 Z) D e ((rowL C (f i)).map I64) 1 (rowL C (f i)).length := ((hN.own.cast rfl (rowL_len _ _).symm).sub (Sub.rest _ _)).wz fun a b ha hb' e' => by
      have := own_ne hB.out b hb'
      rw [← e'] at this
      exact this (oD a ha)
    have hri : ∀ k, k < (rowsF i C f).length → ∀ a b, (hs k).1 = some a → D = some b → a.block ≠ b.block := fun k hk a b ha hb' e' => by
      have h3 := own_ne (hB.row k hk) a ha
      have h4 := oD b hb'
      rw [← e'] at h4
      have h5 : wz G' Z a.block = none := by
        cases hw : wz G' Z a.block with
        | none => rfl
        | some y => (have := Sub.wz G' Z _ _ hw; rw [h4] at this; cases this)
      exact h3 h5
    have key2 := fun K => ((hB.up hN.sub).up s2).add (K := K) (hr.sub (Sub.wz_mono s2)) (oD.mono hB.sub) hri (put_same _ _ _) (by rw [rowsF_len]; omega)
    rw [rowL_len, rowsF_len] at key2
    refine key2 _ fun G4 Z' z' hs' hB4 => ?_
    simp (maxSteps := 300000) (disch := omega) only [gws, ↓reduceIte, reduceEqDiff, reduceToNat, reduceMul, reduceAdd, Nat.reduceBEq, isLd, e1, e3, e6, e7]
    exact ⟨m - 1, by omega, G4, Sub.refl _, i + 1, Z', z', hs', rfl, rfl, by omega, by omega, by unfold rowsF; rw [List.range_succ, List.map_append]; exact hB4⟩
  · simp (maxSteps := 300000) (disch := omega) only [gws, ↓reduceIte, reduceEqDiff, reduceToNat, reduceMul, reduceAdd, Nat.reduceBEq, isLd, e1, e3, e6, e7, hii]
    obtain rfl : i = R := by omega
    exact hk G' Z z hs (hB.low s1)
theorem impl_elimR0_ok {G : GH} {B : Option Addr} {cb C : Nat} {p : Int} (hC : C ≤ 2 ^ 20) {K : Value → GH → Prop} (hk : ∀ G' d, Sub G G' → K (.tuple [.slice none 0 0, .int .i64 d].toArray) G') : GC Tryz.prog 166 [.slice B 0 cb, .int .i64 (C : Int), .int .i64 p] G K := by
  refine k8s (by simp) ?_
  simp (maxSteps := 300000) (disch := omega) only [gws, ↓reduceIte, reduceEqDiff, reduceToNat, reduceMul, reduceAdd, Nat.reduceBEq, isLd]
  refine gLoop_intro (fun m T G' => ∃ (k : Nat) (d : Int), T 0 = .slice B 0 cb ∧ T 8 = .slice none 0 0 ∧ T 9 = .int .i64 d ∧ T 16 = .int .i64 (C : Int) ∧ T 17 = .int .i64 k ∧ m + k = C ∧ k ≤ C ∧ Sub G G') C ⟨0, 1, by simp (maxSteps := 300000) (disch := omega) only [gws, ↓reduceIte, reduceEqDiff, reduceToNat, reduceMul, reduceAdd, Nat.reduceBEq, isLd], by simp (maxSteps := 300000) (disch := omega) only [gws, ↓reduceIte, reduceEqDiff, reduceToNat, reduceMul, reduceAdd, Nat.reduceBEq, isLd], by simp (maxSteps := 300000) (disch := omega) only [gws, ↓reduceIte, reduceEqDiff, reduceToNat, reduceMul, reduceAdd, Nat.reduceBEq, isLd] <;> rfl, by simp (maxSteps := 300000) (disch := omega) only [gws, ↓reduceIte, reduceEqDiff, reduceToNat, reduceMul, reduceAdd, Nat.reduceBEq, isLd], by simp (maxSteps := 300000) (disch := omega) only [gws, ↓reduceIte, reduceEqDiff, reduceToNat, reduceMul, reduceAdd, Nat.reduceBEq, isLd] <;> rfl, by omega, by omega, Sub.refl _⟩ ?_
  rintro m T G' ⟨k, d, e0, e8, e9, e16, e17, hm, hk', hS⟩
  simp (maxSteps := 300000) (disch := omega) only [gws, ↓reduceIte, reduceEqDiff, reduceToNat, reduceMul, reduceAdd, Nat.reduceBEq, isLd, e8, e9, e16, e17]
  by_cases hkk : (k : Int) < C
  · simp (maxSteps := 300000) (disch := omega) only [gws, ↓reduceIte, reduceEqDiff, reduceToNat, reduceMul, reduceAdd, Nat.reduceBEq, isLd, e8, e9, e16, e17, hkk]
    intro b10 hb10
    simp (maxSteps := 300000) (disch := omega) only [gws, ↓reduceIte, reduceEqDiff, reduceToNat, reduceMul, reduceAdd, Nat.reduceBEq, isLd]
    refine st_one (put_same _ _ _) (by simp) rfl ?_
    rw [put_put']
    have s10 := Sub.put hb10 ⟨[Value.int .i64 0].set 0 (.int .i64 k), true⟩
    have w := sl_from (A := B) (n := 0) (c := cb) (l := 0) (Nat.le_refl _) (by omega)
    simp only [pa_zero, ite_self, Nat.sub_zero] at w
    simp (maxSteps := 300000) (disch := omega) only [gws, ↓reduceIte, reduceEqDiff, reduceToNat, reduceMul, reduceAdd, Nat.reduceBEq, isLd, e0, e8, e9, e16, e17, w, Option.map_none]
    refine ktj (by simp) ?_
    simp (maxSteps := 300000) (disch := omega) only [gws, ↓reduceIte, reduceEqDiff, reduceToNat, reduceMul, reduceAdd, Nat.reduceBEq, isLd]
    refine gLoop_intro (fun m' T' G2 => T' 7 = .int .i64 0 ∧ T' 8 = .int .i64 0 ∧ G2 = put G' b10 ⟨[Value.int .i64 0].set 0 (.int .i64 k), true⟩) 0 ⟨by first | rfl | simp (maxSteps := 300000) (disch := omega) only [gws, ↓reduceIte, reduceEqDiff, reduceToNat, reduceMul, reduceAdd, Nat.reduceBEq, isLd], by first | rfl | simp (maxSteps := 300000) (disch := omega) only [gws, ↓reduceIte, reduceEqDiff, reduceToNat, reduceMul, reduceAdd, Nat.reduceBEq, isLd], rfl⟩ ?_
    rintro m' T' G2 ⟨x7, x8, rfl⟩
    simp (maxSteps := 300000) (disch := omega) only [gws, ↓reduceIte, reduceEqDiff, reduceToNat, reduceMul, reduceAdd, Nat.reduceBEq, isLd, x7, x8, show ((0 : Int) < 0) = False from eq_false (by decide), show ((-1 : Int) < 0) = True from eq_true (by decide), e0, e8, e9, e16, e17]
    exact ⟨m - 1, by omega, _, Sub.refl _, k + 1, 0, rfl, rfl, by omega, by omega, hS.trans s10⟩
  · simp (maxSteps := 300000) (disch := omega) only [gws, ↓reduceIte, reduceEqDiff, reduceToNat, reduceMul, reduceAdd, Nat.reduceBEq, isLd, e8, e9, e16, e17, hkk]
    exact hk _ _ hS
theorem elF_R0 (p : Int) (f : Int → Int → Int) (c : Nat) : (elF p 0 f c).piv = [] := List.length_eq_zero_iff.1 (by have := (elF_len p 0 f c).1; omega)
theorem impl_solveRC_ok {G : GH} {p : Int} {A Bb : Option Addr} {R C c cb : Nat} {F : Int → Int → Int} {bs : List Int} (h : IntS G A c (flatL R C F)) (hb : IntS G Bb cb bs) (hbl : bs.length = R) (hbF : ∀ i : Nat, i < R → bs.getD i 0 = F i C) (hR : R < 2 ^ 8) (hC : C < 2 ^ 8) (hr : Rng F p) (hp : 1 < p ∧ p ≤ 2 ^ 30) {K : Value → GH → Prop}
    (h0 : (C : Int) ∈ (elF p R F (C + 1)).piv → K (.tuple [.slice none 0 0, .bool false].toArray) G)
    (h1 : ¬ (C : Int) ∈ (elF p R F (C + 1)).piv → ∀ G' b, Sub G G' → G b = none → G' b = some ⟨fcells C (solX (elF p R F (C + 1)) C (elF p R F (C + 1)).piv.length), true⟩ → K (.tuple [.slice (some ⟨b, 0, none⟩) C C, .bool true].toArray) G') :
    GC Tryz.prog 127 [matV p R C A (R * C) c, .slice Bb R cb] G K := by
  refine GC_drop (kfu (by simp) ?_)
  unfold matV matC
  simp (maxSteps := 300000) (disch := omega) only [gws, ↓reduceIte, reduceEqDiff, reduceToNat, reduceMul, reduceAdd, Nat.reduceBEq, isLd]
  intro b2 hb2
  have s1 := Sub.put hb2 ⟨[.int .i64 p, .int .i64 R, .int .i64 C, .slice A (R * C) c], true⟩
  have r0 : rd (put G b2 ⟨[.int .i64 p, .int .i64 R, .int .i64 C, .slice A (R * C) c], true⟩) (some ⟨b2, 0, none⟩) = some (.int .i64 p) := rd_box _ _ _ 0 _ rfl
  have r1 : rd (put G b2 ⟨[.int .i64 p, .int .i64 R, .int .i64 C, .slice A (R * C) c], true⟩) (some ⟨b2, 1, none⟩) = some (.int .i64 R) := rd_box _ _ _ 1 _ rfl
  have r2 : rd (put G b2 ⟨[.int .i64 p, .int .i64 R, .int .i64 C, .slice A (R * C) c], true⟩) (some ⟨b2, 2, none⟩) = some (.int .i64 C) := rd_box _ _ _ 2 _ rfl
  have r3 : rd (put G b2 ⟨[.int .i64 p, .int .i64 R, .int .i64 C, .slice A (R * C) c], true⟩) (some ⟨b2, 3, none⟩) = some (.slice A (R * C) c) := rd_box _ _ _ 3 _ rfl
  revert s1 r0 r1 r2 r3
  generalize put G b2 ⟨[.int .i64 p, .int .i64 R, .int .i64 C, .slice A (R * C) c], true⟩ = G1
  intro s1 r0 r1 r2 r3
  simp (maxSteps := 300000) (disch := omega) only [gws, ↓reduceIte, reduceEqDiff, reduceToNat, reduceMul, reduceAdd, Nat.reduceBEq, isLd, r0, r1, r2, r3]
  refine impl_rowsOf3_ok (p := p) (h.sub s1) (by omega) (by omega) fun G2 Bo cbo hs hB => ?_
  have hb1 := hb.sub s1
  by_cases hR0 : R = 0
  · subst hR0
    have e0 := elF_R0 p F (C + 1)
    simp (maxSteps := 300000) (disch := omega) only [gws, ↓reduceIte, reduceEqDiff, reduceToNat, reduceMul, reduceAdd, Nat.reduceBEq, isLd]
    refine gLoop_intro (fun m T G' => T 2 = .pointer (some ⟨b2, 0, none⟩) ∧ T 6 = .slice Bo 0 cbo ∧ T 16 = .int .i64 0 ∧ T 17 = .int .i64 0 ∧ G' = G2) 0 ⟨by simp (maxSteps := 300000) (disch := omega) only [gws, ↓reduceIte, reduceEqDiff, reduceToNat, reduceMul, reduceAdd, Nat.reduceBEq, isLd], by simp (maxSteps := 300000) (disch := omega) only [gws, ↓reduceIte, reduceEqDiff, reduceToNat, reduceMul, reduceAdd, Nat.reduceBEq, isLd], by simp (maxSteps := 300000) (disch := omega) only [gws, ↓reduceIte, reduceEqDiff, reduceToNat, reduceMul, reduceAdd, Nat.reduceBEq, isLd] <;> rfl, by simp (maxSteps := 300000) (disch := omega) only [gws, ↓reduceIte, reduceEqDiff, reduceToNat, reduceMul, reduceAdd, Nat.reduceBEq, isLd] <;> rfl, rfl⟩ ?_
    rintro m T G' ⟨e2, e6, e16, e17, rfl⟩
    have q0 := rd_sub hB.sub r0
    have q2 := rd_sub hB.sub r2
    simp (maxSteps := 300000) (disch := omega) only [gws, ↓reduceIte, reduceEqDiff, reduceToNat, reduceMul, reduceAdd, Nat.reduceBEq, isLd, e2, e6, e16, e17, show ((0 : Int) < 0) = False from eq_false (by decide), q0, q2]
    rw [show ((C : Int) + 1) = ((C + 1 : Nat) : Int) from rfl]
    refine impl_elimR0_ok (C := C + 1) (by omega) fun G3 d s3 => ?_
    have q2 := rd_sub s3 q2
    simp (maxSteps := 300000) (disch := omega) only [gws, ↓reduceIte, reduceEqDiff, reduceToNat, reduceMul, reduceAdd, Nat.reduceBEq, isLd, e2, e6, q2]
    refine ⟨C, C, rfl, rfl, Nat.le_refl _, by omega, by omega, fun bx hbx => ?_⟩
    have hz : zc [.int .i64 0] C = fcells C (solX (elF p 0 F (C + 1)) C (elF p 0 F (C + 1)).piv.length) := by rw [e0, zc_one, rep_range]; rfl
    rw [hz]
    simp (maxSteps := 300000) (disch := omega) only [gws, ↓reduceIte, reduceEqDiff, reduceToNat, reduceMul, reduceAdd, Nat.reduceBEq, isLd]
    have sx := Sub.put hbx ⟨fcells C (solX (elF p 0 F (C + 1)) C (elF p 0 F (C + 1)).piv.length), true⟩
    have gxx := put_same G3 bx ⟨fcells C (solX (elF p 0 F (C + 1)) C (elF p 0 F (C + 1)).piv.length), true⟩
    revert sx gxx
    generalize put G3 bx ⟨fcells C (solX (elF p 0 F (C + 1)) C (elF p 0 F (C + 1)).piv.length), true⟩ = G4
    intro sx gxx
    refine gLoop_intro (fun m T G' => T 10 = .slice (some ⟨bx, 0, none⟩) C C ∧ T 48 = .int .i64 0 ∧ T 49 = .int .i64 0 ∧ G' = G4) 0 ⟨by simp (maxSteps := 300000) (disch := omega) only [gws, ↓reduceIte, reduceEqDiff, reduceToNat, reduceMul, reduceAdd, Nat.reduceBEq, isLd], by simp (maxSteps := 300000) (disch := omega) only [gws, ↓reduceIte, reduceEqDiff, reduceToNat, reduceMul, reduceAdd, Nat.reduceBEq, isLd] <;> rfl, by simp (maxSteps := 300000) (disch := omega) only [gws, ↓reduceIte, reduceEqDiff, reduceToNat, reduceMul, reduceAdd, Nat.reduceBEq, isLd] <;> rfl, rfl⟩ ?_
    rintro m T G' ⟨e10, e48, e49, rfl⟩
    simp (maxSteps := 300000) (disch := omega) only [gws, ↓reduceIte, reduceEqDiff, reduceToNat, reduceMul, reduceAdd, Nat.reduceBEq, isLd, e10, e48, e49, show ((0 : Int) < 0) = False from eq_false (by decide)]
    have s13 := (s1.trans hB.sub).trans s3
    exact ⟨_, Sub.refl _, h1 (by rw [e0]; simp) _ bx (s13.trans sx) (s13.none hbx) gxx⟩
  obtain ⟨bO, ro, rfl, hcap, hA⟩ := hB.ao (by omega)
  obtain ⟨A2, hA2⟩ : ∃ A2 : Nat → Option Addr, A2 = fun i => (hs i).1 := ⟨_, rfl⟩
  obtain ⟨c2, hc2⟩ : ∃ c2 : Nat → Nat, c2 = fun i => (hs i).2 := ⟨_, rfl⟩
  rw [← hA2, ← hc2] at hA
  clear hA2 hc2
  simp (maxSteps := 300000) (disch := omega) only [gws, ↓reduceIte, reduceEqDiff, reduceToNat, reduceMul, reduceAdd, Nat.reduceBEq, isLd]
  refine gLoop_intro (fun m T G' => ∃ (k : Nat) (A' : Nat → Option Addr) (c' : Nat → Nat), T 1 = .slice Bb R cb ∧ T 2 = .pointer (some ⟨b2, 0, none⟩) ∧ T 6 = .slice (some ⟨bO, 0, none⟩) R cbo ∧ T 16 = .int .i64 R ∧ T 17 = .int .i64 k ∧ m + k = R ∧ k ≤ R ∧ Ao G1 G' bO A' (fun i => if i < k then C + 1 else C) c' R F ro)
    R ⟨0, A2, c2, by simp (maxSteps := 300000) (disch := omega) only [gws, ↓reduceIte, reduceEqDiff, reduceToNat, reduceMul, reduceAdd, Nat.reduceBEq, isLd], by simp (maxSteps := 300000) (disch := omega) only [gws, ↓reduceIte, reduceEqDiff, reduceToNat, reduceMul, reduceAdd, Nat.reduceBEq, isLd], by simp (maxSteps := 300000) (disch := omega) only [gws, ↓reduceIte, reduceEqDiff, reduceToNat, reduceMul, reduceAdd, Nat.reduceBEq, isLd], by simp (maxSteps := 300000) (disch := omega) only [gws, ↓reduceIte, reduceEqDiff, reduceToNat, reduceMul, reduceAdd, Nat.reduceBEq, isLd], by simp (maxSteps := 300000) (disch := omega) only [gws, ↓reduceIte, reduceEqDiff, reduceToNat, reduceMul, reduceAdd, Nat.reduceBEq, isLd] <;> rfl, by omega, by omega, by
      have e : (fun i : Nat => if i < 0 then C + 1 else C) = fun _ => C := by funext i; rw [if_neg (by omega)]
      rw [e]; exact hA⟩ ?_
  clear hA hB
  rintro m T G' ⟨k, A', c', e1, e2, e6, e16, e17, hm, hkm, hA⟩
  simp (maxSteps := 300000) (disch := omega) only [gws, ↓reduceIte, reduceEqDiff, reduceToNat, reduceMul, reduceAdd, Nat.reduceBEq, isLd, e1, e2, e6, e16, e17]
  by_cases hkk : (k : Int) < R
  · have hg := hA.get (show k < R by omega)
    rw [if_neg (Nat.lt_irrefl k)] at hg
    have hbk := (hb1.sub hA.sub).rd k (by omega)
    rw [hbF k (by omega)] at hbk
    have hsb := hb1.sn (by omega)
    simp (maxSteps := 300000) (disch := omega) only [gws, ↓reduceIte, reduceEqDiff, reduceToNat, reduceMul, reduceAdd, Nat.reduceBEq, isLd, e1, e2, e6, e16, e17, hkk, hg, hbk, gBs]
    refine ⟨by intro v hv; simp at hv; subst hv; rfl, fun b30 hb30 => ?_⟩
    refine ⟨rd_sub (Sub.put hb30 _) hg, ?_⟩
    have hpush := (hA.up (Sub.put hb30 ⟨[Value.int .i64 (F k C)], true⟩)).push (k := k) (by omega) (by rw [if_neg (Nat.lt_irrefl k)]; omega) (Bn := some ⟨b30, 0, none⟩) (dn := 1)
    rw [if_neg (Nat.lt_irrefl k)] at hpush
    refine hpush (cells_one [.int .i64 (F k C)] true) fun G3 A3 c3 s3 hst => ?_
    have hbk3 := (hb1.sub s3).rd k (by omega)
    rw [hbF k (by omega)] at hbk3
    simp (maxSteps := 300000) (disch := omega) only [gws, ↓reduceIte, reduceEqDiff, reduceToNat, reduceMul, reduceAdd, Nat.reduceBEq, isLd, e1, e2, e6, e16, e17]
    refine ⟨hbk3, hst _ fun G4 hA4 => ?_⟩
    simp (maxSteps := 300000) (disch := omega) only [gws, ↓reduceIte, reduceEqDiff, reduceToNat, reduceMul, reduceAdd, Nat.reduceBEq, isLd, e1, e2, e6, e16, e17]
    have e : (fun i : Nat => if i < k + 1 then C + 1 else C) = fun i => if i = k then C + 1 else if i < k then C + 1 else C := by
      funext i
      by_cases h1 : i = k
      · rw [if_pos h1, if_pos (by omega)]
      · rw [if_neg h1]
        by_cases h2 : i < k
        · rw [if_pos h2, if_pos (by omega)]
        · rw [if_neg h2, if_neg (by omega)]
    rw [← e] at hA4
    exact ⟨m - 1, by omega, G4, Sub.refl _, k + 1, _, _, rfl, by omega, by omega, hA4⟩
  · obtain rfl : k = R := by omega
    have q0 := rd_sub hA.sub r0
    have q2 := rd_sub hA.sub r2
    simp (maxSteps := 300000) (disch := omega) only [gws, ↓reduceIte, reduceEqDiff, reduceToNat, reduceMul, reduceAdd, Nat.reduceBEq, isLd, e1, e2, e6, e16, e17, hkk, q0, q2]
    have hw := hA.rw' (C := C + 1) fun i hi => if_pos hi
    rw [show ((C : Int) + 1) = ((C + 1 : Nat) : Int) from rfl]
    refine impl_eliminate_ok hw hcap (by omega) (by omega) hr hp fun G6 A6 c6 Ap6 cq6 hw6 hP => ?_
    have hpl := elF_len p k F (C + 1)
    have hpb := elF_piv p k F (C + 1)
    have q2 := rd_sub hw6.sub r2
    generalize elF p k F (C + 1) = E at *
    simp (maxSteps := 300000) (disch := omega) only [gws, ↓reduceIte, reduceEqDiff, reduceToNat, reduceMul, reduceAdd, Nat.reduceBEq, isLd, e1, e2, e6, e16, e17, q2]
    refine ⟨C, C, rfl, rfl, Nat.le_refl _, by omega, by omega, fun bx hbx => ?_⟩
    have hz : zc [.int .i64 0] C = fcells C (solX E C 0) := by rw [zc_one, rep_range]; rfl
    rw [hz]
    simp (maxSteps := 300000) (disch := omega) only [gws, ↓reduceIte, reduceEqDiff, reduceToNat, reduceMul, reduceAdd, Nat.reduceBEq, isLd]
    refine gLoop_intro (fun m T G' => ∃ j : Nat, T 2 = .pointer (some ⟨b2, 0, none⟩) ∧ T 6 = .slice (some ⟨bO, 0, none⟩) k cbo ∧ T 10 = .slice (some ⟨bx, 0, none⟩) C C ∧ T 47 = .slice Ap6 E.piv.length cq6 ∧ T 48 = .int .i64 E.piv.length ∧ T 49 = .int .i64 j ∧ m + j = E.piv.length ∧ j ≤ E.piv.length ∧ Sub G6 G' ∧ G' bx = some ⟨fcells C (solX E C j), true⟩ ∧ ∀ i, i < j → E.piv.getD i 0 ≠ C)
      E.piv.length ⟨0, by simp (maxSteps := 300000) (disch := omega) only [gws, ↓reduceIte, reduceEqDiff, reduceToNat, reduceMul, reduceAdd, Nat.reduceBEq, isLd, e2], by simp (maxSteps := 300000) (disch := omega) only [gws, ↓reduceIte, reduceEqDiff, reduceToNat, reduceMul, reduceAdd, Nat.reduceBEq, isLd, e6], by simp (maxSteps := 300000) (disch := omega) only [gws, ↓reduceIte, reduceEqDiff, reduceToNat, reduceMul, reduceAdd, Nat.reduceBEq, isLd], by simp (maxSteps := 300000) (disch := omega) only [gws, ↓reduceIte, reduceEqDiff, reduceToNat, reduceMul, reduceAdd, Nat.reduceBEq, isLd], by simp (maxSteps := 300000) (disch := omega) only [gws, ↓reduceIte, reduceEqDiff, reduceToNat, reduceMul, reduceAdd, Nat.reduceBEq, isLd], by simp (maxSteps := 300000) (disch := omega) only [gws, ↓reduceIte, reduceEqDiff, reduceToNat, reduceMul, reduceAdd, Nat.reduceBEq, isLd] <;> rfl, by omega, by omega, Sub.put hbx _, put_same _ _ _, fun i hi => by omega⟩ ?_
    clear e1 e2 e6 e16 e17 hm hkm hA hkk
    rintro m T G' ⟨j, e2, e6, e10, e47, e48, e49, hm, hjm, s6, hX, hne⟩
    have g2 := rd_sub s6 q2
    simp (maxSteps := 300000) (disch := omega) only [gws, ↓reduceIte, reduceEqDiff, reduceToNat, reduceMul, reduceAdd, Nat.reduceBEq, isLd, e2, e6, e10, e47, e48, e49]
    by_cases hjj : (j : Int) < E.piv.length
    · have hpj := (hP.sub s6).rd j (by omega)
      have hsP := hP.sn (by omega)
      have hpbj := hpb j (by omega)
      simp (maxSteps := 300000) (disch := omega) only [gws, ↓reduceIte, reduceEqDiff, reduceToNat, reduceMul, reduceAdd, Nat.reduceBEq, isLd, e2, e6, e10, e47, e48, e49, hjj, hpj, g2]
      by_cases hpn : E.piv.getD j 0 = C
      · simp (maxSteps := 300000) (disch := omega) only [gws, ↓reduceIte, reduceEqDiff, reduceToNat, reduceMul, reduceAdd, Nat.reduceBEq, isLd, eq_true hpn, e2, e6, e10, e47, e48, e49, g2]
        exact ⟨G, s1.trans (hw6.sub.trans s6), h0 (by rw [← hpn]; simp [List.getD, show j < E.piv.length by omega])⟩
      · have gr := rd_sub s6 (hw6.get (show j < k by omega))
        have gc := rd_sub s6 (hw6.cell (show j < k by omega) (j := C) (by omega))
        have hsr := hw6.sn (show j < k by omega) (by omega)
        simp (maxSteps := 300000) (disch := omega) only [gws, ↓reduceIte, reduceEqDiff, reduceToNat, reduceMul, reduceAdd, Nat.reduceBEq, isLd, eq_false hpn, e2, e6, e10, e47, e48, e49, g2, gr, gc]
        refine st_fcells hX (v := E.piv.getD j 0) (by omega) (by omega) fun G7 hX7 hK7 => ?_
        simp (maxSteps := 300000) (disch := omega) only [gws, ↓reduceIte, reduceEqDiff, reduceToNat, reduceMul, reduceAdd, Nat.reduceBEq, isLd, e2, e6, e10, e47, e48, e49]
        exact ⟨m - 1, by omega, G7, Sub.refl _, j + 1, rfl, by omega, by omega, sub_keep hK7 hbx s6, hX7, fun i hi => by
          by_cases e : i = j
          · rw [e]; exact hpn
          · exact hne i (by omega)⟩
    · simp (maxSteps := 300000) (disch := omega) only [gws, ↓reduceIte, reduceEqDiff, reduceToNat, reduceMul, reduceAdd, Nat.reduceBEq, isLd, e2, e6, e10, e47, e48, e49, hjj]
      obtain rfl : j = E.piv.length := by omega
      have sG := s1.trans (hw6.sub.trans s6)
      refine ⟨G', Sub.refl _, h1 (fun hmem => ?_) G' bx sG ((s1.trans hw6.sub).none hbx) hX⟩
      obtain ⟨i, hi, e⟩ := List.mem_iff_getElem.1 hmem
      exact hne i hi (by simp [List.getD, hi, e])
/-- the first temporaries stay. -/
def Sam (k : Nat) (T' T : Nat → Value) : Prop := ∀ t, t < k → T' t = T t
theorem Sam.refl (k : Nat) (T : Nat → Value) : Sam k T T := fun t _ => rfl
theorem Sam.upd {k n : Nat} {T' T : Nat → Value} (h : Sam k T' T) (v : Value) (hn : k ≤ n) : Sam k (Gh.upd T' n v) T := fun t ht => by
  unfold Gh.upd; rw [if_neg (by omega)]; exact h t ht
theorem Sam.trans {k : Nat} {T T' T'' : Nat → Value} (h : Sam k T'' T') (h' : Sam k T' T) : Sam k T'' T := fun t ht => (h t ht).trans (h' t ht)
theorem Sam.le {k l : Nat} {T T' : Nat → Value} (h : Sam k T' T) (hl : l ≤ k) : Sam l T' T := fun t ht => h t (by omega)
theorem Keep.refl (b : Nat) (G : GH) : Keep b G G := fun x _ => rfl
theorem Keep.trans {b : Nat} {G G' G'' : GH} (h : Keep b G G') (h' : Keep b G' G'') : Keep b G G'' := fun x hx => (h' x hx).trans (h x hx)
/-- what the loops read beside the cells. -/
structure RdG (G : GH) (bm b5 bc R w cc : Nat) : Prop where
  m1 : rd G (some ⟨bm, 1, none⟩) = some (.int .i64 R)
  c3 : rd G (some ⟨b5, 3, none⟩) = some (.slice (some ⟨bc, 0, none⟩) (R * w) cc)
  nm : bm ≠ bc
  n5 : b5 ≠ bc
theorem RdG.keep {G G' : GH} {bm b5 bc R w cc : Nat} (h : RdG G bm b5 bc R w cc) (k : Keep bc G G') : RdG G' bm b5 bc R w cc := ⟨rd_keep k h.nm h.m1, rd_keep k h.n5 h.c3, h.nm, h.n5⟩
theorem RdG.sub {G G' : GH} {bm b5 bc R w cc : Nat} (h : RdG G bm b5 bc R w cc) (s : Sub G G') : RdG G' bm b5 bc R w cc := ⟨rd_sub s h.m1, rd_sub s h.c3, h.nm, h.n5⟩
theorem iw_bd {i w : Nat} (hi : i ≤ 2 ^ 10) (hw : w ≤ 2 ^ 10) : 0 ≤ (i : Int) * w ∧ (i : Int) * w ≤ 2 ^ 20 := by
  have h : i * w ≤ 2 ^ 10 * 2 ^ 10 := Nat.mul_le_mul hi hw
  have e : ((i * w : Nat) : Int) = (i : Int) * w := by push_cast; rfl
  omega
theorem red_l0 {G : GH} {bm b5 bc R w cc k t : Nat} {f : Int → Int → Int} {T : Nat → Value} {Q : Cont} (hG : RdG G bm b5 bc R w cc) (hF : Fl G bc R w f) (hR : R ≤ 2 ^ 10) (hw : w ≤ 2 ^ 10) (hk : k < w) (ht : t ≤ R)
    (x0 : T 0 = .pointer (some ⟨bm, 0, none⟩)) (x5 : T 5 = .pointer (some ⟨b5, 0, none⟩)) (x7 : T 7 = .int .i64 w) (x11 : T 11 = .int .i64 k) (x12 : T 12 = .int .i64 t)
    (hQ : ∀ T' i, Sam 12 T' T → T' 12 = .int .i64 (i : Nat) → t ≤ i → i ≤ R → (∀ j : Nat, t ≤ j → j < i → f j k = 0) → (i < R → f i k ≠ 0) → Q (.ex 2) T' G) : gLoop (gW Tryz.prog kxq) Q T G := by
  refine gLoop_intro (fun m T' G' => ∃ i : Nat, Sam 12 T' T ∧ T' 12 = .int .i64 i ∧ m + i = R ∧ t ≤ i ∧ i ≤ R ∧ G' = G ∧ ∀ j : Nat, t ≤ j → j < i → f j k = 0) (R - t) ⟨t, Sam.refl _ _, x12, by omega, Nat.le_refl _, ht, rfl, fun j h1 h2 => by omega⟩ ?_
  rintro m T' G' ⟨i, hS, y12, hm, hti, hiR, rfl, hz⟩
  have y0 := (hS 0 (by omega)).trans x0
  have y5 := (hS 5 (by omega)).trans x5
  have y7 := (hS 7 (by omega)).trans x7
  have y11 := (hS 11 (by omega)).trans x11
  have m1 := hG.m1
  have c3 := hG.c3
  have hb := iw_bd (i := i) (w := w) (by omega) hw
  have w1 := w64 ((i : Int) * w) (by omega) (by omega)
  have w2 := w64 ((i : Int) * w + k) (by omega) (by omega)
  simp (maxSteps := 300000) (disch := omega) only [gws, ↓reduceIte, reduceEqDiff, reduceToNat, reduceMul, reduceAdd, Nat.reduceBEq, isLd, y0, y5, y7, y11, y12, m1]
  by_cases hii : (i : Int) < R
  · have hr := hF.rd (i := i) (j := k) (by omega) hk
    have h1 := flat_lt (R := R) (w := w) (i := i) (j := k) (by omega) hk
    have h2 := flat_nn i k w
    simp (maxSteps := 300000) (disch := omega) only [gws, ↓reduceIte, reduceEqDiff, reduceToNat, reduceMul, reduceAdd, Nat.reduceBEq, isLd, y0, y5, y7, y11, y12, m1, hii, c3, w1, w2, hr]
    by_cases hz0 : f i k = 0
    · simp (maxSteps := 300000) (disch := omega) only [gws, ↓reduceIte, reduceEqDiff, reduceToNat, reduceMul, reduceAdd, Nat.reduceBEq, isLd, eq_true hz0, y0, y5, y7, y11, y12]
      refine ⟨m - 1, by omega, G', Sub.refl _, i + 1, ?_, rfl, by omega, by omega, by omega, rfl, fun j h1 h2 => ?_⟩
      · repeat (first | exact hS | refine Sam.upd ?_ _ (by omega))
      · by_cases e : j = i
        · rw [e]; exact hz0
        · exact hz j h1 (by omega)
    · simp (maxSteps := 300000) (disch := omega) only [gws, ↓reduceIte, reduceEqDiff, reduceToNat, reduceMul, reduceAdd, Nat.reduceBEq, isLd, eq_false hz0, y0, y5, y7, y11, y12]
      refine hQ _ i ?_ (by simp (maxSteps := 300000) (disch := omega) only [gws, ↓reduceIte, reduceEqDiff, reduceToNat, reduceMul, reduceAdd, Nat.reduceBEq, isLd, y12]) hti (by omega) hz fun _ => hz0
      repeat (first | exact hS | refine Sam.upd ?_ _ (by omega))
  · simp (maxSteps := 300000) (disch := omega) only [gws, ↓reduceIte, reduceEqDiff, reduceToNat, reduceMul, reduceAdd, Nat.reduceBEq, isLd, y0, y5, y7, y11, y12, m1, hii]
    refine hQ _ i ?_ (by simp (maxSteps := 300000) (disch := omega) only [gws, ↓reduceIte, reduceEqDiff, reduceToNat, reduceMul, reduceAdd, Nat.reduceBEq, isLd, y12]) hti (by omega) hz fun x => by omega
    repeat (first | exact hS | refine Sam.upd ?_ _ (by omega))
theorem red_l1 {G : GH} {bm b5 bc R w cc t i : Nat} {f : Int → Int → Int} {T : Nat → Value} {Q : Cont} (hG : RdG G bm b5 bc R w cc) (hF : Fl G bc R w f) (hR : R ≤ 2 ^ 10) (hw : w ≤ 2 ^ 10) (ht : t < R) (hi : i < R) (hne : i ≠ t)
    (x5 : T 5 = .pointer (some ⟨b5, 0, none⟩)) (x7 : T 7 = .int .i64 w) (x10 : T 10 = .int .i64 t) (x12 : T 12 = .int .i64 i) (x13 : T 13 = .int .i64 0)
    (hQ : ∀ T' G', Sam 13 T' T → Fl G' bc R w (swp f t i) → Keep bc G G' → Q (.ex 4) T' G') : gLoop (gW Tryz.prog ky0) Q T G := by
  refine gLoop_intro (fun m T' G' => ∃ j : Nat, Sam 13 T' T ∧ T' 13 = .int .i64 j ∧ m + j = w ∧ j ≤ w ∧ Keep bc G G' ∧ Fl G' bc R w (fun a b => if b < j then swp f t i a b else f a b)) w ⟨0, Sam.refl _ _, x13, by omega, by omega, Keep.refl _ _, hF.cong fun a b _ _ => by rw [if_neg (by omega)]⟩ ?_
  rintro m T' G' ⟨j, hS, y13, hm, hj, hK, hF'⟩
  have y5 := (hS 5 (by omega)).trans x5
  have y7 := (hS 7 (by omega)).trans x7
  have y10 := (hS 10 (by omega)).trans x10
  have y12 := (hS 12 (by omega)).trans x12
  simp (maxSteps := 300000) (disch := omega) only [gws, ↓reduceIte, reduceEqDiff, reduceToNat, reduceMul, reduceAdd, Nat.reduceBEq, isLd, y5, y7, y10, y12, y13]
  by_cases hjj : (j : Int) < w
  · have c3 := (hG.keep hK).c3
    have hbi := iw_bd (i := i) (w := w) (by omega) hw
    have hbt := iw_bd (i := t) (w := w) (by omega) hw
    have w1 := w64 ((i : Int) * w) (by omega) (by omega)
    have w2 := w64 ((i : Int) * w + j) (by omega) (by omega)
    have w3 := w64 ((t : Int) * w) (by omega) (by omega)
    have w4 := w64 ((t : Int) * w + j) (by omega) (by omega)
    have ri := hF'.rd (i := i) (j := j) hi (by omega)
    have rt := hF'.rd (i := t) (j := j) ht (by omega)
    rw [if_neg (by omega)] at ri rt
    have h1 := flat_lt (R := R) (w := w) (i := i) (j := j) hi (by omega)
    have h2 := flat_nn i j w
    have h3 := flat_lt (R := R) (w := w) (i := t) (j := j) ht (by omega)
    have h4 := flat_nn t j w
    simp (maxSteps := 300000) (disch := omega) only [gws, ↓reduceIte, reduceEqDiff, reduceToNat, reduceMul, reduceAdd, Nat.reduceBEq, isLd, y5, y7, y10, y12, y13, hjj, c3, w1, w2, w3, w4, ri, rt]
    refine hF'.st hi (by omega) fun G1 hF1 hK1 => ?_
    have c31 := (hG.keep (hK.trans hK1)).c3
    simp (maxSteps := 300000) (disch := omega) only [gws, ↓reduceIte, reduceEqDiff, reduceToNat, reduceMul, reduceAdd, Nat.reduceBEq, isLd, y5, y7, y10, y12, y13, c31, w3, w4]
    refine hF1.st ht (by omega) fun G2 hF2 hK2 => ?_
    simp (maxSteps := 300000) (disch := omega) only [gws, ↓reduceIte, reduceEqDiff, reduceToNat, reduceMul, reduceAdd, Nat.reduceBEq, isLd, y5, y7, y10, y12, y13]
    refine ⟨m - 1, by omega, G2, Sub.refl _, j + 1, ?_, rfl, by omega, by omega, (hK.trans hK1).trans hK2, hF2.cong fun a b ha hb => ?_⟩
    · repeat (first | exact hS | refine Sam.upd ?_ _ (by omega))
    · unfold upd2 swp
      dsimp only
      by_cases e : b = j
      · subst e
        by_cases ea : a = t
        · subst ea; rw [if_pos ⟨rfl, rfl⟩, if_pos (by omega), if_pos rfl]
        · by_cases ei : a = i
          · subst ei; rw [if_neg (by omega), if_pos ⟨rfl, rfl⟩, if_pos (by omega), if_neg (by omega), if_pos rfl]
          · rw [if_neg (by omega), if_neg (by omega), if_neg (by omega), if_pos (by omega), if_neg (by omega), if_neg (by omega)]
      · rw [if_neg (by omega), if_neg (by omega)]
        by_cases e2 : b < j
        · rw [if_pos (show (b : Int) < (j : Int) by omega), if_pos (show (b : Int) < ((j + 1 : Nat) : Int) by omega)]
        · rw [if_neg (show ¬ (b : Int) < (j : Int) by omega), if_neg (show ¬ (b : Int) < ((j + 1 : Nat) : Int) by omega)]
  · simp (maxSteps := 300000) (disch := omega) only [gws, ↓reduceIte, reduceEqDiff, reduceToNat, reduceMul, reduceAdd, Nat.reduceBEq, isLd, y5, y7, y10, y12, y13, hjj]
    refine hQ _ G' ?_ (hF'.cong fun a b ha hb => if_pos (by omega)) hK
    repeat (first | exact hS | refine Sam.upd ?_ _ (by omega))
theorem red_l2 {G : GH} {bm b5 bc R w cc t : Nat} {p iv : Int} {f : Int → Int → Int} {T : Nat → Value} {Q : Cont} (hG : RdG G bm b5 bc R w cc) (hF : Fl G bc R w f) (hR : R ≤ 2 ^ 10) (hw : w ≤ 2 ^ 10) (ht : t < R) (hr : Rng f p) (hp : 1 < p ∧ p ≤ 2 ^ 30) (hv : 0 ≤ iv ∧ iv < p)
    (x5 : T 5 = .pointer (some ⟨b5, 0, none⟩)) (x6 : T 6 = .int .i64 p) (x7 : T 7 = .int .i64 w) (x10 : T 10 = .int .i64 t) (x16 : T 16 = .int .i64 iv) (x17 : T 17 = .int .i64 0)
    (hQ : ∀ T' G', Sam 17 T' T → Fl G' bc R w (scl f t iv p) → Keep bc G G' → Q (.ex 6) T' G') : gLoop (gW Tryz.prog ky8) Q T G := by
  refine gLoop_intro (fun m T' G' => ∃ j : Nat, Sam 17 T' T ∧ T' 17 = .int .i64 j ∧ m + j = w ∧ j ≤ w ∧ Keep bc G G' ∧ Fl G' bc R w (fun a b => if b < j then scl f t iv p a b else f a b)) w ⟨0, Sam.refl _ _, x17, by omega, by omega, Keep.refl _ _, hF.cong fun a b _ _ => by rw [if_neg (by omega)]⟩ ?_
  rintro m T' G' ⟨j, hS, y17, hm, hj, hK, hF'⟩
  have y5 := (hS 5 (by omega)).trans x5
  have y6 := (hS 6 (by omega)).trans x6
  have y7 := (hS 7 (by omega)).trans x7
  have y10 := (hS 10 (by omega)).trans x10
  have y16 := (hS 16 (by omega)).trans x16
  simp (maxSteps := 300000) (disch := omega) only [gws, ↓reduceIte, reduceEqDiff, reduceToNat, reduceMul, reduceAdd, Nat.reduceBEq, isLd, y5, y6, y7, y10, y16, y17]
  by_cases hjj : (j : Int) < w
  · have c3 := (hG.keep hK).c3
    have hbt := iw_bd (i := t) (w := w) (by omega) hw
    have w3 := w64 ((t : Int) * w) (by omega) (by omega)
    have w4 := w64 ((t : Int) * w + j) (by omega) (by omega)
    have rt := hF'.rd (i := t) (j := j) ht (by omega)
    rw [if_neg (by omega)] at rt
    have h3 := flat_lt (R := R) (w := w) (i := t) (j := j) ht (by omega)
    have h4 := flat_nn t j w
    have hb := hr t j
    have hmm := mulB (a := f t j) (b := iv) (A := 2 ^ 30) (B := 2 ^ 30) (by omega) (by omega)
    have hnn : 0 ≤ f t j * iv := Int.mul_nonneg hb.1 hv.1
    have w5 := w64 (f t j * iv) (by omega) (by omega)
    have hrm : (f t j * iv).tmod p = f t j * iv % p := Int.tmod_eq_emod_of_nonneg hnn
    have hrem := fun x : Int => bin_rem .i64 x p (by omega)
    have hre : 0 ≤ f t j * iv % p ∧ f t j * iv % p < p := ⟨Int.emod_nonneg _ (by omega), Int.emod_lt_of_pos _ (by omega)⟩
    have w6 := w64 (f t j * iv % p) (by omega) (by omega)
    simp (maxSteps := 300000) (disch := omega) only [gws, ↓reduceIte, reduceEqDiff, reduceToNat, reduceMul, reduceAdd, Nat.reduceBEq, isLd, y5, y6, y7, y10, y16, y17, hjj, c3, w3, w4, rt, w5, hrem, hrm, w6]
    refine hF'.st ht (by omega) fun G2 hF2 hK2 => ?_
    simp (maxSteps := 300000) (disch := omega) only [gws, ↓reduceIte, reduceEqDiff, reduceToNat, reduceMul, reduceAdd, Nat.reduceBEq, isLd, y5, y6, y7, y10, y16, y17]
    refine ⟨m - 1, by omega, G2, Sub.refl _, j + 1, ?_, rfl, by omega, by omega, hK.trans hK2, hF2.cong fun a b ha hb => ?_⟩
    · repeat (first | exact hS | refine Sam.upd ?_ _ (by omega))
    · unfold upd2 scl
      dsimp only
      by_cases e : b = j
      · subst e
        by_cases ea : a = t
        · subst ea; rw [if_pos ⟨rfl, rfl⟩, if_pos (by omega), if_pos rfl]
        · rw [if_neg (by omega), if_neg (by omega), if_pos (by omega), if_neg (by omega)]
      · rw [if_neg (by omega)]
        by_cases e2 : b < j
        · rw [if_pos (show (b : Int) < (j : Int) by omega), if_pos (show (b : Int) < ((j + 1 : Nat) : Int) by omega)]
        · rw [if_neg (show ¬ (b : Int) < (j : Int) by omega), if_neg (show ¬ (b : Int) < ((j + 1 : Nat) : Int) by omega)]
  · simp (maxSteps := 300000) (disch := omega) only [gws, ↓reduceIte, reduceEqDiff, reduceToNat, reduceMul, reduceAdd, Nat.reduceBEq, isLd, y5, y6, y7, y10, y16, y17, hjj]
    refine hQ _ G' ?_ (hF'.cong fun a b ha hb => if_pos (by omega)) hK
    repeat (first | exact hS | refine Sam.upd ?_ _ (by omega))
theorem red_l3 {G : GH} {bm b5 bc R w cc t i : Nat} {p c : Int} {f : Int → Int → Int} {T : Nat → Value} {Q : Cont} (hG : RdG G bm b5 bc R w cc) (hF : Fl G bc R w f) (hR : R ≤ 2 ^ 10) (hw : w ≤ 2 ^ 10) (ht : t < R) (hi : i < R) (hne : i ≠ t) (hr : Rng f p) (hp : 1 < p ∧ p ≤ 2 ^ 30) (hv : 0 ≤ c ∧ c < p)
    (x5 : T 5 = .pointer (some ⟨b5, 0, none⟩)) (x6 : T 6 = .int .i64 p) (x7 : T 7 = .int .i64 w) (x10 : T 10 = .int .i64 t) (x18 : T 18 = .int .i64 i) (x19 : T 19 = .int .i64 c) (x20 : T 20 = .int .i64 0)
    (hQ : ∀ T' G', Sam 20 T' T → Fl G' bc R w (fun a b => if a = i then (f i b - c * f t b) % p else f a b) → Keep bc G G' → Q (.ex 10) T' G') : gLoop (gW Tryz.prog kyh) Q T G := by
  refine gLoop_intro (fun m T' G' => ∃ j : Nat, Sam 20 T' T ∧ T' 20 = .int .i64 j ∧ m + j = w ∧ j ≤ w ∧ Keep bc G G' ∧ Fl G' bc R w (fun a b => if a = i ∧ b < j then (f i b - c * f t b) % p else f a b)) w ⟨0, Sam.refl _ _, x20, by omega, by omega, Keep.refl _ _, hF.cong fun a b _ _ => by rw [if_neg (by omega)]⟩ ?_
  rintro m T' G' ⟨j, hS, y20, hm, hj, hK, hF'⟩
  have y5 := (hS 5 (by omega)).trans x5
  have y6 := (hS 6 (by omega)).trans x6
  have y7 := (hS 7 (by omega)).trans x7
  have y10 := (hS 10 (by omega)).trans x10
  have y18 := (hS 18 (by omega)).trans x18
  have y19 := (hS 19 (by omega)).trans x19
  simp (maxSteps := 300000) (disch := omega) only [gws, ↓reduceIte, reduceEqDiff, reduceToNat, reduceMul, reduceAdd, Nat.reduceBEq, isLd, y5, y6, y7, y10, y18, y19, y20]
  by_cases hjj : (j : Int) < w
  · have c3 := (hG.keep hK).c3
    have hbi := iw_bd (i := i) (w := w) (by omega) hw
    have hbt := iw_bd (i := t) (w := w) (by omega) hw
    have w1 := w64 ((i : Int) * w) (by omega) (by omega)
    have w2 := w64 ((i : Int) * w + j) (by omega) (by omega)
    have w3 := w64 ((t : Int) * w) (by omega) (by omega)
    have w4 := w64 ((t : Int) * w + j) (by omega) (by omega)
    have ri := hF'.rd (i := i) (j := j) hi (by omega)
    have rt := hF'.rd (i := t) (j := j) ht (by omega)
    rw [if_neg (by omega)] at ri rt
    have h1 := flat_lt (R := R) (w := w) (i := i) (j := j) hi (by omega)
    have h2 := flat_nn i j w
    have h3 := flat_lt (R := R) (w := w) (i := t) (j := j) ht (by omega)
    have h4 := flat_nn t j w
    have hb := hr t j
    have hb2 := hr i j
    have hmm := mulB (a := c) (b := f t j) (A := 2 ^ 30) (B := 2 ^ 30) (by omega) (by omega)
    have w5 := w64 (c * f t j) (by omega) (by omega)
    have w6 := w64 (f i j - c * f t j) (by omega) (by omega)
    simp (maxSteps := 300000) (disch := omega) only [gws, ↓reduceIte, reduceEqDiff, reduceToNat, reduceMul, reduceAdd, Nat.reduceBEq, isLd, y5, y6, y7, y10, y18, y19, y20, hjj, c3, w1, w2, w3, w4, ri, rt, w5, w6]
    refine spec_l03Mod_ok ⟨by omega, by omega⟩ ?_
    simp (maxSteps := 300000) (disch := omega) only [gws, ↓reduceIte, reduceEqDiff, reduceToNat, reduceMul, reduceAdd, Nat.reduceBEq, isLd, y5, y6, y7, y10, y18, y19, y20, c3, ri, rt]
    refine hF'.st hi (by omega) fun G2 hF2 hK2 => ?_
    simp (maxSteps := 300000) (disch := omega) only [gws, ↓reduceIte, reduceEqDiff, reduceToNat, reduceMul, reduceAdd, Nat.reduceBEq, isLd, y5, y6, y7, y10, y18, y19, y20]
    refine ⟨m - 1, by omega, G2, Sub.refl _, j + 1, ?_, rfl, by omega, by omega, hK.trans hK2, hF2.cong fun a b ha hb => ?_⟩
    · repeat (first | exact hS | refine Sam.upd ?_ _ (by omega))
    · unfold upd2
      dsimp only
      by_cases e : (a : Int) = i ∧ (b : Int) = j
      · rw [if_pos e, if_pos (by omega), e.2]
      · rw [if_neg e]
        by_cases e2 : (a : Int) = i ∧ (b : Int) < j
        · rw [if_pos e2, if_pos (by omega)]
        · rw [if_neg e2, if_neg (by omega)]
  · simp (maxSteps := 300000) (disch := omega) only [gws, ↓reduceIte, reduceEqDiff, reduceToNat, reduceMul, reduceAdd, Nat.reduceBEq, isLd, y5, y6, y7, y10, y18, y19, y20, hjj]
    refine hQ _ G' ?_ (hF'.cong fun a b ha hb => ?_) hK
    · repeat (first | exact hS | refine Sam.upd ?_ _ (by omega))
    · by_cases e : (a : Int) = i
      · rw [if_pos ⟨e, by omega⟩, if_pos e]
      · rw [if_neg (by omega), if_neg e]
theorem clr_sub (x y c p : Int) : (x - c * y) % p = (x + (p - c) * y) % p := by
  rw [show x + (p - c) * y = (x - c * y) + p * y by rw [Int.sub_mul]; omega, Int.add_mul_emod_self_left]
theorem clr_zero {x p : Int} (y : Int) (h : 0 ≤ x ∧ x < p) : (x + (p - 0) * y) % p = x := by
  rw [← clr_sub, Int.zero_mul, Int.sub_zero, Int.emod_eq_of_lt h.1 h.2]

end Go.Proofs.YtdnipjkpfpahmaaGreat.Gh
