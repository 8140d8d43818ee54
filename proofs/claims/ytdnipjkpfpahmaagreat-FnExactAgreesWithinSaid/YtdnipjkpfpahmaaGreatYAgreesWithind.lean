/- What the functions that the law AgreesWithin reaches return, and the law; it stands under no condition. -/
import Derived.Test.YtdnipjkpfpahmaaGreatYAgreesWithinc
namespace Go.Proofs.YtdnipjkpfpahmaaGreat.Gh
open Go Go.RowKit Go.Proofs
set_option linter.unusedVariables false
set_option linter.unusedSimpArgs false
set_option maxHeartbeats 4000000

theorem impl_isZero_ok {G : GH} {X : Option Addr} {d : Nat} {x : List Int} (hx : IntS G X d x) (hl : x.length < 2 ^ 40) {K : Value → GH → Prop} (hk : ∀ z : Bool, (z = true ↔ Zr x) → K (.bool z) G) : GC Tryz.prog 62 [.slice X x.length d] G K := by
  refine c_impl_isZero_i (by simp) ?_
  simp (maxSteps := 300000) (disch := omega) only [gs, gs2, gs3, gs4, ↓reduceIte, Nat.reduceEqDiff, Int.reduceToNat, Nat.reduceMul, Nat.reduceAdd, Nat.reduceBEq, isLd]
  refine slices_ContainsFunc_ok (fun n => !decide (n = 0)) hx hl (fun i hi K' hK' => ?_) ?_
  · simp (maxSteps := 300000) (disch := omega) only [gs, gs2, gs3, gs4, ↓reduceIte, Nat.reduceEqDiff, Int.reduceToNat, Nat.reduceMul, Nat.reduceAdd, Nat.reduceBEq, isLd]
    refine c_impl_isZero_fn1_i (by simp) ?_
    by_cases hz : x.getD i 0 = 0
    · rw [decide_eq_true hz] at hK'
      simp (maxSteps := 300000) (disch := omega) only [gs, gs2, gs3, gs4, ↓reduceIte, Nat.reduceEqDiff, Int.reduceToNat, Nat.reduceMul, Nat.reduceAdd, Nat.reduceBEq, isLd, eq_true hz]
      exact hK'
    · rw [decide_eq_false hz] at hK'
      simp (maxSteps := 300000) (disch := omega) only [gs, gs2, gs3, gs4, ↓reduceIte, Nat.reduceEqDiff, Int.reduceToNat, Nat.reduceMul, Nat.reduceAdd, Nat.reduceBEq, isLd, eq_false hz]
      exact hK'
  · generalize hany : (x.any fun n => !decide (n = 0)) = bb
    simp (maxSteps := 300000) (disch := omega) only [gs, gs2, gs3, gs4, ↓reduceIte, Nat.reduceEqDiff, Int.reduceToNat, Nat.reduceMul, Nat.reduceAdd, Nat.reduceBEq, isLd]
    refine hk _ ?_
    cases bb
    · rw [List.any_eq_false] at hany
      refine ⟨fun _ i hi => ?_, fun _ => rfl⟩
      have := hany (x.getD i 0) (by simp [List.getD, hi])
      simpa using this
    · rw [List.any_eq_true] at hany
      obtain ⟨v, hv, hy⟩ := hany
      refine ⟨fun y => (by cases y), fun y => ?_⟩
      obtain ⟨i, hi, rfl⟩ := List.mem_iff_getElem.1 hv
      have := y i hi
      rw [show x.getD i 0 = x[i] by simp [List.getD, hi]] at this
      simp [this] at hy
theorem sl_mid {A : Option Addr} {n c a b : Nat} (hab : a ≤ b) (hb : b ≤ n) (hn : n ≤ c) : slV 1 (.slice A n c) (some (.int .i64 (a : Int))) (some (.int .i64 (b : Int))) = some (.slice (if c = a then A else pa A a) (b - a) (c - a)) := by
  simp only [slV, onSl, bndV, onInt]
  rw [if_pos ⟨by omega, by omega⟩]
  simp only [Option.bind_some, Int.toNat_natCast]
  rw [if_pos ⟨by omega, by omega⟩]
  simp only [Option.bind_some, Int.toNat_natCast]
  rw [if_pos hab, Nat.mul_one]
/-- the part of a list. -/
def partL (x : List Int) (a n : Nat) : List Int := (x.drop a).take n
theorem partL_len {x : List Int} {a n : Nat} (h : a + n ≤ x.length) : (partL x a n).length = n := by unfold partL; simp; omega
theorem part_ints {G : GH} {X : Option Addr} {d a n : Nat} {x : List Int} (h : IntS G X d x) (hl : a + n ≤ x.length) : IntS G (if d = a then X else pa X a) (d - a) (partL x a n) := by
  have := (h.from (k := a) (by omega)).take (k := n) (by simp; omega)
  exact this
theorem fcol_nn {s : Shf} (hS : StOk s.base s.st) (k : Nat) : 0 ≤ fcol s k := (stN_bd hS.2.1 _).1
theorem impl_part_ok {G : GH} {X : Option Addr} {d : Nat} {m : ShM} {s : Shf} {x : List Int} {k : Nat} (h : ShG G m s) (hx : CxOk s.base) (hS : StOk s.base s.st) (hk0 : k < s.base.length) (hX : IntS G X d x) (hxl : x.length ≤ 2 ^ 20) (hb : fcol s k + s.st.getD k 0 ≤ x.length) {K : Value → GH → Prop}
    (hk : ∀ G' Y y, New G G' Y y ((partL x (fcol s k).toNat (s.st.getD k 0).toNat).map I64) 1 (s.st.getD k 0).toNat → K (.slice Y (s.st.getD k 0).toNat y) G') : GC Tryz.prog 105 [shV m s, .slice X x.length d, .int .i64 (k : Int)] G K := by
  refine GC_drop (c_impl_part_i (by simp) ?_)
  have hst := hS.1
  have hf := fcol_nn hS k
  have hsk := hS.2.1 k (by omega)
  unfold shV shC
  simp (maxSteps := 300000) (disch := omega) only [gs, gs2, gs3, gs4, ↓reduceIte, Nat.reduceEqDiff, Int.reduceToNat, Nat.reduceMul, Nat.reduceAdd, Nat.reduceBEq, isLd]
  intro b1 hb1
  have s1 := Sub.put hb1 ⟨shC m s, true⟩
  have hP := ShP.box hb1 h
  unfold shC at s1 hP
  revert s1 hP
  generalize put G b1 ⟨[.slice m.A s.base.length m.c, .int .i64 s.p, .slice m.S s.st.length m.e, .slice m.M s.ms.length m.l], true⟩ = G1
  intro s1 hP
  obtain ⟨f0, f1, f2, f3⟩ := hP.b
  have tk := hP.g.st.rd k (by omega)
  have hssn := hP.g.st.sn
  simp (maxSteps := 300000) (disch := omega) only [gs, gs2, gs3, gs4, ↓reduceIte, Nat.reduceEqDiff, Int.reduceToNat, Nat.reduceMul, Nat.reduceAdd, Nat.reduceBEq, isLd, f0, f1, f2, f3]
  refine impl_firstColumn_ok (m := m) (s := s) (k := k) hP.g hx hS hk0 ?_
  obtain ⟨a, ha⟩ : ∃ a : Nat, fcol s k = a := ⟨(fcol s k).toNat, by omega⟩
  obtain ⟨n, hn⟩ : ∃ n : Nat, s.st.getD k 0 = n := ⟨(s.st.getD k 0).toNat, by omega⟩
  rw [ha] at hb ⊢
  rw [hn] at hb tk
  rw [ha, hn] at hk
  simp only [Int.toNat_natCast] at hk
  have w := sl_mid (A := X) (n := x.length) (c := d) (a := a) (b := a + n) (by omega) (by omega) hX.cap
  rw [show ((a + n : Nat) : Int) = (a : Int) + n by push_cast; rfl, show a + n - a = n by omega] at w
  simp (maxSteps := 300000) (disch := omega) only [gs, gs2, gs3, gs4, ↓reduceIte, Nat.reduceEqDiff, Int.reduceToNat, Nat.reduceMul, Nat.reduceAdd, Nat.reduceBEq, isLd, f0, f2, tk, w]
  have hI := part_ints (a := a) (n := n) (hX.sub s1) (by omega)
  have hl := partL_len (x := x) (a := a) (n := n) (by omega)
  have key := fun K => slices_Clone_ok hI (by omega) (K := K)
  rw [hl] at key
  refine key _ fun G2 Y y hN => ?_
  simp (maxSteps := 300000) (disch := omega) only [gs, gs2, gs3, gs4, ↓reduceIte, Nat.reduceEqDiff, Int.reduceToNat, Nat.reduceMul, Nat.reduceAdd, Nat.reduceBEq, isLd]
  obtain ⟨G'', s'', hN''⟩ := hN.low s1
  exact ⟨G'', s'', hk _ _ _ hN''⟩
theorem stN_mono {L st : List Int} (hb : InB st 0 3) {i j : Nat} (h : i ≤ j) : stN L st i ≤ stN L st j := by
  obtain ⟨e, rfl⟩ : ∃ e, j = i + e := ⟨j - i, by omega⟩
  clear h
  induction e with
  | zero => exact Int.le_refl _
  | succ e ih =>
    have h2 : 0 ≤ st.getD (L.getD (i + e) 0).toNat 0 := by
      by_cases h : (L.getD (i + e) 0).toNat < st.length
      · exact (hb _ h).1
      · generalize (L.getD (i + e) 0).toNat = q at h
        simp [List.getD, List.getElem?_eq_none (Nat.le_of_not_lt h)]
    have : stN L st (i + (e + 1)) = stN L st (i + e) + st.getD (L.getD (i + e) 0).toNat 0 := rfl
    omega
/-- a simplex's part ends inside. -/
theorem fcol_end {s : Shf} (hS : StOk s.base s.st) {k : Nat} (hk : k < s.base.length) (hlen : 1 ≤ (s.base.getD k []).length) : fcol s k + s.st.getD k 0 ≤ ssum s.base s.st (dimS s k) := by
  have hd : ((s.base.getD k []).length : Int) = dimS s k + 1 := by unfold dimS; omega
  obtain ⟨R, hR⟩ := ofdN_pre s.base (dimS s k) (show k + 1 ≤ s.base.length by omega)
  have hR1 : ofd s.base (dimS s k) = ofdN s.base (dimS s k) (k + 1) ++ R := hR
  have h1 : stN (ofdN s.base (dimS s k) (k + 1)) s.st (ofdN s.base (dimS s k) (k + 1)).length = fcol s k + s.st.getD k 0 := by
    rw [ofdN_yes hd, List.length_append, List.length_singleton, stN_snoc, Int.toNat_natCast]; rfl
  have h2 : stN (ofd s.base (dimS s k)) s.st (ofdN s.base (dimS s k) (k + 1)).length = fcol s k + s.st.getD k 0 := by
    rw [hR1, stN_app _ (Nat.le_refl _), h1]
  rw [← h2]
  unfold ssum
  exact stN_mono hS.2.1 (by rw [hR1]; simp)
/-- cells that are written one behind another. -/
def wB (F g : Int → Int → Int) (top left : Int) (a : Nat) : Nat → Int → Int → Int
  | 0 => F
  | b + 1 => upd2 (wB F g top left a b) (top + a) (left + b) (g a b)
def wA (F g : Int → Int → Int) (top left : Int) (C : Nat) : Nat → Int → Int → Int
  | 0 => F
  | a + 1 => wB (wA F g top left C a) g top left a C
def sgn (p : Int) (i : Nat) : Int := if i % 2 = 0 then 1 else p - 1
def gF (s : Shf) (e i : Nat) : Int → Int → Int := fun a b => fM (dirM s e i) a b * sgn s.p i % s.p
def wFa (s : Shf) (F : Int → Int → Int) (e : Nat) : Nat → Int → Int → Int
  | 0 => F
  | i + 1 => wA (wFa s F e i) (gF s e i) (fcol s e) (fcol s (faN s e i)) (dirM s e i).c.toNat (dirM s e i).r.toNat
def wE (s : Shf) : Nat → Int → Int → Int
  | 0 => fun _ _ => 0
  | n + 1 => wFa s (wE s n) ((ofd s.base 1).getD n 0).toNat (fcs s.base ((ofd s.base 1).getD n 0).toNat).length
/-- the cells of the coboundary. -/
def cobF (s : Shf) : Int → Int → Int := wE s (ofd s.base 1).length
theorem impl_alternating_ok {G : GH} {i : Nat} {p : Int} (hp : 2 ≤ p ∧ p ≤ 251) (hi : i ≤ 1000) {K : Value → GH → Prop} (hk : K (.int .i64 (sgn p i)) G) : GC Tryz.prog 160 [.int .i64 (i : Int), .int .i64 p] G K := by
  refine c_impl_alternating_i (by simp) ?_
  have hrem := bin_rem .i64 (i : Int) 2 (by decide)
  rw [Int.tmod_eq_emod_of_nonneg (by omega)] at hrem
  unfold sgn at hk
  simp (maxSteps := 300000) (disch := omega) only [gs, gs2, gs3, gs4, ↓reduceIte, Nat.reduceEqDiff, Int.reduceToNat, Nat.reduceMul, Nat.reduceAdd, Nat.reduceBEq, isLd, hrem]
  by_cases h : i % 2 = 0
  · rw [if_pos h] at hk
    have h' : (i : Int) % 2 = 0 := by omega
    simp (maxSteps := 300000) (disch := omega) only [gs, gs2, gs3, gs4, ↓reduceIte, Nat.reduceEqDiff, Int.reduceToNat, Nat.reduceMul, Nat.reduceAdd, Nat.reduceBEq, isLd, eq_true h']
    exact hk
  · rw [if_neg h] at hk
    have h' : ¬ (i : Int) % 2 = 0 := by omega
    simp (maxSteps := 300000) (disch := omega) only [gs, gs2, gs3, gs4, ↓reduceIte, Nat.reduceEqDiff, Int.reduceToNat, Nat.reduceMul, Nat.reduceAdd, Nat.reduceBEq, isLd, eq_false h']
    exact hk
theorem spec_l07Sign_ok {G : GH} {i : Nat} {p : Int} (hp : 2 ≤ p ∧ p ≤ 251) (hi : i ≤ 1000) {K : Value → GH → Prop} (hk : K (.int .i64 (sgn p i)) G) : GC Tryz.prog 151 [.int .i64 (i : Int), .int .i64 p] G K := by
  refine c_spec_l07Sign_i (by simp) ?_
  have hrem := bin_rem .i64 (i : Int) 2 (by decide)
  rw [Int.tmod_eq_emod_of_nonneg (by omega)] at hrem
  have hrem2 := bin_rem .i64 1 p (by omega)
  rw [Int.tmod_eq_emod_of_nonneg (by omega), Int.emod_eq_of_lt (by omega) (by omega)] at hrem2
  unfold sgn at hk
  simp (maxSteps := 300000) (disch := omega) only [gs, gs2, gs3, gs4, ↓reduceIte, Nat.reduceEqDiff, Int.reduceToNat, Nat.reduceMul, Nat.reduceAdd, Nat.reduceBEq, isLd, hrem]
  by_cases h : i % 2 = 0
  · rw [if_pos h] at hk
    have h' : (i : Int) % 2 = 0 := by omega
    simp (maxSteps := 300000) (disch := omega) only [gs, gs2, gs3, gs4, ↓reduceIte, Nat.reduceEqDiff, Int.reduceToNat, Nat.reduceMul, Nat.reduceAdd, Nat.reduceBEq, isLd, eq_true h', hrem2]
    exact hk
  · rw [if_neg h] at hk
    have h' : ¬ (i : Int) % 2 = 0 := by omega
    simp (maxSteps := 300000) (disch := omega) only [gs, gs2, gs3, gs4, ↓reduceIte, Nat.reduceEqDiff, Int.reduceToNat, Nat.reduceMul, Nat.reduceAdd, Nat.reduceBEq, isLd, eq_false h']
    exact hk
/-- the first temporaries are as they were. -/
def SameL (T' T : Nat → Value) : Prop := ∀ l, l ≤ 14 → T' l = T l
theorem cm_l0 {H G : GH} {q qm A : Option Addr} {m : ShM} {s : Shf} {M : Mt} {b5 bz k R C tp lf a : Nat} {sg : Int} {F : Int → Int → Int} {T : Nat → Value} {Q : Cont} (hP : ShP H q m s) (hM : MtP H qm M A k) (hMo : MtOk M) (hp : 2 ≤ s.p ∧ s.p ≤ 251) (h5 : H b5 = some ⟨mat4 s.p R C (some ⟨bz, 0, none⟩) (R * C), true⟩) (hz : H bz = none) (hS : Sub H G) (hF : Fl G bz R C F)
    (hR : R ≤ 32) (hC : C ≤ 32) (hsg : 0 ≤ sg ∧ sg ≤ 250) (ha : a < M.r.toNat) (hta : tp + M.r.toNat ≤ R) (hlb : lf + M.c.toNat ≤ C)
    (t0 : T 0 = .pointer q) (t5 : T 5 = .pointer (some ⟨b5, 0, none⟩)) (t9 : T 9 = .int .i64 tp) (t11 : T 11 = .pointer qm) (t12 : T 12 = .int .i64 lf) (t13 : T 13 = .int .i64 sg) (t14 : T 14 = .int .i64 a) (t15 : T 15 = .int .i64 0)
    (hQ : ∀ T' G', Sub H G' → Fl G' bz R C (wB F (fun i j => fM M i j * sg % s.p) tp lf a M.c.toNat) → SameL T' T → Q (.ex 6) T' G') : gLoop (gW Tryz.prog c_spec_l11Matrix_l0) Q T G := by
  have hq := rd_some hP.f0
  have hqm := rd_some hM.f0
  obtain ⟨ml, mr, mc⟩ := mt_len hMo
  have hsz := hMo.c
  have hrz := hMo.r
  have m5 : ∀ {G' : GH}, Sub H G' → rd G' (some ⟨b5, 2, none⟩) = some (.int .i64 C) ∧ rd G' (some ⟨b5, 3, none⟩) = some (.slice (some ⟨bz, 0, none⟩) (R * C) (R * C)) := fun u => by
    simp only [rd, u _ _ h5]; exact ⟨rfl, rfl⟩
  refine gLoop_intro (fun mm T' G' => ∃ b : Nat, SameL T' T ∧ T' 15 = .int .i64 b ∧ mm + b = M.c.toNat ∧ b ≤ M.c.toNat ∧ Sub H G' ∧ Fl G' bz R C (wB F (fun i j => fM M i j * sg % s.p) tp lf a b)) M.c.toNat
    ⟨0, fun l _ => rfl, t15, by omega, by omega, hS, hF⟩ ?_
  clear hS hF
  rintro mm T1 G1 ⟨b, hT, e15, hm, hbl, hS, hF⟩
  have e0 : T1 0 = .pointer q := (hT 0 (by omega)).trans t0
  have e5 : T1 5 = .pointer (some ⟨b5, 0, none⟩) := (hT 5 (by omega)).trans t5
  have e9 : T1 9 = .int .i64 tp := (hT 9 (by omega)).trans t9
  have e11 : T1 11 = .pointer qm := (hT 11 (by omega)).trans t11
  have e12 : T1 12 = .int .i64 lf := (hT 12 (by omega)).trans t12
  have e13 : T1 13 = .int .i64 sg := (hT 13 (by omega)).trans t13
  have e14 : T1 14 = .int .i64 a := (hT 14 (by omega)).trans t14
  have hM1 := hM.sub hS
  have f2 := hM1.f2
  rw [← mc] at f2
  simp (maxSteps := 300000) (disch := omega) only [gs, gs2, gs3, gs4, ↓reduceIte, Nat.reduceEqDiff, Int.reduceToNat, Nat.reduceMul, Nat.reduceAdd, Nat.reduceBEq, isLd, e11, e15, f2]
  by_cases hb : (b : Int) < (M.c.toNat : Nat)
  · have hb' : b < M.c.toNat := by omega
    have hP1 := hP.sub hS
    obtain ⟨q2, q3⟩ := m5 hS
    have hcell := (hM1.mq hMo).cell ha hb'
    have hfb := fM_bd hMo a b
    have huv := uv_bd hfb hsg
    have w1 := w64 (fM M a b * sg) (by omega) (by omega)
    have hrem := bin_rem .i64 (fM M a b * sg) s.p (by omega)
    rw [Int.tmod_eq_emod_of_nonneg huv.1] at hrem
    have m1 := mulB (a := (tp : Int) + a) (b := (C : Int)) (A := 2 ^ 10) (B := 2 ^ 10) (by omega) (by omega)
    have m2 := mulB (a := (a : Int)) (b := (M.c.toNat : Int)) (A := 2 ^ 10) (B := 2 ^ 10) (by omega) (by omega)
    have w2 := w64 (((tp : Int) + a) * C) (by omega) (by omega)
    have w3 := w64 (((tp : Int) + a) * C + lf) (by omega) (by omega)
    have w4 := w64 (((tp : Int) + a) * C + lf + b) (by omega) (by omega)
    have w5 := w64 ((a : Int) * (M.c.toNat : Nat)) (by omega) (by omega)
    have w6 := w64 ((a : Int) * (M.c.toNat : Nat) + b) (by omega) (by omega)
    have e1 : ((tp : Int) + a) * C + lf + b = (((tp + a) * C + (lf + b) : Nat) : Int) := by push_cast; omega
    have e2 : (a : Int) * (M.c.toNat : Nat) + b = ((a * M.c.toNat + b : Nat) : Int) := by push_cast; rfl
    have l1 := flat_nat (show tp + a < R by omega) (show lf + b < C by omega)
    have l2 := flat_nat ha hb'
    have s2 := hM1.m.sn (by rw [ml]; omega)
    have f3 := hM1.f3
    rw [ml] at f3
    simp (maxSteps := 300000) (disch := omega) only [gs, gs2, gs3, gs4, ↓reduceIte, Nat.reduceEqDiff, Int.reduceToNat, Nat.reduceMul, Nat.reduceAdd, Nat.reduceBEq, isLd, e0, e5, e9, e11, e12, e13, e14, e15, hb, f2, f3, q2, q3, hP1.f1, w1, w2, w3, w4, w5, w6, e1, e2, hcell, hrem]
    refine hF.st' (show tp + a < R by omega) (show lf + b < C by omega) fun G4 hF4 k4 => ?_
    simp (maxSteps := 300000) (disch := omega) only [gs, gs2, gs3, gs4, ↓reduceIte, Nat.reduceEqDiff, Int.reduceToNat, Nat.reduceMul, Nat.reduceAdd, Nat.reduceBEq, isLd, e15]
    refine ⟨mm - 1, by omega, G4, Sub.refl _, b + 1, fun l hl => ?_, rfl, by omega, by omega, sub_keep k4 hz hS, ?_⟩
    · repeat first | rw [upd_app, if_neg (by omega)] | rw [if_neg (by omega)]
      exact hT l hl
    · have e3 : ((tp + a : Nat) : Int) = (tp : Int) + a := by push_cast; rfl
      have e4 : ((lf + b : Nat) : Int) = (lf : Int) + b := by push_cast; rfl
      rw [e3, e4] at hF4
      exact hF4
  · obtain rfl : b = M.c.toNat := by omega
    simp (maxSteps := 300000) (disch := omega) only [gs, gs2, gs3, gs4, ↓reduceIte, Nat.reduceEqDiff, Int.reduceToNat, Nat.reduceMul, Nat.reduceAdd, Nat.reduceBEq, isLd, e11, e15, f2, hb]
    refine hQ _ _ hS hF fun l hl => ?_
    repeat rw [upd_app, if_neg (by omega)]
    exact hT l hl
def SameN (n : Nat) (T' T : Nat → Value) : Prop := ∀ l, l ≤ n → T' l = T l
theorem cm_l1 {H G : GH} {q qm A : Option Addr} {m : ShM} {s : Shf} {M : Mt} {b5 bz k R C tp lf : Nat} {sg : Int} {F : Int → Int → Int} {T : Nat → Value} {Q : Cont} (hP : ShP H q m s) (hM : MtP H qm M A k) (hMo : MtOk M) (hp : 2 ≤ s.p ∧ s.p ≤ 251) (h5 : H b5 = some ⟨mat4 s.p R C (some ⟨bz, 0, none⟩) (R * C), true⟩) (hz : H bz = none) (hS : Sub H G) (hF : Fl G bz R C F)
    (hR : R ≤ 32) (hC : C ≤ 32) (hsg : 0 ≤ sg ∧ sg ≤ 250) (hta : tp + M.r.toNat ≤ R) (hlb : lf + M.c.toNat ≤ C)
    (t0 : T 0 = .pointer q) (t5 : T 5 = .pointer (some ⟨b5, 0, none⟩)) (t9 : T 9 = .int .i64 tp) (t11 : T 11 = .pointer qm) (t12 : T 12 = .int .i64 lf) (t13 : T 13 = .int .i64 sg) (t14 : T 14 = .int .i64 0)
    (hQ : ∀ T' G', Sub H G' → Fl G' bz R C (wA F (fun i j => fM M i j * sg % s.p) tp lf M.c.toNat M.r.toNat) → SameN 13 T' T → Q (.ex 4) T' G') : gLoop (gW Tryz.prog c_spec_l11Matrix_l1) Q T G := by
  have hqm := rd_some hM.f0
  obtain ⟨ml, mr, mc⟩ := mt_len hMo
  have hrz := hMo.r
  refine gLoop_intro (fun mm T' G' => ∃ a : Nat, SameN 13 T' T ∧ T' 14 = .int .i64 a ∧ mm + a = M.r.toNat ∧ a ≤ M.r.toNat ∧ Sub H G' ∧ Fl G' bz R C (wA F (fun i j => fM M i j * sg % s.p) tp lf M.c.toNat a)) M.r.toNat
    ⟨0, fun l _ => rfl, t14, by omega, by omega, hS, hF⟩ ?_
  clear hS hF
  rintro mm T1 G1 ⟨a, hT, e14, hm, hal, hS, hF⟩
  have e0 : T1 0 = .pointer q := (hT 0 (by omega)).trans t0
  have e5 : T1 5 = .pointer (some ⟨b5, 0, none⟩) := (hT 5 (by omega)).trans t5
  have e9 : T1 9 = .int .i64 tp := (hT 9 (by omega)).trans t9
  have e11 : T1 11 = .pointer qm := (hT 11 (by omega)).trans t11
  have e12 : T1 12 = .int .i64 lf := (hT 12 (by omega)).trans t12
  have e13 : T1 13 = .int .i64 sg := (hT 13 (by omega)).trans t13
  have f1 := (hM.sub hS).f1
  rw [← mr] at f1
  simp (maxSteps := 300000) (disch := omega) only [gs, gs2, gs3, gs4, ↓reduceIte, Nat.reduceEqDiff, Int.reduceToNat, Nat.reduceMul, Nat.reduceAdd, Nat.reduceBEq, isLd, e11, e14, f1]
  by_cases ha : (a : Int) < (M.r.toNat : Nat)
  · simp (maxSteps := 300000) (disch := omega) only [gs, gs2, gs3, gs4, ↓reduceIte, Nat.reduceEqDiff, Int.reduceToNat, Nat.reduceMul, Nat.reduceAdd, Nat.reduceBEq, isLd, e11, e14, f1, ha]
    refine cm_l0 (a := a) hP hM hMo hp h5 hz hS hF hR hC hsg (by omega) hta hlb (by simp (maxSteps := 300000) (disch := omega) only [gs, gs2, gs3, gs4, ↓reduceIte, Nat.reduceEqDiff, Int.reduceToNat, Nat.reduceMul, Nat.reduceAdd, Nat.reduceBEq, isLd, e0]) (by simp (maxSteps := 300000) (disch := omega) only [gs, gs2, gs3, gs4, ↓reduceIte, Nat.reduceEqDiff, Int.reduceToNat, Nat.reduceMul, Nat.reduceAdd, Nat.reduceBEq, isLd, e5]) (by simp (maxSteps := 300000) (disch := omega) only [gs, gs2, gs3, gs4, ↓reduceIte, Nat.reduceEqDiff, Int.reduceToNat, Nat.reduceMul, Nat.reduceAdd, Nat.reduceBEq, isLd, e9]) (by simp (maxSteps := 300000) (disch := omega) only [gs, gs2, gs3, gs4, ↓reduceIte, Nat.reduceEqDiff, Int.reduceToNat, Nat.reduceMul, Nat.reduceAdd, Nat.reduceBEq, isLd, e11]) (by simp (maxSteps := 300000) (disch := omega) only [gs, gs2, gs3, gs4, ↓reduceIte, Nat.reduceEqDiff, Int.reduceToNat, Nat.reduceMul, Nat.reduceAdd, Nat.reduceBEq, isLd, e12]) (by simp (maxSteps := 300000) (disch := omega) only [gs, gs2, gs3, gs4, ↓reduceIte, Nat.reduceEqDiff, Int.reduceToNat, Nat.reduceMul, Nat.reduceAdd, Nat.reduceBEq, isLd, e13]) (by simp (maxSteps := 300000) (disch := omega) only [gs, gs2, gs3, gs4, ↓reduceIte, Nat.reduceEqDiff, Int.reduceToNat, Nat.reduceMul, Nat.reduceAdd, Nat.reduceBEq, isLd, e14]) (by simp (maxSteps := 300000) (disch := omega) only [gs, gs2, gs3, gs4, ↓reduceIte, Nat.reduceEqDiff, Int.reduceToNat, Nat.reduceMul, Nat.reduceAdd, Nat.reduceBEq, isLd] <;> rfl) fun T' G' s' hF' hT' => ?_
    have u14 : T' 14 = .int .i64 a := by rw [hT' 14 (by omega)]; simp (maxSteps := 300000) (disch := omega) only [gs, gs2, gs3, gs4, ↓reduceIte, Nat.reduceEqDiff, Int.reduceToNat, Nat.reduceMul, Nat.reduceAdd, Nat.reduceBEq, isLd, e14]
    have hT2 : SameN 13 T' T := fun l hl => by
      rw [hT' l (by omega)]
      repeat rw [upd_app, if_neg (by omega)]
      exact hT l hl
    simp (maxSteps := 300000) (disch := omega) only [gs, gs2, gs3, gs4, ↓reduceIte, Nat.reduceEqDiff, Int.reduceToNat, Nat.reduceMul, Nat.reduceAdd, Nat.reduceBEq, isLd, u14]
    refine ⟨mm - 1, by omega, G', Sub.refl _, a + 1, fun l hl => ?_, rfl, by omega, by omega, s', hF'⟩
    repeat first | rw [upd_app, if_neg (by omega)] | rw [if_neg (by omega)]
    exact hT2 l hl
  · obtain rfl : a = M.r.toNat := by omega
    simp (maxSteps := 300000) (disch := omega) only [gs, gs2, gs3, gs4, ↓reduceIte, Nat.reduceEqDiff, Int.reduceToNat, Nat.reduceMul, Nat.reduceAdd, Nat.reduceBEq, isLd, e11, e14, f1, ha]
    refine hQ _ _ hS hF fun l hl => ?_
    repeat rw [upd_app, if_neg (by omega)]
    exact hT l hl
theorem cm_l2 {H G : GH} {q Ye Yf : Option Addr} {m : ShM} {s : Shf} {b5 bz R C ye yf n e : Nat} {F : Int → Int → Int} {T : Nat → Value} {Q : Cont} (hP : ShP H q m s) (hs : ShOk s) (hms : s.ms.length ≤ 2 ^ 20) (h5 : H b5 = some ⟨mat4 s.p R C (some ⟨bz, 0, none⟩) (R * C), true⟩) (hz : H bz = none) (hS : Sub H G) (hF : Fl G bz R C F)
    (hE : IntS H Ye ye (ofd s.base 1)) (hn : n < (ofd s.base 1).length) (he : (ofd s.base 1).getD n 0 = (e : Nat)) (hel : e < s.base.length) (he2 : (s.base.getD e []).length = 2) (hf : IntS H Yf yf (fcs s.base e)) (hR : (R : Int) = ssum s.base s.st 1) (hC : (C : Int) = ssum s.base s.st 0)
    (t0 : T 0 = .pointer q) (t5 : T 5 = .pointer (some ⟨b5, 0, none⟩)) (t6 : T 6 = .slice Ye (ofd s.base 1).length ye) (t7 : T 7 = .int .i64 n) (t8 : T 8 = .slice Yf (fcs s.base e).length yf) (t9 : T 9 = .int .i64 (fcol s e)) (t10 : T 10 = .int .i64 0)
    (hQ : ∀ T' G', Sub H G' → Fl G' bz R C (wFa s F e (fcs s.base e).length) → SameN 9 T' T → Q (.ex 2) T' G') : gLoop (gW Tryz.prog c_spec_l11Matrix_l2) Q T G := by
  have hR32 := hs.st.2.2 1 (by omega) (by omega)
  have hC32 := hs.st.2.2 0 (by omega) (by omega)
  have hq := rd_some hP.f0
  have hfl : (fcs s.base e).length = 2 := by rw [fcs_len, facs_two, if_pos (by omega), he2]
  have hst := hs.st
  have hesn := hE.sn (by omega)
  have hfsn := hf.sn (by omega)
  have hfe := fcol_nn hst e
  have hend := fcol_end hst hel (by omega)
  rw [show dimS s e = 1 by unfold dimS; omega] at hend
  obtain ⟨tp, htp⟩ : ∃ tp : Nat, fcol s e = tp := ⟨(fcol s e).toNat, by omega⟩
  refine gLoop_intro (fun mm T' G' => ∃ i : Nat, SameN 9 T' T ∧ T' 10 = .int .i64 i ∧ mm + i = 2 ∧ i ≤ 2 ∧ Sub H G' ∧ Fl G' bz R C (wFa s F e i)) 2
    ⟨0, fun l _ => rfl, t10, by omega, by omega, hS, hF⟩ ?_
  clear hS hF
  rintro mm T1 G1 ⟨i, hT, e10, hm, hil, hS, hF⟩
  have e0 : T1 0 = .pointer q := (hT 0 (by omega)).trans t0
  have e5 : T1 5 = .pointer (some ⟨b5, 0, none⟩) := (hT 5 (by omega)).trans t5
  have e6 : T1 6 = .slice Ye (ofd s.base 1).length ye := (hT 6 (by omega)).trans t6
  have e7 : T1 7 = .int .i64 n := (hT 7 (by omega)).trans t7
  have e8 : T1 8 = .slice Yf (fcs s.base e).length yf := (hT 8 (by omega)).trans t8
  have e9 : T1 9 = .int .i64 (fcol s e) := (hT 9 (by omega)).trans t9
  simp (maxSteps := 300000) (disch := omega) only [gs, gs2, gs3, gs4, ↓reduceIte, Nat.reduceEqDiff, Int.reduceToNat, Nat.reduceMul, Nat.reduceAdd, Nat.reduceBEq, isLd, e8, e10]
  by_cases hi : (i : Int) < (fcs s.base e).length
  · have hi2 : i < (fcs s.base e).length := by omega
    have hP1 := hP.sub hS
    have re := (hE.sub hS).rd n hn
    rw [he] at re
    obtain ⟨f, hfe1, hfe2, hfe3, _⟩ := fcs_bd hs.b hel hi2
    have hfa : faN s e i = f := by unfold faN; rw [hfe2]; rfl
    have rf := (hf.sub hS).rd i hi2
    rw [hfe2] at rf
    have hmo := hs.m e i hel hi2
    have hki := fmap_lt hel hi2
    have hnn := hs.n
    have hff := fcol_nn hst f
    have hfend := fcol_end hst (k := f) (by omega) (by omega)
    rw [show dimS s f = 0 by unfold dimS; omega] at hfend
    obtain ⟨lf, hlf⟩ : ∃ lf : Nat, fcol s f = lf := ⟨(fcol s f).toNat, by omega⟩
    have hp1 := hs.p.1
    have hp2 := hs.p.2.1
    have hcc := hmo.2.2.2
    rw [hfe2, Int.toNat_natCast] at hcc
    have hrr := hmo.2.2.1
    have hstl := hst.1
    have hse := hst.2.1 e (by omega)
    have hsf := hst.2.1 f (by omega)
    simp (maxSteps := 300000) (disch := omega) only [gs, gs2, gs3, gs4, ↓reduceIte, Nat.reduceEqDiff, Int.reduceToNat, Nat.reduceMul, Nat.reduceAdd, Nat.reduceBEq, isLd, e0, e5, e6, e7, e8, e9, e10, hi, re]
    refine spec_l09Get_ok (k := e) (i := i) hP1 hs.b (by omega) (by omega) hms (by omega) ?_
    simp (maxSteps := 300000) (disch := omega) only [gs, gs2, gs3, gs4, ↓reduceIte, Nat.reduceEqDiff, Int.reduceToNat, Nat.reduceMul, Nat.reduceAdd, Nat.reduceBEq, isLd, e0, e5, e6, e7, e8, e9, e10, rf]
    refine spec_l11At_ok (k := f) hP1 hs.b hst (by omega) ?_
    simp (maxSteps := 300000) (disch := omega) only [gs, gs2, gs3, gs4, ↓reduceIte, Nat.reduceEqDiff, Int.reduceToNat, Nat.reduceMul, Nat.reduceAdd, Nat.reduceBEq, isLd, e0, e5, e6, e7, e8, e9, e10, hP1.f1]
    refine spec_l07Sign_ok (i := i) ⟨hp1, hp2⟩ (by omega) ?_
    have hsg : 0 ≤ sgn s.p i ∧ sgn s.p i ≤ 250 := by unfold sgn; split <;> omega
    simp (maxSteps := 300000) (disch := omega) only [gs, gs2, gs3, gs4, ↓reduceIte, Nat.reduceEqDiff, Int.reduceToNat, Nat.reduceMul, Nat.reduceAdd, Nat.reduceBEq, isLd, e0, e5, e6, e7, e8, e9, e10]
    refine cm_l1 (tp := tp) (lf := lf) (sg := sgn s.p i) hP (hP.g.ms.at' (show fmap s.base e + i < s.ms.length by omega)) hmo.1 ⟨hp1, hp2⟩ h5 hz hS hF (by omega) (by omega) hsg (by rw [hrr]; omega) (by rw [hcc]; omega) (by simp (maxSteps := 300000) (disch := omega) only [gs, gs2, gs3, gs4, ↓reduceIte, Nat.reduceEqDiff, Int.reduceToNat, Nat.reduceMul, Nat.reduceAdd, Nat.reduceBEq, isLd, e0]) (by simp (maxSteps := 300000) (disch := omega) only [gs, gs2, gs3, gs4, ↓reduceIte, Nat.reduceEqDiff, Int.reduceToNat, Nat.reduceMul, Nat.reduceAdd, Nat.reduceBEq, isLd, e5]) (by simp (maxSteps := 300000) (disch := omega) only [gs, gs2, gs3, gs4, ↓reduceIte, Nat.reduceEqDiff, Int.reduceToNat, Nat.reduceMul, Nat.reduceAdd, Nat.reduceBEq, isLd, e9, htp]) (by simp (maxSteps := 300000) (disch := omega) only [gs, gs2, gs3, gs4, ↓reduceIte, Nat.reduceEqDiff, Int.reduceToNat, Nat.reduceMul, Nat.reduceAdd, Nat.reduceBEq, isLd]) (by simp (maxSteps := 300000) (disch := omega) only [gs, gs2, gs3, gs4, ↓reduceIte, Nat.reduceEqDiff, Int.reduceToNat, Nat.reduceMul, Nat.reduceAdd, Nat.reduceBEq, isLd, hlf]) (by simp (maxSteps := 300000) (disch := omega) only [gs, gs2, gs3, gs4, ↓reduceIte, Nat.reduceEqDiff, Int.reduceToNat, Nat.reduceMul, Nat.reduceAdd, Nat.reduceBEq, isLd]) (by simp (maxSteps := 300000) (disch := omega) only [gs, gs2, gs3, gs4, ↓reduceIte, Nat.reduceEqDiff, Int.reduceToNat, Nat.reduceMul, Nat.reduceAdd, Nat.reduceBEq, isLd] <;> rfl) fun T' G' s' hF' hT' => ?_
    have u10 : T' 10 = .int .i64 i := by rw [hT' 10 (by omega)]; simp (maxSteps := 300000) (disch := omega) only [gs, gs2, gs3, gs4, ↓reduceIte, Nat.reduceEqDiff, Int.reduceToNat, Nat.reduceMul, Nat.reduceAdd, Nat.reduceBEq, isLd, e10]
    have hT2 : SameN 9 T' T := fun l hl => by
      rw [hT' l (by omega)]
      repeat rw [upd_app, if_neg (by omega)]
      exact hT l hl
    simp (maxSteps := 300000) (disch := omega) only [gs, gs2, gs3, gs4, ↓reduceIte, Nat.reduceEqDiff, Int.reduceToNat, Nat.reduceMul, Nat.reduceAdd, Nat.reduceBEq, isLd, u10]
    refine ⟨mm - 1, by omega, G', Sub.refl _, i + 1, fun l hl => ?_, rfl, by omega, by omega, s', ?_⟩
    · repeat first | rw [upd_app, if_neg (by omega)] | rw [if_neg (by omega)]
      exact hT2 l hl
    · have : wFa s F e (i + 1) = wA (wFa s F e i) (gF s e i) (fcol s e) (fcol s (faN s e i)) (dirM s e i).c.toNat (dirM s e i).r.toNat := rfl
      rw [this, hfa, htp, hlf]
      exact hF'
  · obtain rfl : i = 2 := by omega
    simp (maxSteps := 300000) (disch := omega) only [gs, gs2, gs3, gs4, ↓reduceIte, Nat.reduceEqDiff, Int.reduceToNat, Nat.reduceMul, Nat.reduceAdd, Nat.reduceBEq, isLd, e8, e10, hi]
    rw [hfl] at hQ
    refine hQ _ _ hS hF fun l hl => ?_
    repeat rw [upd_app, if_neg (by omega)]
    exact hT l hl
theorem cm_l3 {H G : GH} {q Ye : Option Addr} {m : ShM} {s : Shf} {b5 bz R C ye : Nat} {T : Nat → Value} {Q : Cont} (hP : ShP H q m s) (hs : ShOk s) (hms : s.ms.length ≤ 2 ^ 20) (h5 : H b5 = some ⟨mat4 s.p R C (some ⟨bz, 0, none⟩) (R * C), true⟩) (hz : H bz = none) (hS : Sub H G) (hF : Fl G bz R C (fun _ _ => 0))
    (hE : IntS H Ye ye (ofd s.base 1)) (hR : (R : Int) = ssum s.base s.st 1) (hC : (C : Int) = ssum s.base s.st 0)
    (t0 : T 0 = .pointer q) (t1 : T 1 = .int .i64 0) (t5 : T 5 = .pointer (some ⟨b5, 0, none⟩)) (t6 : T 6 = .slice Ye (ofd s.base 1).length ye) (t7 : T 7 = .int .i64 0)
    (hQ : ∀ T' G', Sub H G' → Fl G' bz R C (cobF s) → SameN 6 T' T → Q (.ex 0) T' G') : gLoop (gW Tryz.prog c_spec_l11Matrix_l3) Q T G := by
  have hq := rd_some hP.f0
  have hst := hs.st
  have hbn := hs.b.n
  have hol := ofd_len hbn 1
  have hesn := hE.sn
  refine gLoop_intro (fun mm T' G' => ∃ n : Nat, SameN 6 T' T ∧ T' 7 = .int .i64 n ∧ mm + n = (ofd s.base 1).length ∧ n ≤ (ofd s.base 1).length ∧ Sub H G' ∧ Fl G' bz R C (wE s n)) (ofd s.base 1).length
    ⟨0, fun l _ => rfl, t7, by omega, by omega, hS, hF⟩ ?_
  clear hS hF
  rintro mm T1 G1 ⟨n, hT, e7, hm, hnl, hS, hF⟩
  have e0 : T1 0 = .pointer q := (hT 0 (by omega)).trans t0
  have e1 : T1 1 = .int .i64 0 := (hT 1 (by omega)).trans t1
  have e5 : T1 5 = .pointer (some ⟨b5, 0, none⟩) := (hT 5 (by omega)).trans t5
  have e6 : T1 6 = .slice Ye (ofd s.base 1).length ye := (hT 6 (by omega)).trans t6
  simp (maxSteps := 300000) (disch := omega) only [gs, gs2, gs3, gs4, ↓reduceIte, Nat.reduceEqDiff, Int.reduceToNat, Nat.reduceMul, Nat.reduceAdd, Nat.reduceBEq, isLd, e1, e6, e7]
  by_cases hn : (n : Int) < (ofd s.base 1).length
  · obtain ⟨e, hel, hge, hd⟩ := ofd_get (show n < (ofd s.base 1).length by omega)
    have hP1 := hP.sub hS
    have re := (hE.sub hS).rd n (by omega)
    rw [hge] at re
    simp (maxSteps := 300000) (disch := omega) only [gs, gs2, gs3, gs4, ↓reduceIte, Nat.reduceEqDiff, Int.reduceToNat, Nat.reduceMul, Nat.reduceAdd, Nat.reduceBEq, isLd, e0, e1, e5, e6, e7, hn, re, Int.le_refl]
    refine spec_l05Faces_ok (k := e) hP1.cx hs.b hel fun G2 Yf yf hN => ?_
    have hbz : G1 bz ≠ none := by obtain ⟨g, rs, h1, _⟩ := hF; rw [h1]; simp
    have hF2 : Fl G2 bz R C (wE s n) := by obtain ⟨g, rs, h1, h2⟩ := hF; exact ⟨g, rs, hN.sub _ _ h1, h2⟩
    have sH : Sub H (del G2 bz) := (hS.trans hN.sub).in_del hz
    have hIf : IntS (del G2 bz) Yf yf (fcs s.base e) := (hN.own.ints' rfl).sub fun x f hx => by
      obtain ⟨q1, q2⟩ := rest_some.1 hx
      rw [del_ne _ fun e' => hbz (by rw [← e']; exact q1)]; exact q2
    have re2 := (hE.sub (hS.trans hN.sub)).rd n (by omega)
    rw [hge] at re2
    have hP2 := hP.sub (hS.trans hN.sub)
    simp (maxSteps := 300000) (disch := omega) only [gs, gs2, gs3, gs4, ↓reduceIte, Nat.reduceEqDiff, Int.reduceToNat, Nat.reduceMul, Nat.reduceAdd, Nat.reduceBEq, isLd, e0, e1, e5, e6, e7, re2]
    refine spec_l11At_ok (k := e) hP2 hs.b hst hel ?_
    simp (maxSteps := 300000) (disch := omega) only [gs, gs2, gs3, gs4, ↓reduceIte, Nat.reduceEqDiff, Int.reduceToNat, Nat.reduceMul, Nat.reduceAdd, Nat.reduceBEq, isLd, e0, e1, e5, e6, e7]
    refine cm_l2 (H := del G2 bz) (n := n) (e := e) (hP.sub sH) hs hms (sH _ _ h5) (del_none _ _) (Sub.del _ _) hF2 (hE.sub sH) (by omega) hge hel (by omega) hIf hR hC (by simp (maxSteps := 300000) (disch := omega) only [gs, gs2, gs3, gs4, ↓reduceIte, Nat.reduceEqDiff, Int.reduceToNat, Nat.reduceMul, Nat.reduceAdd, Nat.reduceBEq, isLd, e0]) (by simp (maxSteps := 300000) (disch := omega) only [gs, gs2, gs3, gs4, ↓reduceIte, Nat.reduceEqDiff, Int.reduceToNat, Nat.reduceMul, Nat.reduceAdd, Nat.reduceBEq, isLd, e5]) (by simp (maxSteps := 300000) (disch := omega) only [gs, gs2, gs3, gs4, ↓reduceIte, Nat.reduceEqDiff, Int.reduceToNat, Nat.reduceMul, Nat.reduceAdd, Nat.reduceBEq, isLd, e6]) (by simp (maxSteps := 300000) (disch := omega) only [gs, gs2, gs3, gs4, ↓reduceIte, Nat.reduceEqDiff, Int.reduceToNat, Nat.reduceMul, Nat.reduceAdd, Nat.reduceBEq, isLd, e7]) (by simp (maxSteps := 300000) (disch := omega) only [gs, gs2, gs3, gs4, ↓reduceIte, Nat.reduceEqDiff, Int.reduceToNat, Nat.reduceMul, Nat.reduceAdd, Nat.reduceBEq, isLd]) (by simp (maxSteps := 300000) (disch := omega) only [gs, gs2, gs3, gs4, ↓reduceIte, Nat.reduceEqDiff, Int.reduceToNat, Nat.reduceMul, Nat.reduceAdd, Nat.reduceBEq, isLd]) (by simp (maxSteps := 300000) (disch := omega) only [gs, gs2, gs3, gs4, ↓reduceIte, Nat.reduceEqDiff, Int.reduceToNat, Nat.reduceMul, Nat.reduceAdd, Nat.reduceBEq, isLd] <;> rfl) fun T' G' s' hF' hT' => ?_
    have u7 : T' 7 = .int .i64 n := by rw [hT' 7 (by omega)]; simp (maxSteps := 300000) (disch := omega) only [gs, gs2, gs3, gs4, ↓reduceIte, Nat.reduceEqDiff, Int.reduceToNat, Nat.reduceMul, Nat.reduceAdd, Nat.reduceBEq, isLd, e7]
    have hT2 : SameN 6 T' T := fun l hl => by
      rw [hT' l (by omega)]
      repeat rw [upd_app, if_neg (by omega)]
      exact hT l hl
    simp (maxSteps := 300000) (disch := omega) only [gs, gs2, gs3, gs4, ↓reduceIte, Nat.reduceEqDiff, Int.reduceToNat, Nat.reduceMul, Nat.reduceAdd, Nat.reduceBEq, isLd, u7]
    refine ⟨mm - 1, by omega, G', Sub.refl _, n + 1, fun l hl => ?_, rfl, by omega, by omega, sH.trans s', ?_⟩
    · repeat first | rw [upd_app, if_neg (by omega)] | rw [if_neg (by omega)]
      exact hT2 l hl
    · have : wE s (n + 1) = wFa s (wE s n) ((ofd s.base 1).getD n 0).toNat (fcs s.base ((ofd s.base 1).getD n 0).toNat).length := rfl
      rw [this, hge, Int.toNat_natCast]
      exact hF'
  · obtain rfl : n = (ofd s.base 1).length := by omega
    simp (maxSteps := 300000) (disch := omega) only [gs, gs2, gs3, gs4, ↓reduceIte, Nat.reduceEqDiff, Int.reduceToNat, Nat.reduceMul, Nat.reduceAdd, Nat.reduceBEq, isLd, e1, e6, e7, hn, Int.le_refl]
    refine hQ _ _ hS hF fun l hl => ?_
    repeat rw [upd_app, if_neg (by omega)]
    exact hT l hl
theorem cm_tree {G : GH} {q : Option Addr} {m : ShM} {s : Shf} {R C : Nat} {T : Nat → Value} {K : (Nat → Value) → GH → Prop} (t0 : T 0 = .pointer q) (t1 : T 1 = .int .i64 0) (hP : ShP G q m s) (hs : ShOk s) (hR : ssum s.base s.st 1 = (R : Nat)) (hC : ssum s.base s.st 0 = (C : Nat))
    (hK : ∀ T' G' b5 bz, Sub G G' → G bz = none → b5 ≠ bz → (∀ l, l < 5 → T' l = T l) → T' 5 = .pointer (some ⟨b5, 0, none⟩) → G' b5 = some ⟨mat4 s.p R C (some ⟨bz, 0, none⟩) (R * C), true⟩ → G' bz = some ⟨zc [.int .i64 0] (R * C), true⟩ → K T' G') : gT Tryz.prog c_spec_l11Matrix_1 [] K T G := by
  have hR32 := hs.st.2.2 1 (by omega) (by omega)
  have hC32 := hs.st.2.2 0 (by omega) (by omega)
  have hq := rd_some hP.f0
  have q1 := hP.f1
  have q2 := hP.f2
  have S1 : ∀ {G' : GH} (u : Sub G G') {Kx : Value → GH → Prop}, Kx (.int .i64 R) G' → GC Tryz.prog 84 [.pointer q, .slice m.S s.st.length m.e, .int .i64 1] G' Kx := by
    intro G' u Kx hx
    exact spec_l09Sum_ok (d := 1) (hP.sub u).cx (hP.sub u).g.st hs.b.cs hs.st.1 hs.st.2.1 (by omega) (by rw [hR]; exact hx)
  have S0 : ∀ {G' : GH} (u : Sub G G') {Kx : Value → GH → Prop}, Kx (.int .i64 C) G' → GC Tryz.prog 84 [.pointer q, .slice m.S s.st.length m.e, .int .i64 0] G' Kx := by
    intro G' u Kx hx
    exact spec_l09Sum_ok (d := 0) (hP.sub u).cx (hP.sub u).g.st hs.b.cs hs.st.1 hs.st.2.1 (by omega) (by rw [hC]; exact hx)
  simp (maxSteps := 300000) (disch := omega) only [gs, gs2, gs3, gs4, ↓reduceIte, Nat.reduceEqDiff, Int.reduceToNat, Nat.reduceMul, Nat.reduceAdd, Nat.reduceBEq, isLd, t0, t1, q1, q2]
  refine ⟨S1 (Sub.refl _) ?_, fun b5 hb5 => ?_⟩
  · simp (maxSteps := 300000) (disch := omega) only [gs, gs2, gs3, gs4, ↓reduceIte, Nat.reduceEqDiff, Int.reduceToNat, Nat.reduceMul, Nat.reduceAdd, Nat.reduceBEq, isLd, t0, t1, q1, q2]
    refine ⟨S0 (Sub.refl _) ?_, fun b5 hb5 => ?_⟩
    · simp (maxSteps := 300000) (disch := omega) only [gs, gs2, gs3, gs4, ↓reduceIte, Nat.reduceEqDiff, Int.reduceToNat, Nat.reduceMul, Nat.reduceAdd, Nat.reduceBEq, isLd, t0, t1, q1, q2]
      refine ⟨spec_l03Zero_ok (by omega) (by omega) fun bz hbz => ?_, fun b5 hb5 => ?_⟩
      · skip
        have sz := Sub.put hbz ⟨zc [.int .i64 0] (R * C), true⟩
        unfold matV matC
        simp (maxSteps := 300000) (disch := omega) only [gs, gs2, gs3, gs4, ↓reduceIte, Nat.reduceEqDiff, Int.reduceToNat, Nat.reduceMul, Nat.reduceAdd, Nat.reduceBEq, isLd, t0, t1, rd_sub sz q1, rd_sub sz q2]
        intro b5 hb5
        have nz : b5 ≠ bz := (put_none.1 hb5).1
        have s5 := Sub.put hb5 ⟨[.int .i64 s.p, .int .i64 R, .int .i64 C, .slice (some ⟨bz, 0, none⟩) (R * C) (R * C)], true⟩
        have s5z := Sub.put hb5 ⟨[.int .i64 0, .int .i64 0, .int .i64 0, .slice none 0 0], true⟩
        refine ⟨⟨rd_sub s5z (rd_sub sz q2), rd_sub s5z (rd_sub sz q2), rd_sub s5z (rd_sub sz q1), trivial⟩, ?_⟩
        simp (maxSteps := 300000) (disch := omega) only [gs, gs2, gs3, gs4, ↓reduceIte, Nat.reduceEqDiff, Int.reduceToNat, Nat.reduceMul, Nat.reduceAdd, Nat.reduceBEq, isLd]
        refine st_fresh (vs := [.int .i64 s.p, .int .i64 R, .int .i64 C, .slice (some ⟨bz, 0, none⟩) (R * C) (R * C)]) rfl rfl rfl (by intro v hv; simp at hv; rcases hv with rfl | rfl | rfl | rfl <;> rfl) ?_
        simp (maxSteps := 300000) (disch := omega) only [gs, gs2, gs3, gs4, ↓reduceIte, Nat.reduceEqDiff, Int.reduceToNat, Nat.reduceMul, Nat.reduceAdd, Nat.reduceBEq, isLd]
        exact hK _ _ b5 bz (sz.trans s5) hbz nz (fun l hl => by repeat rw [upd_app, if_neg (by omega)]) (by simp (maxSteps := 300000) (disch := omega) only [gs, gs2, gs3, gs4, ↓reduceIte, Nat.reduceEqDiff, Int.reduceToNat, Nat.reduceMul, Nat.reduceAdd, Nat.reduceBEq, isLd]) (put_same _ _ _) (s5 _ _ (put_same _ _ _))
      · skip
        have s5 := Sub.put hb5 ⟨[.int .i64 0, .int .i64 0, .int .i64 0, .slice none 0 0], true⟩
        refine ⟨⟨rd_sub s5 q2, rd_sub s5 q2, rd_sub s5 q1, trivial⟩, ?_⟩
        simp (maxSteps := 300000) (disch := omega) only [gs, gs2, gs3, gs4, ↓reduceIte, Nat.reduceEqDiff, Int.reduceToNat, Nat.reduceMul, Nat.reduceAdd, Nat.reduceBEq, isLd, t0, t1, rd_sub s5 q1, rd_sub s5 q2]
        refine spec_l03Zero_ok (by omega) (by omega) fun bz hbz => ?_
        have nz : bz ≠ b5 := (put_none.1 hbz).1
        have gz : G bz = none := (put_none.1 hbz).2
        have sz := Sub.put hbz ⟨zc [.int .i64 0] (R * C), true⟩
        unfold matV matC
        simp (maxSteps := 300000) (disch := omega) only [gs, gs2, gs3, gs4, ↓reduceIte, Nat.reduceEqDiff, Int.reduceToNat, Nat.reduceMul, Nat.reduceAdd, Nat.reduceBEq, isLd, t0, t1, rd_sub sz (rd_sub s5 q1), rd_sub sz (rd_sub s5 q2)]
        refine st_many (vs := [.int .i64 s.p, .int .i64 R, .int .i64 C, .slice (some ⟨bz, 0, none⟩) (R * C) (R * C)]) rfl (sz _ _ (put_same _ _ _)) rfl (by simp) (by intro v hv; simp at hv; rcases hv with rfl | rfl | rfl | rfl <;> rfl) ?_
        simp (maxSteps := 300000) (disch := omega) only [gs, gs2, gs3, gs4, ↓reduceIte, Nat.reduceEqDiff, Int.reduceToNat, Nat.reduceMul, Nat.reduceAdd, Nat.reduceBEq, isLd, over]
        exact hK _ _ b5 bz ((s5.trans sz).skip hb5) gz (Ne.symm nz) (fun l hl => by repeat rw [upd_app, if_neg (by omega)]) (by simp (maxSteps := 300000) (disch := omega) only [gs, gs2, gs3, gs4, ↓reduceIte, Nat.reduceEqDiff, Int.reduceToNat, Nat.reduceMul, Nat.reduceAdd, Nat.reduceBEq, isLd]) (put_same _ _ _) (by rw [put_ne _ _ nz]; exact put_same _ _ _)
    · skip
      have s5 := Sub.put hb5 ⟨[.int .i64 0, .int .i64 0, .int .i64 0, .slice none 0 0], true⟩
      refine ⟨⟨rd_sub s5 q2, rd_sub s5 q2, rd_sub s5 q1, trivial⟩, ?_⟩
      simp (maxSteps := 300000) (disch := omega) only [gs, gs2, gs3, gs4, ↓reduceIte, Nat.reduceEqDiff, Int.reduceToNat, Nat.reduceMul, Nat.reduceAdd, Nat.reduceBEq, isLd, t0, t1, rd_sub s5 q1, rd_sub s5 q2]
      refine S0 s5 ?_
      simp (maxSteps := 300000) (disch := omega) only [gs, gs2, gs3, gs4, ↓reduceIte, Nat.reduceEqDiff, Int.reduceToNat, Nat.reduceMul, Nat.reduceAdd, Nat.reduceBEq, isLd, t0, t1, rd_sub s5 q1, rd_sub s5 q2]
      refine spec_l03Zero_ok (by omega) (by omega) fun bz hbz => ?_
      have nz : bz ≠ b5 := (put_none.1 hbz).1
      have gz : G bz = none := (put_none.1 hbz).2
      have sz := Sub.put hbz ⟨zc [.int .i64 0] (R * C), true⟩
      unfold matV matC
      simp (maxSteps := 300000) (disch := omega) only [gs, gs2, gs3, gs4, ↓reduceIte, Nat.reduceEqDiff, Int.reduceToNat, Nat.reduceMul, Nat.reduceAdd, Nat.reduceBEq, isLd, t0, t1, rd_sub sz (rd_sub s5 q1), rd_sub sz (rd_sub s5 q2)]
      refine st_many (vs := [.int .i64 s.p, .int .i64 R, .int .i64 C, .slice (some ⟨bz, 0, none⟩) (R * C) (R * C)]) rfl (sz _ _ (put_same _ _ _)) rfl (by simp) (by intro v hv; simp at hv; rcases hv with rfl | rfl | rfl | rfl <;> rfl) ?_
      simp (maxSteps := 300000) (disch := omega) only [gs, gs2, gs3, gs4, ↓reduceIte, Nat.reduceEqDiff, Int.reduceToNat, Nat.reduceMul, Nat.reduceAdd, Nat.reduceBEq, isLd, over]
      exact hK _ _ b5 bz ((s5.trans sz).skip hb5) gz (Ne.symm nz) (fun l hl => by repeat rw [upd_app, if_neg (by omega)]) (by simp (maxSteps := 300000) (disch := omega) only [gs, gs2, gs3, gs4, ↓reduceIte, Nat.reduceEqDiff, Int.reduceToNat, Nat.reduceMul, Nat.reduceAdd, Nat.reduceBEq, isLd]) (put_same _ _ _) (by rw [put_ne _ _ nz]; exact put_same _ _ _)
  · skip
    have s5 := Sub.put hb5 ⟨[.int .i64 0, .int .i64 0, .int .i64 0, .slice none 0 0], true⟩
    refine ⟨⟨rd_sub s5 q2, rd_sub s5 q2, rd_sub s5 q1, trivial⟩, ?_⟩
    simp (maxSteps := 300000) (disch := omega) only [gs, gs2, gs3, gs4, ↓reduceIte, Nat.reduceEqDiff, Int.reduceToNat, Nat.reduceMul, Nat.reduceAdd, Nat.reduceBEq, isLd, t0, t1, rd_sub s5 q1, rd_sub s5 q2]
    refine S1 s5 ?_
    simp (maxSteps := 300000) (disch := omega) only [gs, gs2, gs3, gs4, ↓reduceIte, Nat.reduceEqDiff, Int.reduceToNat, Nat.reduceMul, Nat.reduceAdd, Nat.reduceBEq, isLd, t0, t1, rd_sub s5 q1, rd_sub s5 q2]
    refine S0 s5 ?_
    simp (maxSteps := 300000) (disch := omega) only [gs, gs2, gs3, gs4, ↓reduceIte, Nat.reduceEqDiff, Int.reduceToNat, Nat.reduceMul, Nat.reduceAdd, Nat.reduceBEq, isLd, t0, t1, rd_sub s5 q1, rd_sub s5 q2]
    refine spec_l03Zero_ok (by omega) (by omega) fun bz hbz => ?_
    have nz : bz ≠ b5 := (put_none.1 hbz).1
    have gz : G bz = none := (put_none.1 hbz).2
    have sz := Sub.put hbz ⟨zc [.int .i64 0] (R * C), true⟩
    unfold matV matC
    simp (maxSteps := 300000) (disch := omega) only [gs, gs2, gs3, gs4, ↓reduceIte, Nat.reduceEqDiff, Int.reduceToNat, Nat.reduceMul, Nat.reduceAdd, Nat.reduceBEq, isLd, t0, t1, rd_sub sz (rd_sub s5 q1), rd_sub sz (rd_sub s5 q2)]
    refine st_many (vs := [.int .i64 s.p, .int .i64 R, .int .i64 C, .slice (some ⟨bz, 0, none⟩) (R * C) (R * C)]) rfl (sz _ _ (put_same _ _ _)) rfl (by simp) (by intro v hv; simp at hv; rcases hv with rfl | rfl | rfl | rfl <;> rfl) ?_
    simp (maxSteps := 300000) (disch := omega) only [gs, gs2, gs3, gs4, ↓reduceIte, Nat.reduceEqDiff, Int.reduceToNat, Nat.reduceMul, Nat.reduceAdd, Nat.reduceBEq, isLd, over]
    exact hK _ _ b5 bz ((s5.trans sz).skip hb5) gz (Ne.symm nz) (fun l hl => by repeat rw [upd_app, if_neg (by omega)]) (by simp (maxSteps := 300000) (disch := omega) only [gs, gs2, gs3, gs4, ↓reduceIte, Nat.reduceEqDiff, Int.reduceToNat, Nat.reduceMul, Nat.reduceAdd, Nat.reduceBEq, isLd]) (put_same _ _ _) (by rw [put_ne _ _ nz]; exact put_same _ _ _)
theorem spec_l11Matrix_ok {G : GH} {q : Option Addr} {m : ShM} {s : Shf} {R C : Nat} (hP : ShP G q m s) (hs : ShOk s) (hms : s.ms.length ≤ 2 ^ 20) (hR : ssum s.base s.st 1 = (R : Nat)) (hC : ssum s.base s.st 0 = (C : Nat)) {K : Value → GH → Prop}
    (hk : ∀ G' D e, Sub G G' → Off G D → IntS G' D e (flatL R C (cobF s)) → K (matV s.p R C D (R * C) e) G') : GC Tryz.prog 93 [.pointer q, .int .i64 0] G K := by
  refine c_spec_l11Matrix_i (by simp) ?_
  have hw := @cm_tree
  unfold c_spec_l11Matrix
  generalize c_spec_l11Matrix_1 = D1 at hw ⊢
  simp (maxSteps := 300000) (disch := omega) only [gs, gs2, gs3, gs4, ↓reduceIte, Nat.reduceEqDiff, Int.reduceToNat, Nat.reduceMul, Nat.reduceAdd, Nat.reduceBEq, isLd]
  intro b4 hb4
  have s4 := Sub.put hb4 ⟨[.int .i64 0, .int .i64 0, .int .i64 0, .slice none 0 0], true⟩
  have g4 := put_same G b4 ⟨[.int .i64 0, .int .i64 0, .int .i64 0, .slice none 0 0], true⟩
  revert s4 g4
  generalize put G b4 ⟨[.int .i64 0, .int .i64 0, .int .i64 0, .slice none 0 0], true⟩ = G4
  intro s4 g4
  simp (maxSteps := 300000) (disch := omega) only [gs, gs2, gs3, gs4, ↓reduceIte, Nat.reduceEqDiff, Int.reduceToNat, Nat.reduceMul, Nat.reduceAdd, Nat.reduceBEq, isLd]
  refine hw (q := q) (m := m) (s := s) (R := R) (C := C) (by simp (maxSteps := 300000) (disch := omega) only [gs, gs2, gs3, gs4, ↓reduceIte, Nat.reduceEqDiff, Int.reduceToNat, Nat.reduceMul, Nat.reduceAdd, Nat.reduceBEq, isLd]) (by simp (maxSteps := 300000) (disch := omega) only [gs, gs2, gs3, gs4, ↓reduceIte, Nat.reduceEqDiff, Int.reduceToNat, Nat.reduceMul, Nat.reduceAdd, Nat.reduceBEq, isLd]) (hP.sub s4) hs hR hC fun T1 G1 b5 bz s1 gz n5 hT t5 g5 gzz => ?_
  have t0 : T1 0 = .pointer q := by rw [hT 0 (by omega)]; simp (maxSteps := 300000) (disch := omega) only [gs, gs2, gs3, gs4, ↓reduceIte, Nat.reduceEqDiff, Int.reduceToNat, Nat.reduceMul, Nat.reduceAdd, Nat.reduceBEq, isLd]
  have t1 : T1 1 = .int .i64 0 := by rw [hT 1 (by omega)]; simp (maxSteps := 300000) (disch := omega) only [gs, gs2, gs3, gs4, ↓reduceIte, Nat.reduceEqDiff, Int.reduceToNat, Nat.reduceMul, Nat.reduceAdd, Nat.reduceBEq, isLd]
  have t4 : T1 4 = .pointer (some ⟨b4, 0, none⟩) := by rw [hT 4 (by omega)]; simp (maxSteps := 300000) (disch := omega) only [gs, gs2, gs3, gs4, ↓reduceIte, Nat.reduceEqDiff, Int.reduceToNat, Nat.reduceMul, Nat.reduceAdd, Nat.reduceBEq, isLd]
  clear hT
  have n4 : b4 ≠ bz := fun e => by rw [← e, g4] at gz; cases gz
  have gz0 : G bz = none := s4.none gz
  have hbn := hs.b.n
  have hP1 := (hP.sub s4).sub s1
  have hq := rd_some hP1.f0
  simp (maxSteps := 300000) (disch := omega) only [gs, gs2, gs3, gs4, ↓reduceIte, Nat.reduceEqDiff, Int.reduceToNat, Nat.reduceMul, Nat.reduceAdd, Nat.reduceBEq, isLd, t0, t1, t4, t5]
  refine spec_l05Of_ok (d := 1) hP1.cx hbn hs.b.cs.l (by omega) fun G2 Ye ye hN => ?_
  have hbz : G1 bz ≠ none := by rw [gzz]; simp
  have sH : Sub G4 (del G2 bz) := (s1.trans hN.sub).in_del gz
  have hE : IntS (del G2 bz) Ye ye (ofd s.base 1) := (hN.own.ints' rfl).sub fun x f hx => by
    obtain ⟨q1, q2⟩ := rest_some.1 hx
    rw [del_ne _ fun e' => hbz (by rw [← e']; exact q1)]; exact q2
  have h5 : del G2 bz b5 = some ⟨mat4 s.p R C (some ⟨bz, 0, none⟩) (R * C), true⟩ := by rw [del_ne _ n5]; exact hN.sub _ _ g5
  have hF0 := Fl.zero (hN.sub _ _ gzz)
  have h4 := sH _ _ g4
  simp (maxSteps := 300000) (disch := omega) only [gs, gs2, gs3, gs4, ↓reduceIte, Nat.reduceEqDiff, Int.reduceToNat, Nat.reduceMul, Nat.reduceAdd, Nat.reduceBEq, isLd, t0, t1, t4, t5]
  refine cm_l3 (H := del G2 bz) (R := R) (C := C) (b5 := b5) ((hP.sub s4).sub sH) hs hms h5 (del_none _ _) (Sub.del _ _) hF0 hE hR.symm hC.symm (by simp (maxSteps := 300000) (disch := omega) only [gs, gs2, gs3, gs4, ↓reduceIte, Nat.reduceEqDiff, Int.reduceToNat, Nat.reduceMul, Nat.reduceAdd, Nat.reduceBEq, isLd, t0]) (by simp (maxSteps := 300000) (disch := omega) only [gs, gs2, gs3, gs4, ↓reduceIte, Nat.reduceEqDiff, Int.reduceToNat, Nat.reduceMul, Nat.reduceAdd, Nat.reduceBEq, isLd, t1]) (by simp (maxSteps := 300000) (disch := omega) only [gs, gs2, gs3, gs4, ↓reduceIte, Nat.reduceEqDiff, Int.reduceToNat, Nat.reduceMul, Nat.reduceAdd, Nat.reduceBEq, isLd, t5]) (by simp (maxSteps := 300000) (disch := omega) only [gs, gs2, gs3, gs4, ↓reduceIte, Nat.reduceEqDiff, Int.reduceToNat, Nat.reduceMul, Nat.reduceAdd, Nat.reduceBEq, isLd]) (by simp (maxSteps := 300000) (disch := omega) only [gs, gs2, gs3, gs4, ↓reduceIte, Nat.reduceEqDiff, Int.reduceToNat, Nat.reduceMul, Nat.reduceAdd, Nat.reduceBEq, isLd] <;> rfl) fun T' G' s' hF hT' => ?_
  have u4 : T' 4 = .pointer (some ⟨b4, 0, none⟩) := by rw [hT' 4 (by omega)]; simp (maxSteps := 300000) (disch := omega) only [gs, gs2, gs3, gs4, ↓reduceIte, Nat.reduceEqDiff, Int.reduceToNat, Nat.reduceMul, Nat.reduceAdd, Nat.reduceBEq, isLd, t4]
  have u5 : T' 5 = .pointer (some ⟨b5, 0, none⟩) := by rw [hT' 5 (by omega)]; simp (maxSteps := 300000) (disch := omega) only [gs, gs2, gs3, gs4, ↓reduceIte, Nat.reduceEqDiff, Int.reduceToNat, Nat.reduceMul, Nat.reduceAdd, Nat.reduceBEq, isLd, t5]
  have g5' := s' _ _ h5
  have x0 : rd G' (some ⟨b5, 0, none⟩) = some (.int .i64 s.p) := by simp only [rd, g5']; rfl
  have x1 : rd G' (some ⟨b5, 1, none⟩) = some (.int .i64 R) := by simp only [rd, g5']; rfl
  have x2 : rd G' (some ⟨b5, 2, none⟩) = some (.int .i64 C) := by simp only [rd, g5']; rfl
  have x3 : rd G' (some ⟨b5, 3, none⟩) = some (.slice (some ⟨bz, 0, none⟩) (R * C) (R * C)) := by simp only [rd, g5']; rfl
  simp (maxSteps := 300000) (disch := omega) only [gs, gs2, gs3, gs4, ↓reduceIte, Nat.reduceEqDiff, Int.reduceToNat, Nat.reduceMul, Nat.reduceAdd, Nat.reduceBEq, isLd, u4, u5, x0, x1, x2, x3]
  refine st_many (vs := [.int .i64 s.p, .int .i64 R, .int .i64 C, .slice (some ⟨bz, 0, none⟩) (R * C) (R * C)]) rfl (s' _ _ h4) rfl (by simp) (by intro v hv; simp at hv; rcases hv with rfl | rfl | rfl | rfl <;> rfl) ?_
  simp (maxSteps := 300000) (disch := omega) only [gs, gs2, gs3, gs4, ↓reduceIte, Nat.reduceEqDiff, Int.reduceToNat, Nat.reduceMul, Nat.reduceAdd, Nat.reduceBEq, isLd, over, u4]
  have hI := hF.ints
  exact hk _ (some ⟨bz, 0, none⟩) (R * C) (((s4.trans sH).trans s').skip hb4) (fun a ha => by cases ha; exact gz0) (ints_put hI fun a ha => by cases ha; exact Ne.symm n4)
theorem flat_set {R C i j : Nat} {F : Int → Int → Int} {x : Int} (hi : i < R) (hj : j < C) : ((flatL R C F).map I64).set (i * C + j) (I64 x) = (flatL R C (upd2 F i j x)).map I64 := by
  rw [← List.map_set]
  congr 1
  refine List.ext_getElem (by simp [flatL_len]) fun v h1 h2 => ?_
  have hv : v < R * C := by simpa [flatL_len] using h2
  simp only [List.getElem_set, flatL, List.getElem_map, List.getElem_range]
  unfold upd2
  have hC : 0 < C := by omega
  by_cases e : i * C + j = v
  · subst e
    have e1 : (i * C + j) / C = i := by rw [Nat.add_comm, Nat.add_mul_div_right _ _ hC, Nat.div_eq_of_lt hj]; omega
    have e2 : (i * C + j) % C = j := by rw [Nat.add_comm, Nat.add_mul_mod_self_right, Nat.mod_eq_of_lt hj]
    rw [if_pos rfl, e1, e2, if_pos ⟨rfl, rfl⟩]
  · rw [if_neg e, if_neg]
    rintro ⟨h1, h2⟩
    apply e
    have h3 : v / C = i := by omega
    have h4 : v % C = j := by omega
    rw [← h3, ← h4, Nat.mul_comm]
    exact Nat.div_add_mod v C
/-- a matrix's cells are a list of one's own, besides what stays known. -/
structure WF (H G : GH) (A : Option Addr) (c R C : Nat) (F : Int → Int → Int) : Prop where
  o : Own G A c ((flatL R C F).map I64) 1 (R * C)
  s : Sub H G
  f : Off H A
theorem WF.st {H G : GH} {A : Option Addr} {c R C : Nat} {F : Int → Int → Int} (h : WF H G A c R C F) {i j : Nat} (hi : i < R) (hj : j < C) {x : Int} {K : Value → GH → Prop} (hk : ∀ G', WF H G' A c R C (upd2 F i j x) → K undef G') : gSt 1 (.pointer (pa A (i * C + j))) (.int .i64 x) G K := by
  refine h.o.store (flat_nat hi hj) rfl fun G' ho hs => hk G' ⟨?_, hs H h.s h.f, h.f⟩
  have := flat_set (F := F) (x := x) hi hj
  unfold I64 at this ho ⊢
  rwa [this] at ho
theorem WF.ints {H G : GH} {A : Option Addr} {c R C : Nat} {F : Int → Int → Int} (h : WF H G A c R C F) : IntS G A c (flatL R C F) := h.o.ints' (by rw [flatL_len])
theorem WF.sn {H G : GH} {A : Option Addr} {c R C : Nat} {F : Int → Int → Int} (h : WF H G A c R C F) (h0 : 0 < R * C) : 0 < Gh.sn A := h.ints.sn (by rw [flatL_len]; exact h0)
theorem WF.up {H G G2 : GH} {A : Option Addr} {c R C : Nat} {F : Int → Int → Int} (h : WF H G A c R C F) (s : Sub G G2) : WF (wz G2 A) G2 A c R C F := ⟨h.o.sub s, Sub.wz _ _, Off.wz _ _⟩
theorem WF.to {H G G2 : GH} {A : Option Addr} {c R C : Nat} {F : Int → Int → Int} (h : WF H G A c R C F) (s : Sub G G2) : Sub H (wz G2 A) := fun x e hx => by
  rw [wz_ne fun a ha e' => by have := h.f a ha; rw [e', hx] at this; cases this]
  exact s _ _ (h.s _ _ hx)
theorem WF.nw {H G G2 : GH} {A : Option Addr} {c R C x : Nat} {F : Int → Int → Int} (h : WF H G A c R C F) (hx : G x = none) : wz G2 A x = G2 x := wz_ne fun a ha e => by
  have := own_ne h.o a ha
  rw [e] at this; exact this hx
theorem WF.rest {H G G2 : GH} {A : Option Addr} {c R C : Nat} {F : Int → Int → Int} (h : WF H G A c R C F) : Sub (Gh.rest G G2) (wz G2 A) := fun x e hx => by
  obtain ⟨q1, q2⟩ := rest_some.1 hx
  rw [h.nw q1]; exact q2
/-- the temporaries outside an inner loop stay. -/
def SameO (T' T : Nat → Value) : Prop := ∀ l, l ≤ 13 ∨ (15 ≤ l ∧ l ≤ 62) → T' l = T l
theorem ci_l0 {H G : GH} {b2 b5 b10 ax k R C tp lf a i e : Nat} {A Ax : Option Addr} {m : ShM} {s : Shf} {M : Mt} {F : Int → Int → Int} {T : Nat → Value} {Q : Cont} (hP : ShP H (some ⟨b2, 0, none⟩) m s) (h10 : MB H b10 M.p M.r.toNat M.c.toNat A k (fM M)) (hMo : MtOk M) (hp : 2 ≤ s.p ∧ s.p ≤ 251) (h5 : H b5 = some ⟨mat4 s.p R C Ax ax, true⟩) (hF : WF H G Ax ax R C F)
    (hR : R ≤ 32) (hC : C ≤ 32) (hi : i ≤ 10) (ha : a < M.r.toNat) (hta : tp + M.r.toNat ≤ R) (hlb : lf + M.c.toNat ≤ C)
    (t2 : T 2 = .pointer (some ⟨b2, 0, none⟩)) (t5 : T 5 = .pointer (some ⟨b5, 0, none⟩)) (t8 : T 8 = .int .i64 i) (t10 : T 10 = .pointer (some ⟨b10, 0, none⟩)) (t11 : T 11 = .int .i64 tp) (t12 : T 12 = .int .i64 lf) (t13 : T 13 = .int .i64 a) (t63 : T 63 = .int .i64 (M.c.toNat : Nat)) (t64 : T 64 = .int .i64 0)
    (hQ : ∀ T' G', WF H G' Ax ax R C (wB F (fun i' j => fM M i' j * sgn s.p i % s.p) tp lf a M.c.toNat) → SameO T' T → Q (.ex 6) T' G') : gLoop (gW Tryz.prog c_impl_coboundaryMatrix_l0) Q T G := by
  obtain ⟨f0, f1, f2, f3⟩ := hP.b
  have hsz := hMo.c
  have hrz := hMo.r
  have m5 : ∀ {G' : GH}, Sub H G' → rd G' (some ⟨b5, 2, none⟩) = some (.int .i64 C) ∧ rd G' (some ⟨b5, 3, none⟩) = some (.slice Ax (R * C) ax) := fun u => by
    simp only [rd, u _ _ h5]; exact ⟨rfl, rfl⟩
  refine gLoop_intro (fun mm T' G' => ∃ b : Nat, SameO T' T ∧ T' 63 = .int .i64 (M.c.toNat : Nat) ∧ T' 64 = .int .i64 b ∧ mm + b = M.c.toNat ∧ b ≤ M.c.toNat ∧ WF H G' Ax ax R C (wB F (fun i' j => fM M i' j * sgn s.p i % s.p) tp lf a b)) M.c.toNat
    ⟨0, fun l _ => rfl, t63, t64, by omega, by omega, hF⟩ ?_
  clear hF
  rintro mm T1 G1 ⟨b, hT, e63, e64, hm, hbl, hF⟩
  have hS := hF.s
  have e2 : T1 2 = .pointer (some ⟨b2, 0, none⟩) := (hT 2 (by omega)).trans t2
  have e5 : T1 5 = .pointer (some ⟨b5, 0, none⟩) := (hT 5 (by omega)).trans t5
  have e8 : T1 8 = .int .i64 i := (hT 8 (by omega)).trans t8
  have e10 : T1 10 = .pointer (some ⟨b10, 0, none⟩) := (hT 10 (by omega)).trans t10
  have e11 : T1 11 = .int .i64 tp := (hT 11 (by omega)).trans t11
  have e12 : T1 12 = .int .i64 lf := (hT 12 (by omega)).trans t12
  have e13 : T1 13 = .int .i64 a := (hT 13 (by omega)).trans t13
  simp (maxSteps := 300000) (disch := omega) only [gs, gs2, gs3, gs4, ↓reduceIte, Nat.reduceEqDiff, Int.reduceToNat, Nat.reduceMul, Nat.reduceAdd, Nat.reduceBEq, isLd, e63, e64]
  by_cases hb : (b : Int) < (M.c.toNat : Nat)
  · have hb' : b < M.c.toNat := by omega
    have hM1 := h10.sub hS
    obtain ⟨q2, q3⟩ := m5 hS
    have p1 := rd_sub hS f1
    have hfb := fM_bd hMo a b
    have hsg : 0 ≤ sgn s.p i ∧ sgn s.p i ≤ 250 := by unfold sgn; split <;> omega
    have huv := uv_bd hfb hsg
    have w1 := w64 (fM M a b * sgn s.p i) (by omega) (by omega)
    have hrem := bin_rem .i64 (fM M a b * sgn s.p i) s.p (by omega)
    rw [Int.tmod_eq_emod_of_nonneg huv.1] at hrem
    have m1 := mulB (a := (tp : Int) + a) (b := (C : Int)) (A := 2 ^ 10) (B := 2 ^ 10) (by omega) (by omega)
    have w2 := w64 (((tp : Int) + a) * C) (by omega) (by omega)
    have w3 := w64 (((tp : Int) + a) * C + lf) (by omega) (by omega)
    have w4 := w64 (((tp : Int) + a) * C + lf + b) (by omega) (by omega)
    have e1 : ((tp : Int) + a) * C + lf + b = (((tp + a) * C + (lf + b) : Nat) : Int) := by push_cast; omega
    have l1 := flat_nat (show tp + a < R by omega) (show lf + b < C by omega)
    have hxs := hF.sn (by omega)
    simp (maxSteps := 300000) (disch := omega) only [gs, gs2, gs3, gs4, ↓reduceIte, Nat.reduceEqDiff, Int.reduceToNat, Nat.reduceMul, Nat.reduceAdd, Nat.reduceBEq, isLd, e2, e5, e8, e10, e11, e12, e13, e63, e64, hb, q2, q3, p1, hM1.f0, hM1.f1, hM1.f2, hM1.f3, w2, w3, w4, e1]
    refine impl_at_ok (p := M.p) (R := M.r.toNat) (C := M.c.toNat) (A := A) (c := k) (f := fM M) hM1.m ha hb' (by omega) (by omega) ?_
    simp (maxSteps := 300000) (disch := omega) only [gs, gs2, gs3, gs4, ↓reduceIte, Nat.reduceEqDiff, Int.reduceToNat, Nat.reduceMul, Nat.reduceAdd, Nat.reduceBEq, isLd, q2, q3, p1, hM1.f0, hM1.f1, hM1.f2, hM1.f3]
    refine impl_alternating_ok (i := i) hp (by omega) ?_
    simp (maxSteps := 300000) (disch := omega) only [gs, gs2, gs3, gs4, ↓reduceIte, Nat.reduceEqDiff, Int.reduceToNat, Nat.reduceMul, Nat.reduceAdd, Nat.reduceBEq, isLd, q2, q3, p1, hM1.f0, hM1.f1, hM1.f2, hM1.f3, w1, hrem, e1]
    refine hF.st (show tp + a < R by omega) (show lf + b < C by omega) fun G4 hF4 => ?_
    simp (maxSteps := 300000) (disch := omega) only [gs, gs2, gs3, gs4, ↓reduceIte, Nat.reduceEqDiff, Int.reduceToNat, Nat.reduceMul, Nat.reduceAdd, Nat.reduceBEq, isLd, e63, e64]
    refine ⟨mm - 1, by omega, G4, Sub.refl _, b + 1, fun l hl => ?_, rfl, by omega, by omega, ?_⟩
    · repeat first | rw [upd_app, if_neg (by omega)] | rw [if_neg (by omega)]
      exact hT l hl
    · have e3 : ((tp + a : Nat) : Int) = (tp : Int) + a := by push_cast; rfl
      have e4 : ((lf + b : Nat) : Int) = (lf : Int) + b := by push_cast; rfl
      rw [e3, e4] at hF4
      exact hF4
  · obtain rfl : b = M.c.toNat := by omega
    simp (maxSteps := 300000) (disch := omega) only [gs, gs2, gs3, gs4, ↓reduceIte, Nat.reduceEqDiff, Int.reduceToNat, Nat.reduceMul, Nat.reduceAdd, Nat.reduceBEq, isLd, e63, e64, hb]
    refine hQ _ _ hF fun l hl => ?_
    repeat rw [upd_app, if_neg (by omega)]
    exact hT l hl
/-- the temporaries outside the rows' loop stay. -/
def SameP (T' T : Nat → Value) : Prop := ∀ l, l ≤ 12 ∨ (15 ≤ l ∧ l ≤ 57) → T' l = T l
theorem ci_l1 {H G : GH} {b2 b5 b10 ax k R C tp lf i : Nat} {A Ax : Option Addr} {m : ShM} {s : Shf} {M : Mt} {F : Int → Int → Int} {T : Nat → Value} {Q : Cont} (hP : ShP H (some ⟨b2, 0, none⟩) m s) (h10 : MB H b10 M.p M.r.toNat M.c.toNat A k (fM M)) (hMo : MtOk M) (hp : 2 ≤ s.p ∧ s.p ≤ 251) (h5 : H b5 = some ⟨mat4 s.p R C Ax ax, true⟩) (hF : WF H G Ax ax R C F)
    (hR : R ≤ 32) (hC : C ≤ 32) (hi : i ≤ 10) (hta : tp + M.r.toNat ≤ R) (hlb : lf + M.c.toNat ≤ C)
    (t2 : T 2 = .pointer (some ⟨b2, 0, none⟩)) (t5 : T 5 = .pointer (some ⟨b5, 0, none⟩)) (t8 : T 8 = .int .i64 i) (t10 : T 10 = .pointer (some ⟨b10, 0, none⟩)) (t11 : T 11 = .int .i64 tp) (t12 : T 12 = .int .i64 lf) (t58 : T 58 = .int .i64 (M.r.toNat : Nat)) (t59 : T 59 = .int .i64 0)
    (hQ : ∀ T' G', WF H G' Ax ax R C (wA F (fun i' j => fM M i' j * sgn s.p i % s.p) tp lf M.c.toNat M.r.toNat) → SameP T' T → Q (.ex 4) T' G') : gLoop (gW Tryz.prog c_impl_coboundaryMatrix_l1) Q T G := by
  have hrz := hMo.r
  refine gLoop_intro (fun mm T' G' => ∃ a : Nat, SameP T' T ∧ T' 58 = .int .i64 (M.r.toNat : Nat) ∧ T' 59 = .int .i64 a ∧ mm + a = M.r.toNat ∧ a ≤ M.r.toNat ∧ WF H G' Ax ax R C (wA F (fun i' j => fM M i' j * sgn s.p i % s.p) tp lf M.c.toNat a)) M.r.toNat
    ⟨0, fun l _ => rfl, t58, t59, by omega, by omega, hF⟩ ?_
  clear hF
  rintro mm T1 G1 ⟨a, hT, e58, e59, hm, hal, hF⟩
  have hS := hF.s
  have e2 : T1 2 = .pointer (some ⟨b2, 0, none⟩) := (hT 2 (by omega)).trans t2
  have e5 : T1 5 = .pointer (some ⟨b5, 0, none⟩) := (hT 5 (by omega)).trans t5
  have e8 : T1 8 = .int .i64 i := (hT 8 (by omega)).trans t8
  have e10 : T1 10 = .pointer (some ⟨b10, 0, none⟩) := (hT 10 (by omega)).trans t10
  have e11 : T1 11 = .int .i64 tp := (hT 11 (by omega)).trans t11
  have e12 : T1 12 = .int .i64 lf := (hT 12 (by omega)).trans t12
  have hM1 := h10.sub hS
  simp (maxSteps := 300000) (disch := omega) only [gs, gs2, gs3, gs4, ↓reduceIte, Nat.reduceEqDiff, Int.reduceToNat, Nat.reduceMul, Nat.reduceAdd, Nat.reduceBEq, isLd, e58, e59]
  by_cases ha : (a : Int) < (M.r.toNat : Nat)
  · simp (maxSteps := 300000) (disch := omega) only [gs, gs2, gs3, gs4, ↓reduceIte, Nat.reduceEqDiff, Int.reduceToNat, Nat.reduceMul, Nat.reduceAdd, Nat.reduceBEq, isLd, e58, e59, ha, e10, hM1.f2]
    refine ci_l0 (a := a) (i := i) (e := 0) hP h10 hMo hp h5 hF hR hC hi (by omega) hta hlb (by simp (maxSteps := 300000) (disch := omega) only [gs, gs2, gs3, gs4, ↓reduceIte, Nat.reduceEqDiff, Int.reduceToNat, Nat.reduceMul, Nat.reduceAdd, Nat.reduceBEq, isLd, e2]) (by simp (maxSteps := 300000) (disch := omega) only [gs, gs2, gs3, gs4, ↓reduceIte, Nat.reduceEqDiff, Int.reduceToNat, Nat.reduceMul, Nat.reduceAdd, Nat.reduceBEq, isLd, e5]) (by simp (maxSteps := 300000) (disch := omega) only [gs, gs2, gs3, gs4, ↓reduceIte, Nat.reduceEqDiff, Int.reduceToNat, Nat.reduceMul, Nat.reduceAdd, Nat.reduceBEq, isLd, e8]) (by simp (maxSteps := 300000) (disch := omega) only [gs, gs2, gs3, gs4, ↓reduceIte, Nat.reduceEqDiff, Int.reduceToNat, Nat.reduceMul, Nat.reduceAdd, Nat.reduceBEq, isLd, e10]) (by simp (maxSteps := 300000) (disch := omega) only [gs, gs2, gs3, gs4, ↓reduceIte, Nat.reduceEqDiff, Int.reduceToNat, Nat.reduceMul, Nat.reduceAdd, Nat.reduceBEq, isLd, e11]) (by simp (maxSteps := 300000) (disch := omega) only [gs, gs2, gs3, gs4, ↓reduceIte, Nat.reduceEqDiff, Int.reduceToNat, Nat.reduceMul, Nat.reduceAdd, Nat.reduceBEq, isLd, e12]) (by simp (maxSteps := 300000) (disch := omega) only [gs, gs2, gs3, gs4, ↓reduceIte, Nat.reduceEqDiff, Int.reduceToNat, Nat.reduceMul, Nat.reduceAdd, Nat.reduceBEq, isLd]) (by simp (maxSteps := 300000) (disch := omega) only [gs, gs2, gs3, gs4, ↓reduceIte, Nat.reduceEqDiff, Int.reduceToNat, Nat.reduceMul, Nat.reduceAdd, Nat.reduceBEq, isLd]) (by simp (maxSteps := 300000) (disch := omega) only [gs, gs2, gs3, gs4, ↓reduceIte, Nat.reduceEqDiff, Int.reduceToNat, Nat.reduceMul, Nat.reduceAdd, Nat.reduceBEq, isLd] <;> rfl) fun T' G' hF' hT' => ?_
    have u58 : T' 58 = .int .i64 (M.r.toNat : Nat) := by rw [hT' 58 (by omega)]; simp (maxSteps := 300000) (disch := omega) only [gs, gs2, gs3, gs4, ↓reduceIte, Nat.reduceEqDiff, Int.reduceToNat, Nat.reduceMul, Nat.reduceAdd, Nat.reduceBEq, isLd, e58]
    have u59 : T' 59 = .int .i64 a := by rw [hT' 59 (by omega)]; simp (maxSteps := 300000) (disch := omega) only [gs, gs2, gs3, gs4, ↓reduceIte, Nat.reduceEqDiff, Int.reduceToNat, Nat.reduceMul, Nat.reduceAdd, Nat.reduceBEq, isLd, e59]
    have hT2 : SameP T' T := fun l hl => by
      rw [hT' l (by omega)]
      repeat rw [upd_app, if_neg (by omega)]
      exact hT l hl
    simp (maxSteps := 300000) (disch := omega) only [gs, gs2, gs3, gs4, ↓reduceIte, Nat.reduceEqDiff, Int.reduceToNat, Nat.reduceMul, Nat.reduceAdd, Nat.reduceBEq, isLd, u58, u59]
    refine ⟨mm - 1, by omega, G', Sub.refl _, a + 1, fun l hl => ?_, rfl, by omega, by omega, hF'⟩
    repeat first | rw [upd_app, if_neg (by omega)] | rw [if_neg (by omega)]
    exact hT2 l hl
  · obtain rfl : a = M.r.toNat := by omega
    simp (maxSteps := 300000) (disch := omega) only [gs, gs2, gs3, gs4, ↓reduceIte, Nat.reduceEqDiff, Int.reduceToNat, Nat.reduceMul, Nat.reduceAdd, Nat.reduceBEq, isLd, e58, e59, ha]
    refine hQ _ _ hF fun l hl => ?_
    repeat rw [upd_app, if_neg (by omega)]
    exact hT l hl
/-- the temporaries outside the faces' loop stay. -/
def SameQ (T' T : Nat → Value) : Prop := ∀ l, l ≤ 7 ∨ (15 ≤ l ∧ l ≤ 41) → T' l = T l
theorem ci_l2 {H G : GH} {b2 b5 ax R C e yf : Nat} {Yf Ax : Option Addr} {m : ShM} {s : Shf} {F : Int → Int → Int} {T : Nat → Value} {Q : Cont} (hP : ShP H (some ⟨b2, 0, none⟩) m s) (hs : ShOk s) (hms : s.ms.length ≤ 2 ^ 20) (h5 : H b5 = some ⟨mat4 s.p R C Ax ax, true⟩) (hF : WF H G Ax ax R C F)
    (hel : e < s.base.length) (he2 : (s.base.getD e []).length = 2) (hf : IntS H Yf yf (fcs s.base e)) (hR : (R : Int) = ssum s.base s.st 1) (hC : (C : Int) = ssum s.base s.st 0)
    (t2 : T 2 = .pointer (some ⟨b2, 0, none⟩)) (t5 : T 5 = .pointer (some ⟨b5, 0, none⟩)) (t7 : T 7 = .int .i64 e) (t40 : T 40 = .slice Yf (fcs s.base e).length yf) (t41 : T 41 = .int .i64 (fcs s.base e).length) (t42 : T 42 = .int .i64 0)
    (hQ : ∀ T' G', WF H G' Ax ax R C (wFa s F e (fcs s.base e).length) → SameQ T' T → Q (.ex 2) T' G') : gLoop (gW Tryz.prog c_impl_coboundaryMatrix_l2) Q T G := by
  have hR32 := hs.st.2.2 1 (by omega) (by omega)
  have hC32 := hs.st.2.2 0 (by omega) (by omega)
  have hfl : (fcs s.base e).length = 2 := by rw [fcs_len, facs_two, if_pos (by omega), he2]
  have hst := hs.st
  have hfsn := hf.sn (by omega)
  have hfe := fcol_nn hst e
  have hend := fcol_end hst hel (by omega)
  rw [show dimS s e = 1 by unfold dimS; omega] at hend
  obtain ⟨tp, htp⟩ : ∃ tp : Nat, fcol s e = tp := ⟨(fcol s e).toNat, by omega⟩
  refine gLoop_intro (fun mm T' G' => ∃ i : Nat, SameQ T' T ∧ T' 42 = .int .i64 i ∧ mm + i = 2 ∧ i ≤ 2 ∧ WF H G' Ax ax R C (wFa s F e i)) 2
    ⟨0, fun l _ => rfl, t42, by omega, by omega, hF⟩ ?_
  clear hF
  rintro mm T1 G1 ⟨i, hT, e42, hm, hil, hF⟩
  have hS := hF.s
  have e2 : T1 2 = .pointer (some ⟨b2, 0, none⟩) := (hT 2 (by omega)).trans t2
  have e5 : T1 5 = .pointer (some ⟨b5, 0, none⟩) := (hT 5 (by omega)).trans t5
  have e7 : T1 7 = .int .i64 e := (hT 7 (by omega)).trans t7
  have e40 : T1 40 = .slice Yf (fcs s.base e).length yf := (hT 40 (by omega)).trans t40
  have e41 : T1 41 = .int .i64 (fcs s.base e).length := (hT 41 (by omega)).trans t41
  simp (maxSteps := 300000) (disch := omega) only [gs, gs2, gs3, gs4, ↓reduceIte, Nat.reduceEqDiff, Int.reduceToNat, Nat.reduceMul, Nat.reduceAdd, Nat.reduceBEq, isLd, e41, e42]
  by_cases hi : (i : Int) < (fcs s.base e).length
  · have hi2 : i < (fcs s.base e).length := by omega
    have hP1 := hP.sub hS
    obtain ⟨f0, f1, f2, f3⟩ := hP1.b
    obtain ⟨f, hfe1, hfe2, hfe3, _⟩ := fcs_bd hs.b hel hi2
    have hfa : faN s e i = f := by unfold faN; rw [hfe2]; rfl
    have rf := (hf.sub hS).rd i hi2
    rw [hfe2] at rf
    have hmo := hs.m e i hel hi2
    have hki := fmap_lt hel hi2
    have hnn := hs.n
    have hff := fcol_nn hst f
    have hfend := fcol_end hst (k := f) (by omega) (by omega)
    rw [show dimS s f = 0 by unfold dimS; omega] at hfend
    obtain ⟨lf, hlf⟩ : ∃ lf : Nat, fcol s f = lf := ⟨(fcol s f).toNat, by omega⟩
    have hp1 := hs.p.1
    have hp2 := hs.p.2.1
    have hcc := hmo.2.2.2
    rw [hfe2, Int.toNat_natCast] at hcc
    have hrr := hmo.2.2.1
    have hstl := hst.1
    have hse := hst.2.1 e (by omega)
    have hsf := hst.2.1 f (by omega)
    simp (maxSteps := 300000) (disch := omega) only [gs, gs2, gs3, gs4, ↓reduceIte, Nat.reduceEqDiff, Int.reduceToNat, Nat.reduceMul, Nat.reduceAdd, Nat.reduceBEq, isLd, e2, e5, e7, e40, e41, e42, hi, rf, f0, f1, f2, f3]
    refine impl_direct_ok (m := m) (s := s) (k := e) (i := i) hP1.g hs.b (by omega) (by omega) hms ?_
    simp (maxSteps := 300000) (disch := omega) only [gs, gs2, gs3, gs4, ↓reduceIte, Nat.reduceEqDiff, Int.reduceToNat, Nat.reduceMul, Nat.reduceAdd, Nat.reduceBEq, isLd]
    intro b10 hb10
    simp (maxSteps := 300000) (disch := omega) only [gs, gs2, gs3, gs4, ↓reduceIte, Nat.reduceEqDiff, Int.reduceToNat, Nat.reduceMul, Nat.reduceAdd, Nat.reduceBEq, isLd]
    refine st_fresh (vs := mtC (dirM s e i) (m.Hm (fmap s.base e + i)).1 (m.Hm (fmap s.base e + i)).2) rfl rfl rfl (mtC_one _ _ _) ?_
    have sb := Sub.put hb10 ⟨mtC (dirM s e i) (m.Hm (fmap s.base e + i)).1 (m.Hm (fmap s.base e + i)).2, true⟩
    have hWn := hF.up sb
    have hWt := hF.to sb
    have g10 : wz (put G1 b10 ⟨mtC (dirM s e i) (m.Hm (fmap s.base e + i)).1 (m.Hm (fmap s.base e + i)).2, true⟩) Ax b10 = some ⟨mtC (dirM s e i) (m.Hm (fmap s.base e + i)).1 (m.Hm (fmap s.base e + i)).2, true⟩ := by rw [hF.nw hb10]; exact put_same _ _ _
    have hPd := hP.sub hWt
    have hPa := hP1.sub sb
    revert hWn hWt g10 hPd hPa
    generalize wz (put G1 b10 ⟨mtC (dirM s e i) (m.Hm (fmap s.base e + i)).1 (m.Hm (fmap s.base e + i)).2, true⟩) Ax = H'
    generalize put G1 b10 ⟨mtC (dirM s e i) (m.Hm (fmap s.base e + i)).1 (m.Hm (fmap s.base e + i)).2, true⟩ = G2
    intro hWn hWt g10 hPd hPa
    obtain ⟨ml, mr, mc⟩ := mt_len hmo.1
    have hB10 : MB H' b10 (dirM s e i).p (dirM s e i).r.toNat (dirM s e i).c.toNat (m.Hm (fmap s.base e + i)).1 (m.Hm (fmap s.base e + i)).2 (fM (dirM s e i)) := by
      obtain ⟨_, x0, x1, x2, x3⟩ := MtP.of g10 (hPd.g.ms.m _ (by omega))
      exact ⟨x0, by rw [show ((dirM s e i).r.toNat : Int) = (dirM s e i).r from mr]; exact x1, by rw [show ((dirM s e i).c.toNat : Int) = (dirM s e i).c from mc]; exact x2, by rw [← show (dirM s e i).m.length = (dirM s e i).r.toNat * (dirM s e i).c.toNat from ml]; exact x3, mt_ints hmo.1 (hPd.g.ms.m _ (by omega))⟩
    have hB2 := hB10.sub hWn.s
    obtain ⟨f0, f1, f2, f3⟩ := hPa.b
    simp (maxSteps := 300000) (disch := omega) only [gs, gs2, gs3, gs4, ↓reduceIte, Nat.reduceEqDiff, Int.reduceToNat, Nat.reduceMul, Nat.reduceAdd, Nat.reduceBEq, isLd, e2, e5, e7, e40, e41, e42, f0, f1, f2, f3]
    refine impl_firstColumn_ok (m := m) (s := s) (k := e) hPa.g hs.b hst hel ?_
    simp (maxSteps := 300000) (disch := omega) only [gs, gs2, gs3, gs4, ↓reduceIte, Nat.reduceEqDiff, Int.reduceToNat, Nat.reduceMul, Nat.reduceAdd, Nat.reduceBEq, isLd, e2, e5, e7, e40, e41, e42, f0, f1, f2, f3]
    refine impl_firstColumn_ok (m := m) (s := s) (k := f) hPa.g hs.b hst (by omega) ?_
    simp (maxSteps := 300000) (disch := omega) only [gs, gs2, gs3, gs4, ↓reduceIte, Nat.reduceEqDiff, Int.reduceToNat, Nat.reduceMul, Nat.reduceAdd, Nat.reduceBEq, isLd, e2, e5, e7, e40, e41, e42, f0, f1, f2, f3, hB2.f1]
    refine ci_l1 (tp := tp) (lf := lf) (i := i) (b10 := b10) hPd hB10 hmo.1 ⟨hp1, hp2⟩ (hWt _ _ h5) hWn (by omega) (by omega) (by omega) (by rw [show (dirM s e i).r = _ from hrr]; omega) (by rw [show (dirM s e i).c = _ from hcc]; omega) (by simp (maxSteps := 300000) (disch := omega) only [gs, gs2, gs3, gs4, ↓reduceIte, Nat.reduceEqDiff, Int.reduceToNat, Nat.reduceMul, Nat.reduceAdd, Nat.reduceBEq, isLd, e2]) (by simp (maxSteps := 300000) (disch := omega) only [gs, gs2, gs3, gs4, ↓reduceIte, Nat.reduceEqDiff, Int.reduceToNat, Nat.reduceMul, Nat.reduceAdd, Nat.reduceBEq, isLd, e5]) (by simp (maxSteps := 300000) (disch := omega) only [gs, gs2, gs3, gs4, ↓reduceIte, Nat.reduceEqDiff, Int.reduceToNat, Nat.reduceMul, Nat.reduceAdd, Nat.reduceBEq, isLd]) (by simp (maxSteps := 300000) (disch := omega) only [gs, gs2, gs3, gs4, ↓reduceIte, Nat.reduceEqDiff, Int.reduceToNat, Nat.reduceMul, Nat.reduceAdd, Nat.reduceBEq, isLd]) (by simp (maxSteps := 300000) (disch := omega) only [gs, gs2, gs3, gs4, ↓reduceIte, Nat.reduceEqDiff, Int.reduceToNat, Nat.reduceMul, Nat.reduceAdd, Nat.reduceBEq, isLd, htp]) (by simp (maxSteps := 300000) (disch := omega) only [gs, gs2, gs3, gs4, ↓reduceIte, Nat.reduceEqDiff, Int.reduceToNat, Nat.reduceMul, Nat.reduceAdd, Nat.reduceBEq, isLd, hlf]) (by simp (maxSteps := 300000) (disch := omega) only [gs, gs2, gs3, gs4, ↓reduceIte, Nat.reduceEqDiff, Int.reduceToNat, Nat.reduceMul, Nat.reduceAdd, Nat.reduceBEq, isLd]) (by simp (maxSteps := 300000) (disch := omega) only [gs, gs2, gs3, gs4, ↓reduceIte, Nat.reduceEqDiff, Int.reduceToNat, Nat.reduceMul, Nat.reduceAdd, Nat.reduceBEq, isLd] <;> rfl) fun T' G' hF' hT' => ?_
    have u42 : T' 42 = .int .i64 i := by rw [hT' 42 (by omega)]; simp (maxSteps := 300000) (disch := omega) only [gs, gs2, gs3, gs4, ↓reduceIte, Nat.reduceEqDiff, Int.reduceToNat, Nat.reduceMul, Nat.reduceAdd, Nat.reduceBEq, isLd, e42]
    have hT2 : SameQ T' T := fun l hl => by
      rw [hT' l (by omega)]
      repeat rw [upd_app, if_neg (by omega)]
      exact hT l hl
    simp (maxSteps := 300000) (disch := omega) only [gs, gs2, gs3, gs4, ↓reduceIte, Nat.reduceEqDiff, Int.reduceToNat, Nat.reduceMul, Nat.reduceAdd, Nat.reduceBEq, isLd, u42]
    refine ⟨mm - 1, by omega, G', Sub.refl _, i + 1, fun l hl => ?_, rfl, by omega, by omega, ?_⟩
    · repeat first | rw [upd_app, if_neg (by omega)] | rw [if_neg (by omega)]
      exact hT2 l hl
    · have : wFa s F e (i + 1) = wA (wFa s F e i) (gF s e i) (fcol s e) (fcol s (faN s e i)) (dirM s e i).c.toNat (dirM s e i).r.toNat := rfl
      rw [this, hfa, htp, hlf]
      exact ⟨hF'.o, hWt.trans hF'.s, hF.f⟩
  · obtain rfl : i = 2 := by omega
    simp (maxSteps := 300000) (disch := omega) only [gs, gs2, gs3, gs4, ↓reduceIte, Nat.reduceEqDiff, Int.reduceToNat, Nat.reduceMul, Nat.reduceAdd, Nat.reduceBEq, isLd, e41, e42, hi]
    rw [hfl] at hQ
    refine hQ _ _ hF fun l hl => ?_
    repeat rw [upd_app, if_neg (by omega)]
    exact hT l hl
/-- the temporaries outside the edges' loop stay. -/
def SameR (T' T : Nat → Value) : Prop := ∀ l, l ≤ 6 ∨ (15 ≤ l ∧ l ≤ 30) → T' l = T l
theorem impl_zero_ok {G : GH} {p : Int} {R C : Nat} (hR : R ≤ 2 ^ 10) (hC : C ≤ 2 ^ 10) {K : Value → GH → Prop}
    (hk : ∀ G' A c, Sub G G' → Off G A → Own G' A c ((flatL R C fun _ _ => 0).map I64) 1 (R * C) → K (matV p R C A (R * C) c) G') : GC Tryz.prog 158 [.int .i64 p, .int .i64 R, .int .i64 C] G K := by
  refine c_impl_zero_i (by simp) ?_
  simp (maxSteps := 300000) (disch := omega) only [gs, gs2, gs3, gs4, ↓reduceIte, Nat.reduceEqDiff, Int.reduceToNat, Nat.reduceMul, Nat.reduceAdd, Nat.reduceBEq, isLd]
  intro b6 hb6
  have s6 := Sub.put hb6 ⟨[.int .i64 0, .int .i64 0, .int .i64 0, .slice none 0 0], true⟩
  have g6 := put_same G b6 ⟨[.int .i64 0, .int .i64 0, .int .i64 0, .slice none 0 0], true⟩
  revert s6 g6
  generalize put G b6 ⟨[.int .i64 0, .int .i64 0, .int .i64 0, .slice none 0 0], true⟩ = G1
  intro s6 g6
  simp (maxSteps := 300000) (disch := omega) only [gs, gs2, gs3, gs4, ↓reduceIte, Nat.reduceEqDiff, Int.reduceToNat, Nat.reduceMul, Nat.reduceAdd, Nat.reduceBEq, isLd]
  refine impl_filledF_ok (R := R) (C := C) (dl := fun _ _ => 0) hR hC (fun G' s' i j hi hj K' hK' => ?_) fun G2 B d s3 oB hW => ?_
  · simp (maxSteps := 300000) (disch := omega) only [gs, gs2, gs3, gs4, ↓reduceIte, Nat.reduceEqDiff, Int.reduceToNat, Nat.reduceMul, Nat.reduceAdd, Nat.reduceBEq, isLd]
    refine c_impl_zero_fn1_i (by simp) ?_
    simp (maxSteps := 300000) (disch := omega) only [gs, gs2, gs3, gs4, ↓reduceIte, Nat.reduceEqDiff, Int.reduceToNat, Nat.reduceMul, Nat.reduceAdd, Nat.reduceBEq, isLd]
    exact hK'
  · have g3 := s3 _ _ g6
    unfold matV matC
    simp (maxSteps := 300000) (disch := omega) only [gs, gs2, gs3, gs4, ↓reduceIte, Nat.reduceEqDiff, Int.reduceToNat, Nat.reduceMul, Nat.reduceAdd, Nat.reduceBEq, isLd]
    refine st_many (vs := [.int .i64 p, .int .i64 R, .int .i64 C, .slice B (R * C) d]) rfl g3 rfl (by simp) (by intro v hv; simp at hv; rcases hv with rfl | rfl | rfl | rfl <;> rfl) ?_
    have nb : ∀ a, B = some a → a.block ≠ b6 := fun a ha e => by have := oB a ha; rw [e, g6] at this; cases this
    simp (maxSteps := 300000) (disch := omega) only [gs, gs2, gs3, gs4, ↓reduceIte, Nat.reduceEqDiff, Int.reduceToNat, Nat.reduceMul, Nat.reduceAdd, Nat.reduceBEq, isLd, over]
    exact hk _ _ _ ((s6.trans s3).skip hb6) (oB.mono s6) (hW.put nb _)
theorem ci_tree {G : GH} {b2 : Nat} {m : ShM} {s : Shf} {R C : Nat} {T : Nat → Value} {K : (Nat → Value) → GH → Prop} (t1 : T 1 = .int .i64 0) (t2 : T 2 = .pointer (some ⟨b2, 0, none⟩)) (hP : ShP G (some ⟨b2, 0, none⟩) m s) (hs : ShOk s) (hR : ssum s.base s.st 1 = (R : Nat)) (hC : ssum s.base s.st 0 = (C : Nat))
    (hK : ∀ T' G' b5 A c, Sub G G' → Off G A → (∀ a, A = some a → a.block ≠ b5) → (∀ l, l < 5 → T' l = T l) → T' 5 = .pointer (some ⟨b5, 0, none⟩) → G' b5 = some ⟨mat4 s.p R C A c, true⟩ → Own G' A c ((flatL R C fun _ _ => 0).map I64) 1 (R * C) → K T' G') : gT Tryz.prog c_impl_coboundaryMatrix_1 [] K T G := by
  have hR32 := hs.st.2.2 1 (by omega) (by omega)
  have hC32 := hs.st.2.2 0 (by omega) (by omega)
  have S1 : ∀ {G' : GH} (u : Sub G G') {Kx : Value → GH → Prop}, Kx (.int .i64 R) G' → GC Tryz.prog 100 [shV m s, .int .i64 1] G' Kx := by
    intro G' u Kx hx
    have := (hP.sub u).g
    exact impl_stalkSum_ok (d := 1) this.rows this.st hs.b.cs hs.st.1 hs.st.2.1 (by omega) (by rw [hR]; exact hx)
  have S0 : ∀ {G' : GH} (u : Sub G G') {Kx : Value → GH → Prop}, Kx (.int .i64 C) G' → GC Tryz.prog 100 [shV m s, .int .i64 0] G' Kx := by
    intro G' u Kx hx
    have := (hP.sub u).g
    exact impl_stalkSum_ok (d := 0) this.rows this.st hs.b.cs hs.st.1 hs.st.2.1 (by omega) (by rw [hC]; exact hx)
  have rds : ∀ {G' : GH}, Sub G G' → rd G' (some ⟨b2, 0, none⟩) = some (.slice m.A s.base.length m.c) ∧ rd G' (some ⟨b2, 1, none⟩) = some (.int .i64 s.p) ∧ rd G' (some ⟨b2, 2, none⟩) = some (.slice m.S s.st.length m.e) ∧ rd G' (some ⟨b2, 3, none⟩) = some (.slice m.M s.ms.length m.l) := fun u => (hP.sub u).b
  have w1 := w64 (0 + 1) (by omega) (by omega)
  unfold shV shC at S1 S0
  obtain ⟨q0, q1, q2, q3⟩ := rds (Sub.refl _)
  simp (maxSteps := 300000) (disch := omega) only [gs, gs2, gs3, gs4, ↓reduceIte, Nat.reduceEqDiff, Int.reduceToNat, Nat.reduceMul, Nat.reduceAdd, Nat.reduceBEq, isLd, t1, t2, q0, q1, q2, q3, w1]
  refine ⟨S1 (Sub.refl _) ?_, fun b5 hb5 => ?_⟩
  · simp (maxSteps := 300000) (disch := omega) only [gs, gs2, gs3, gs4, ↓reduceIte, Nat.reduceEqDiff, Int.reduceToNat, Nat.reduceMul, Nat.reduceAdd, Nat.reduceBEq, isLd, t1, t2, q0, q1, q2, q3, w1]
    refine ⟨S0 (Sub.refl _) ?_, fun b5 hb5 => ?_⟩
    · simp (maxSteps := 300000) (disch := omega) only [gs, gs2, gs3, gs4, ↓reduceIte, Nat.reduceEqDiff, Int.reduceToNat, Nat.reduceMul, Nat.reduceAdd, Nat.reduceBEq, isLd, t1, t2, q0, q1, q2, q3, w1]
      refine ⟨impl_zero_ok (by omega) (by omega) fun G2 A c u2 oA hW => ?_, fun b5 hb5 => ?_⟩
      · unfold matV matC
        obtain ⟨q0, q1, q2, q3⟩ := rds u2
        simp (maxSteps := 300000) (disch := omega) only [gs, gs2, gs3, gs4, ↓reduceIte, Nat.reduceEqDiff, Int.reduceToNat, Nat.reduceMul, Nat.reduceAdd, Nat.reduceBEq, isLd, t1, t2, q0, q1, q2, q3, w1]
        intro b5 hb5
        have u5 := Sub.put hb5 ⟨[.int .i64 0, .int .i64 0, .int .i64 0, .slice none 0 0], true⟩
        obtain ⟨q0, q1, q2, q3⟩ := rds (u2.trans u5)
        simp (maxSteps := 300000) (disch := omega) only [gs, gs2, gs3, gs4, ↓reduceIte, Nat.reduceEqDiff, Int.reduceToNat, Nat.reduceMul, Nat.reduceAdd, Nat.reduceBEq, isLd, t1, t2, q0, q1, q2, q3, w1]
        refine st_fresh (vs := [.int .i64 s.p, .int .i64 R, .int .i64 C, .slice A (R * C) c]) rfl rfl rfl (by intro v hv; simp at hv; rcases hv with rfl | rfl | rfl | rfl <;> rfl) ?_
        simp (maxSteps := 300000) (disch := omega) only [gs, gs2, gs3, gs4, ↓reduceIte, Nat.reduceEqDiff, Int.reduceToNat, Nat.reduceMul, Nat.reduceAdd, Nat.reduceBEq, isLd]
        have s5 := Sub.put hb5 ⟨[.int .i64 s.p, .int .i64 R, .int .i64 C, .slice A (R * C) c], true⟩
        have nb : ∀ a, A = some a → a.block ≠ b5 := hW.ne hb5
        exact hK _ _ b5 A c (u2.trans s5) oA nb (fun l hl => by repeat rw [upd_app, if_neg (by omega)]) (by simp (maxSteps := 300000) (disch := omega) only [gs, gs2, gs3, gs4, ↓reduceIte, Nat.reduceEqDiff, Int.reduceToNat, Nat.reduceMul, Nat.reduceAdd, Nat.reduceBEq, isLd]) (put_same _ _ _) (hW.sub s5)
      · have u5 := Sub.put hb5 ⟨[.int .i64 0, .int .i64 0, .int .i64 0, .slice none 0 0], true⟩
        obtain ⟨q0, q1, q2, q3⟩ := rds u5
        simp (maxSteps := 300000) (disch := omega) only [gs, gs2, gs3, gs4, ↓reduceIte, Nat.reduceEqDiff, Int.reduceToNat, Nat.reduceMul, Nat.reduceAdd, Nat.reduceBEq, isLd, t1, t2, q0, q1, q2, q3, w1]
        refine impl_zero_ok (by omega) (by omega) fun G2 A c u2 oA hW => ?_
        unfold matV matC
        obtain ⟨q0, q1, q2, q3⟩ := rds (u5.trans u2)
        simp (maxSteps := 300000) (disch := omega) only [gs, gs2, gs3, gs4, ↓reduceIte, Nat.reduceEqDiff, Int.reduceToNat, Nat.reduceMul, Nat.reduceAdd, Nat.reduceBEq, isLd, t1, t2, q0, q1, q2, q3, w1]
        refine st_many (vs := [.int .i64 s.p, .int .i64 R, .int .i64 C, .slice A (R * C) c]) rfl (u2 _ _ (put_same _ _ _)) rfl (by simp) (by intro v hv; simp at hv; rcases hv with rfl | rfl | rfl | rfl <;> rfl) ?_
        simp (maxSteps := 300000) (disch := omega) only [gs, gs2, gs3, gs4, ↓reduceIte, Nat.reduceEqDiff, Int.reduceToNat, Nat.reduceMul, Nat.reduceAdd, Nat.reduceBEq, isLd, over]
        have nb : ∀ a, A = some a → a.block ≠ b5 := fun a ha e => by have := oA a ha; rw [e, put_same] at this; cases this
        exact hK _ _ b5 A c ((u5.trans u2).skip hb5) (oA.mono u5) nb (fun l hl => by repeat rw [upd_app, if_neg (by omega)]) (by simp (maxSteps := 300000) (disch := omega) only [gs, gs2, gs3, gs4, ↓reduceIte, Nat.reduceEqDiff, Int.reduceToNat, Nat.reduceMul, Nat.reduceAdd, Nat.reduceBEq, isLd]) (put_same _ _ _) (hW.put nb _)
    · have u5 := Sub.put hb5 ⟨[.int .i64 0, .int .i64 0, .int .i64 0, .slice none 0 0], true⟩
      obtain ⟨q0, q1, q2, q3⟩ := rds u5
      simp (maxSteps := 300000) (disch := omega) only [gs, gs2, gs3, gs4, ↓reduceIte, Nat.reduceEqDiff, Int.reduceToNat, Nat.reduceMul, Nat.reduceAdd, Nat.reduceBEq, isLd, t1, t2, q0, q1, q2, q3, w1]
      refine S0 u5 ?_
      simp (maxSteps := 300000) (disch := omega) only [gs, gs2, gs3, gs4, ↓reduceIte, Nat.reduceEqDiff, Int.reduceToNat, Nat.reduceMul, Nat.reduceAdd, Nat.reduceBEq, isLd, t1, t2, q0, q1, q2, q3, w1]
      refine impl_zero_ok (by omega) (by omega) fun G2 A c u2 oA hW => ?_
      unfold matV matC
      obtain ⟨q0, q1, q2, q3⟩ := rds (u5.trans u2)
      simp (maxSteps := 300000) (disch := omega) only [gs, gs2, gs3, gs4, ↓reduceIte, Nat.reduceEqDiff, Int.reduceToNat, Nat.reduceMul, Nat.reduceAdd, Nat.reduceBEq, isLd, t1, t2, q0, q1, q2, q3, w1]
      refine st_many (vs := [.int .i64 s.p, .int .i64 R, .int .i64 C, .slice A (R * C) c]) rfl (u2 _ _ (put_same _ _ _)) rfl (by simp) (by intro v hv; simp at hv; rcases hv with rfl | rfl | rfl | rfl <;> rfl) ?_
      simp (maxSteps := 300000) (disch := omega) only [gs, gs2, gs3, gs4, ↓reduceIte, Nat.reduceEqDiff, Int.reduceToNat, Nat.reduceMul, Nat.reduceAdd, Nat.reduceBEq, isLd, over]
      have nb : ∀ a, A = some a → a.block ≠ b5 := fun a ha e => by have := oA a ha; rw [e, put_same] at this; cases this
      exact hK _ _ b5 A c ((u5.trans u2).skip hb5) (oA.mono u5) nb (fun l hl => by repeat rw [upd_app, if_neg (by omega)]) (by simp (maxSteps := 300000) (disch := omega) only [gs, gs2, gs3, gs4, ↓reduceIte, Nat.reduceEqDiff, Int.reduceToNat, Nat.reduceMul, Nat.reduceAdd, Nat.reduceBEq, isLd]) (put_same _ _ _) (hW.put nb _)
  · have u5 := Sub.put hb5 ⟨[.int .i64 0, .int .i64 0, .int .i64 0, .slice none 0 0], true⟩
    obtain ⟨q0, q1, q2, q3⟩ := rds u5
    simp (maxSteps := 300000) (disch := omega) only [gs, gs2, gs3, gs4, ↓reduceIte, Nat.reduceEqDiff, Int.reduceToNat, Nat.reduceMul, Nat.reduceAdd, Nat.reduceBEq, isLd, t1, t2, q0, q1, q2, q3, w1]
    refine S1 u5 ?_
    simp (maxSteps := 300000) (disch := omega) only [gs, gs2, gs3, gs4, ↓reduceIte, Nat.reduceEqDiff, Int.reduceToNat, Nat.reduceMul, Nat.reduceAdd, Nat.reduceBEq, isLd, t1, t2, q0, q1, q2, q3, w1]
    refine S0 u5 ?_
    simp (maxSteps := 300000) (disch := omega) only [gs, gs2, gs3, gs4, ↓reduceIte, Nat.reduceEqDiff, Int.reduceToNat, Nat.reduceMul, Nat.reduceAdd, Nat.reduceBEq, isLd, t1, t2, q0, q1, q2, q3, w1]
    refine impl_zero_ok (by omega) (by omega) fun G2 A c u2 oA hW => ?_
    unfold matV matC
    obtain ⟨q0, q1, q2, q3⟩ := rds (u5.trans u2)
    simp (maxSteps := 300000) (disch := omega) only [gs, gs2, gs3, gs4, ↓reduceIte, Nat.reduceEqDiff, Int.reduceToNat, Nat.reduceMul, Nat.reduceAdd, Nat.reduceBEq, isLd, t1, t2, q0, q1, q2, q3, w1]
    refine st_many (vs := [.int .i64 s.p, .int .i64 R, .int .i64 C, .slice A (R * C) c]) rfl (u2 _ _ (put_same _ _ _)) rfl (by simp) (by intro v hv; simp at hv; rcases hv with rfl | rfl | rfl | rfl <;> rfl) ?_
    simp (maxSteps := 300000) (disch := omega) only [gs, gs2, gs3, gs4, ↓reduceIte, Nat.reduceEqDiff, Int.reduceToNat, Nat.reduceMul, Nat.reduceAdd, Nat.reduceBEq, isLd, over]
    have nb : ∀ a, A = some a → a.block ≠ b5 := fun a ha e => by have := oA a ha; rw [e, put_same] at this; cases this
    exact hK _ _ b5 A c ((u5.trans u2).skip hb5) (oA.mono u5) nb (fun l hl => by repeat rw [upd_app, if_neg (by omega)]) (by simp (maxSteps := 300000) (disch := omega) only [gs, gs2, gs3, gs4, ↓reduceIte, Nat.reduceEqDiff, Int.reduceToNat, Nat.reduceMul, Nat.reduceAdd, Nat.reduceBEq, isLd]) (put_same _ _ _) (hW.put nb _)
theorem ci_l3 {H G : GH} {b2 b5 ax R C ye : Nat} {Ax Ye : Option Addr} {m : ShM} {s : Shf} {T : Nat → Value} {Q : Cont} (hP : ShP H (some ⟨b2, 0, none⟩) m s) (hs : ShOk s) (hms : s.ms.length ≤ 2 ^ 20) (h5 : H b5 = some ⟨mat4 s.p R C Ax ax, true⟩) (hF : WF H G Ax ax R C (fun _ _ => 0))
    (hE : IntS H Ye ye (ofd s.base 1)) (hR : (R : Int) = ssum s.base s.st 1) (hC : (C : Int) = ssum s.base s.st 0)
    (t1 : T 1 = .int .i64 0) (t2 : T 2 = .pointer (some ⟨b2, 0, none⟩)) (t5 : T 5 = .pointer (some ⟨b5, 0, none⟩)) (t29 : T 29 = .slice Ye (ofd s.base 1).length ye) (t30 : T 30 = .int .i64 (ofd s.base 1).length) (t31 : T 31 = .int .i64 0)
    (hQ : ∀ T' G', WF H G' Ax ax R C (cobF s) → SameR T' T → Q (.ex 0) T' G') : gLoop (gW Tryz.prog c_impl_coboundaryMatrix_l3) Q T G := by
  have hst := hs.st
  have hbn := hs.b.n
  have hol := ofd_len hbn 1
  have hesn := hE.sn
  refine gLoop_intro (fun mm T' G' => ∃ n : Nat, SameR T' T ∧ T' 31 = .int .i64 n ∧ mm + n = (ofd s.base 1).length ∧ n ≤ (ofd s.base 1).length ∧ WF H G' Ax ax R C (wE s n)) (ofd s.base 1).length
    ⟨0, fun l _ => rfl, t31, by omega, by omega, hF⟩ ?_
  clear hF
  rintro mm T1 G1 ⟨n, hT, e31, hm, hnl, hF⟩
  have hS := hF.s
  have e1 : T1 1 = .int .i64 0 := (hT 1 (by omega)).trans t1
  have e2 : T1 2 = .pointer (some ⟨b2, 0, none⟩) := (hT 2 (by omega)).trans t2
  have e5 : T1 5 = .pointer (some ⟨b5, 0, none⟩) := (hT 5 (by omega)).trans t5
  have e29 : T1 29 = .slice Ye (ofd s.base 1).length ye := (hT 29 (by omega)).trans t29
  have e30 : T1 30 = .int .i64 (ofd s.base 1).length := (hT 30 (by omega)).trans t30
  simp (maxSteps := 300000) (disch := omega) only [gs, gs2, gs3, gs4, ↓reduceIte, Nat.reduceEqDiff, Int.reduceToNat, Nat.reduceMul, Nat.reduceAdd, Nat.reduceBEq, isLd, e30, e31]
  by_cases hn : (n : Int) < (ofd s.base 1).length
  · obtain ⟨e, hel, hge, hd⟩ := ofd_get (show n < (ofd s.base 1).length by omega)
    have hP1 := hP.sub hS
    obtain ⟨f0, f1, f2, f3⟩ := hP1.b
    have re := (hE.sub hS).rd n (by omega)
    rw [hge] at re
    simp (maxSteps := 300000) (disch := omega) only [gs, gs2, gs3, gs4, ↓reduceIte, Nat.reduceEqDiff, Int.reduceToNat, Nat.reduceMul, Nat.reduceAdd, Nat.reduceBEq, isLd, e1, e2, e5, e29, e30, e31, hn, re, f0, f1, f2, f3, show ((0 : Int) < 0) = False from eq_false (by decide)]
    refine impl_faceIndices_ok (k := e) hP1.g.rows hs.b hel fun G2 Yf yf hN => ?_
    have hIf : IntS (wz G2 Ax) Yf yf (fcs s.base e) := (hN.own.ints' rfl).sub hF.rest
    have hWn := hF.up hN.sub
    have hWt := hF.to hN.sub
    simp (maxSteps := 300000) (disch := omega) only [gs, gs2, gs3, gs4, ↓reduceIte, Nat.reduceEqDiff, Int.reduceToNat, Nat.reduceMul, Nat.reduceAdd, Nat.reduceBEq, isLd, e1, e2, e5, e29, e30, e31]
    refine ci_l2 (H := wz G2 Ax) (e := e) (hP.sub hWt) hs hms (hWt _ _ h5) hWn hel (by omega) hIf hR hC (by simp (maxSteps := 300000) (disch := omega) only [gs, gs2, gs3, gs4, ↓reduceIte, Nat.reduceEqDiff, Int.reduceToNat, Nat.reduceMul, Nat.reduceAdd, Nat.reduceBEq, isLd, e2]) (by simp (maxSteps := 300000) (disch := omega) only [gs, gs2, gs3, gs4, ↓reduceIte, Nat.reduceEqDiff, Int.reduceToNat, Nat.reduceMul, Nat.reduceAdd, Nat.reduceBEq, isLd, e5]) (by simp (maxSteps := 300000) (disch := omega) only [gs, gs2, gs3, gs4, ↓reduceIte, Nat.reduceEqDiff, Int.reduceToNat, Nat.reduceMul, Nat.reduceAdd, Nat.reduceBEq, isLd]) (by simp (maxSteps := 300000) (disch := omega) only [gs, gs2, gs3, gs4, ↓reduceIte, Nat.reduceEqDiff, Int.reduceToNat, Nat.reduceMul, Nat.reduceAdd, Nat.reduceBEq, isLd]) (by simp (maxSteps := 300000) (disch := omega) only [gs, gs2, gs3, gs4, ↓reduceIte, Nat.reduceEqDiff, Int.reduceToNat, Nat.reduceMul, Nat.reduceAdd, Nat.reduceBEq, isLd]) (by simp (maxSteps := 300000) (disch := omega) only [gs, gs2, gs3, gs4, ↓reduceIte, Nat.reduceEqDiff, Int.reduceToNat, Nat.reduceMul, Nat.reduceAdd, Nat.reduceBEq, isLd] <;> rfl) fun T' G' hF' hT' => ?_
    have u31 : T' 31 = .int .i64 n := by rw [hT' 31 (by omega)]; simp (maxSteps := 300000) (disch := omega) only [gs, gs2, gs3, gs4, ↓reduceIte, Nat.reduceEqDiff, Int.reduceToNat, Nat.reduceMul, Nat.reduceAdd, Nat.reduceBEq, isLd, e31]
    have hT2 : SameR T' T := fun l hl => by
      rw [hT' l (by omega)]
      repeat rw [upd_app, if_neg (by omega)]
      exact hT l hl
    simp (maxSteps := 300000) (disch := omega) only [gs, gs2, gs3, gs4, ↓reduceIte, Nat.reduceEqDiff, Int.reduceToNat, Nat.reduceMul, Nat.reduceAdd, Nat.reduceBEq, isLd, u31]
    refine ⟨mm - 1, by omega, G', Sub.refl _, n + 1, fun l hl => ?_, rfl, by omega, by omega, ?_⟩
    · repeat first | rw [upd_app, if_neg (by omega)] | rw [if_neg (by omega)]
      exact hT2 l hl
    · have : wE s (n + 1) = wFa s (wE s n) ((ofd s.base 1).getD n 0).toNat (fcs s.base ((ofd s.base 1).getD n 0).toNat).length := rfl
      rw [this, hge, Int.toNat_natCast]
      exact ⟨hF'.o, hWt.trans hF'.s, hF.f⟩
  · obtain rfl : n = (ofd s.base 1).length := by omega
    simp (maxSteps := 300000) (disch := omega) only [gs, gs2, gs3, gs4, ↓reduceIte, Nat.reduceEqDiff, Int.reduceToNat, Nat.reduceMul, Nat.reduceAdd, Nat.reduceBEq, isLd, e30, e31, hn]
    refine hQ _ _ hF fun l hl => ?_
    repeat rw [upd_app, if_neg (by omega)]
    exact hT l hl
theorem impl_coboundaryMatrix_ok {G : GH} {m : ShM} {s : Shf} {R C : Nat} (hG : ShG G m s) (hs : ShOk s) (hms : s.ms.length ≤ 2 ^ 20) (hR : ssum s.base s.st 1 = (R : Nat)) (hC : ssum s.base s.st 0 = (C : Nat)) {K : Value → GH → Prop}
    (hk : ∀ G' D e, Sub G G' → Off G D → IntS G' D e (flatL R C (cobF s)) → K (matV s.p R C D (R * C) e) G') : GC Tryz.prog 104 [shV m s, .int .i64 0] G K := by
  refine c_impl_coboundaryMatrix_i (by simp) ?_
  have hw := @ci_tree
  have hw3 := @ci_l3
  unfold c_impl_coboundaryMatrix
  generalize c_impl_coboundaryMatrix_1 = D1 at hw ⊢
  generalize c_impl_coboundaryMatrix_l3 = L3 at hw3 ⊢
  unfold shV shC
  simp (maxSteps := 300000) (disch := omega) only [gs, gs2, gs3, gs4, ↓reduceIte, Nat.reduceEqDiff, Int.reduceToNat, Nat.reduceMul, Nat.reduceAdd, Nat.reduceBEq, isLd]
  intro b2 hb2
  have s2 := Sub.put hb2 ⟨shC m s, true⟩
  have hP := ShP.box hb2 hG
  unfold shC at s2 hP
  revert s2 hP
  generalize put G b2 ⟨[.slice m.A s.base.length m.c, .int .i64 s.p, .slice m.S s.st.length m.e, .slice m.M s.ms.length m.l], true⟩ = G2
  intro s2 hP
  simp (maxSteps := 300000) (disch := omega) only [gs, gs2, gs3, gs4, ↓reduceIte, Nat.reduceEqDiff, Int.reduceToNat, Nat.reduceMul, Nat.reduceAdd, Nat.reduceBEq, isLd]
  intro b4 hb4
  have s4 := Sub.put hb4 ⟨[.int .i64 0, .int .i64 0, .int .i64 0, .slice none 0 0], true⟩
  have g4 := put_same G2 b4 ⟨[.int .i64 0, .int .i64 0, .int .i64 0, .slice none 0 0], true⟩
  have n4 : G b4 = none := s2.none hb4
  have hP4 := hP.sub s4
  have s24 := s2.trans s4
  revert s24 g4 hP4
  generalize put G2 b4 ⟨[.int .i64 0, .int .i64 0, .int .i64 0, .slice none 0 0], true⟩ = G4
  intro g4 hP4 s24
  simp (maxSteps := 300000) (disch := omega) only [gs, gs2, gs3, gs4, ↓reduceIte, Nat.reduceEqDiff, Int.reduceToNat, Nat.reduceMul, Nat.reduceAdd, Nat.reduceBEq, isLd]
  refine hw (b2 := b2) (m := m) (s := s) (R := R) (C := C) (by simp (maxSteps := 300000) (disch := omega) only [gs, gs2, gs3, gs4, ↓reduceIte, Nat.reduceEqDiff, Int.reduceToNat, Nat.reduceMul, Nat.reduceAdd, Nat.reduceBEq, isLd]) (by simp (maxSteps := 300000) (disch := omega) only [gs, gs2, gs3, gs4, ↓reduceIte, Nat.reduceEqDiff, Int.reduceToNat, Nat.reduceMul, Nat.reduceAdd, Nat.reduceBEq, isLd]) hP4 hs hR hC fun T1 G1 b5 A c s1 oA nA hT t5 g5 hW => ?_
  have t1 : T1 1 = .int .i64 0 := by rw [hT 1 (by omega)]; simp (maxSteps := 300000) (disch := omega) only [gs, gs2, gs3, gs4, ↓reduceIte, Nat.reduceEqDiff, Int.reduceToNat, Nat.reduceMul, Nat.reduceAdd, Nat.reduceBEq, isLd]
  have t2 : T1 2 = .pointer (some ⟨b2, 0, none⟩) := by rw [hT 2 (by omega)]; simp (maxSteps := 300000) (disch := omega) only [gs, gs2, gs3, gs4, ↓reduceIte, Nat.reduceEqDiff, Int.reduceToNat, Nat.reduceMul, Nat.reduceAdd, Nat.reduceBEq, isLd]
  have t4 : T1 4 = .pointer (some ⟨b4, 0, none⟩) := by rw [hT 4 (by omega)]; simp (maxSteps := 300000) (disch := omega) only [gs, gs2, gs3, gs4, ↓reduceIte, Nat.reduceEqDiff, Int.reduceToNat, Nat.reduceMul, Nat.reduceAdd, Nat.reduceBEq, isLd]
  clear hT
  have hbn := hs.b.n
  have hP1 := hP4.sub s1
  obtain ⟨f0, f1, f2, f3⟩ := hP1.b
  have hWF : WF G4 G1 A c R C (fun _ _ => 0) := ⟨hW, s1, oA⟩
  simp (maxSteps := 300000) (disch := omega) only [gs, gs2, gs3, gs4, ↓reduceIte, Nat.reduceEqDiff, Int.reduceToNat, Nat.reduceMul, Nat.reduceAdd, Nat.reduceBEq, isLd, t1, t2, t4, t5, f0, f1, f2, f3]
  refine impl_simplicesOf_ok (d := 1) hP1.g.rows hbn hs.b.cs.l (by omega) fun G3 Ye ye hN => ?_
  have hWn := hWF.up hN.sub
  have hWt := hWF.to hN.sub
  have hE : IntS (wz G3 A) Ye ye (ofd s.base 1) := (hN.own.ints' rfl).sub hWF.rest
  have h5 : wz G3 A b5 = some ⟨mat4 s.p R C A c, true⟩ := by rw [wz_ne nA]; exact hN.sub _ _ g5
  have h4 := hWt _ _ g4
  simp (maxSteps := 300000) (disch := omega) only [gs, gs2, gs3, gs4, ↓reduceIte, Nat.reduceEqDiff, Int.reduceToNat, Nat.reduceMul, Nat.reduceAdd, Nat.reduceBEq, isLd, t1, t2, t4, t5]
  refine hw3 (H := wz G3 A) (R := R) (C := C) (b5 := b5) (b2 := b2) (hP4.sub hWt) hs hms h5 hWn hE hR.symm hC.symm (by simp (maxSteps := 300000) (disch := omega) only [gs, gs2, gs3, gs4, ↓reduceIte, Nat.reduceEqDiff, Int.reduceToNat, Nat.reduceMul, Nat.reduceAdd, Nat.reduceBEq, isLd, t1]) (by simp (maxSteps := 300000) (disch := omega) only [gs, gs2, gs3, gs4, ↓reduceIte, Nat.reduceEqDiff, Int.reduceToNat, Nat.reduceMul, Nat.reduceAdd, Nat.reduceBEq, isLd, t2]) (by simp (maxSteps := 300000) (disch := omega) only [gs, gs2, gs3, gs4, ↓reduceIte, Nat.reduceEqDiff, Int.reduceToNat, Nat.reduceMul, Nat.reduceAdd, Nat.reduceBEq, isLd, t5]) (by simp (maxSteps := 300000) (disch := omega) only [gs, gs2, gs3, gs4, ↓reduceIte, Nat.reduceEqDiff, Int.reduceToNat, Nat.reduceMul, Nat.reduceAdd, Nat.reduceBEq, isLd]) (by simp (maxSteps := 300000) (disch := omega) only [gs, gs2, gs3, gs4, ↓reduceIte, Nat.reduceEqDiff, Int.reduceToNat, Nat.reduceMul, Nat.reduceAdd, Nat.reduceBEq, isLd]) (by simp (maxSteps := 300000) (disch := omega) only [gs, gs2, gs3, gs4, ↓reduceIte, Nat.reduceEqDiff, Int.reduceToNat, Nat.reduceMul, Nat.reduceAdd, Nat.reduceBEq, isLd] <;> rfl) fun T' G' hF hT' => ?_
  have u4 : T' 4 = .pointer (some ⟨b4, 0, none⟩) := by rw [hT' 4 (by omega)]; simp (maxSteps := 300000) (disch := omega) only [gs, gs2, gs3, gs4, ↓reduceIte, Nat.reduceEqDiff, Int.reduceToNat, Nat.reduceMul, Nat.reduceAdd, Nat.reduceBEq, isLd, t4]
  have u5 : T' 5 = .pointer (some ⟨b5, 0, none⟩) := by rw [hT' 5 (by omega)]; simp (maxSteps := 300000) (disch := omega) only [gs, gs2, gs3, gs4, ↓reduceIte, Nat.reduceEqDiff, Int.reduceToNat, Nat.reduceMul, Nat.reduceAdd, Nat.reduceBEq, isLd, t5]
  have g5' := hF.s _ _ h5
  have x0 : rd G' (some ⟨b5, 0, none⟩) = some (.int .i64 s.p) := by simp only [rd, g5']; rfl
  have x1 : rd G' (some ⟨b5, 1, none⟩) = some (.int .i64 R) := by simp only [rd, g5']; rfl
  have x2 : rd G' (some ⟨b5, 2, none⟩) = some (.int .i64 C) := by simp only [rd, g5']; rfl
  have x3 : rd G' (some ⟨b5, 3, none⟩) = some (.slice A (R * C) c) := by simp only [rd, g5']; rfl
  simp (maxSteps := 300000) (disch := omega) only [gs, gs2, gs3, gs4, ↓reduceIte, Nat.reduceEqDiff, Int.reduceToNat, Nat.reduceMul, Nat.reduceAdd, Nat.reduceBEq, isLd, u4, u5, x0, x1, x2, x3]
  refine st_many (vs := [.int .i64 s.p, .int .i64 R, .int .i64 C, .slice A (R * C) c]) rfl (hF.s _ _ h4) rfl (by simp) (by intro v hv; simp at hv; rcases hv with rfl | rfl | rfl | rfl <;> rfl) ?_
  simp (maxSteps := 300000) (disch := omega) only [gs, gs2, gs3, gs4, ↓reduceIte, Nat.reduceEqDiff, Int.reduceToNat, Nat.reduceMul, Nat.reduceAdd, Nat.reduceBEq, isLd, over, u4]
  have hI := hF.ints
  have nb4 : ∀ a, A = some a → a.block ≠ b4 := fun a ha e => by have := oA a ha; rw [e, g4] at this; cases this
  exact hk _ A c (((s24.trans hWt).trans hF.s).skip n4) (oA.mono s24) (ints_put hI nb4)
theorem wB_bd {F g : Int → Int → Int} (hF : ∀ i j, 0 ≤ F i j ∧ F i j ≤ 250) (hg : ∀ i j, 0 ≤ g i j ∧ g i j ≤ 250) (top left : Int) (a : Nat) : ∀ b i j, 0 ≤ wB F g top left a b i j ∧ wB F g top left a b i j ≤ 250
  | 0, i, j => hF i j
  | b + 1, i, j => by
    show 0 ≤ upd2 (wB F g top left a b) (top + a) (left + b) (g a b) i j ∧ upd2 (wB F g top left a b) (top + a) (left + b) (g a b) i j ≤ 250
    unfold upd2; split
    · exact hg _ _
    · exact wB_bd hF hg top left a b i j
theorem wA_bd {F g : Int → Int → Int} (hF : ∀ i j, 0 ≤ F i j ∧ F i j ≤ 250) (hg : ∀ i j, 0 ≤ g i j ∧ g i j ≤ 250) (top left : Int) (C : Nat) : ∀ a i j, 0 ≤ wA F g top left C a i j ∧ wA F g top left C a i j ≤ 250
  | 0, i, j => hF i j
  | a + 1, i, j => wB_bd (wA_bd hF hg top left C a) hg top left a C i j
theorem gF_bd {s : Shf} (hp : 2 ≤ s.p ∧ s.p ≤ 251) (e i : Nat) : ∀ a b, 0 ≤ gF s e i a b ∧ gF s e i a b ≤ 250 := fun a b => by
  unfold gF
  have h1 := Int.emod_nonneg (fM (dirM s e i) a b * sgn s.p i) (show s.p ≠ 0 by omega)
  have h2 := Int.emod_lt_of_pos (fM (dirM s e i) a b * sgn s.p i) (show 0 < s.p by omega)
  omega
theorem wFa_bd {s : Shf} (hp : 2 ≤ s.p ∧ s.p ≤ 251) {F : Int → Int → Int} (hF : ∀ i j, 0 ≤ F i j ∧ F i j ≤ 250) (e : Nat) : ∀ i a b, 0 ≤ wFa s F e i a b ∧ wFa s F e i a b ≤ 250
  | 0, a, b => hF a b
  | i + 1, a, b => wA_bd (wFa_bd hp hF e i) (gF_bd hp e i) _ _ _ _ a b
theorem wE_bd {s : Shf} (hp : 2 ≤ s.p ∧ s.p ≤ 251) : ∀ n a b, 0 ≤ wE s n a b ∧ wE s n a b ≤ 250
  | 0, a, b => ⟨Int.le_refl _, by show (0 : Int) ≤ 250; decide⟩
  | n + 1, a, b => wFa_bd hp (wE_bd hp n) _ _ a b
theorem cobF_bd {s : Shf} (hp : 2 ≤ s.p ∧ s.p ≤ 251) : ∀ i j, 0 ≤ cobF s i j ∧ cobF s i j ≤ 250 := wE_bd hp _
/-- how many rows and columns the coboundary has. -/
def nR (s : Shf) : Nat := (ssum s.base s.st 1).toNat
def nC (s : Shf) : Nat := (ssum s.base s.st 0).toNat
theorem nR_eq {s : Shf} (hs : ShOk s) : ssum s.base s.st 1 = (nR s : Nat) ∧ nR s ≤ 32 := by
  have h1 := hs.st.2.2 1 (by omega) (by omega)
  have h2 : 0 ≤ ssum s.base s.st 1 := (stN_bd hs.st.2.1 _).1
  unfold nR; omega
theorem nC_eq {s : Shf} (hs : ShOk s) : ssum s.base s.st 0 = (nC s : Nat) ∧ nC s ≤ 32 := by
  have h1 := hs.st.2.2 0 (by omega) (by omega)
  have h2 : 0 ≤ ssum s.base s.st 0 := (stN_bd hs.st.2.1 _).1
  unfold nC; omega
def cobV (s : Shf) (x : List Int) : List Int := appN s.p (nC s) (cobF s) x (nR s)
theorem cobV_len (s : Shf) (x : List Int) : (cobV s x).length = nR s := appN_len _ _ _ _ _
def partE (s : Shf) (d : List Int) (e : Nat) : List Int := partL d (fcol s e).toNat (s.st.getD e 0).toNat
open Classical in
noncomputable def badN (s : Shf) (x : List Int) : Nat → List Int
  | 0 => []
  | n + 1 => if Zr (partE s (cobV s x) ((ofd s.base 1).getD n 0).toNat) then badN s x n else badN s x n ++ [(ofd s.base 1).getD n 0]
theorem badN_no {s : Shf} {x : List Int} {n e : Nat} (he : (ofd s.base 1).getD n 0 = e) (h : ¬ Zr (partE s (cobV s x) e)) : badN s x (n + 1) = badN s x n ++ [(e : Int)] := by
  simp only [badN]
  rw [he, Int.toNat_natCast, if_neg h]
theorem badN_yes {s : Shf} {x : List Int} {n e : Nat} (he : (ofd s.base 1).getD n 0 = e) (h : Zr (partE s (cobV s x) e)) : badN s x (n + 1) = badN s x n := by
  simp only [badN]
  rw [he, Int.toNat_natCast, if_pos h]
noncomputable def badE (s : Shf) (x : List Int) : List Int := badN s x (ofd s.base 1).length
theorem badN_len (s : Shf) (x : List Int) : ∀ n, (badN s x n).length ≤ n
  | 0 => Nat.le_refl _
  | n + 1 => by
    have := badN_len s x n
    unfold badN; split
    · omega
    · rw [List.length_append, List.length_singleton]; omega
theorem edge_end {s : Shf} (hs : ShOk s) {e : Nat} (hel : e < s.base.length) (hd : ((s.base.getD e []).length : Int) = 2) : fcol s e + s.st.getD e 0 ≤ nR s := by
  have h := fcol_end hs.st hel (by omega)
  rw [show dimS s e = 1 by unfold dimS; omega] at h
  have := (nR_eq hs).1
  omega
theorem rd_bd {s : Shf} (hs : ShOk s) {x : List Int} (hr : RdOk s x) : InB x 0 250 ∧ x.length = nC s := by
  have h1 := hs.p.1
  have h2 := hs.p.2.1
  have h3 := (nC_eq hs).1
  have h4 := hr.2
  exact ⟨fun i hi => by have := hr.1 i hi; omega, by omega⟩
theorem impl_disagreements_ok {G : GH} {X : Option Addr} {c : Nat} {m : ShM} {s : Shf} {x : List Int} (h : ShG G m s) (hs : ShOk s) (hms : s.ms.length ≤ 2 ^ 20) (hx : IntS G X c x) (hr : RdOk s x) {K : Value → GH → Prop}
    (hk : ∀ G' Y y, New G G' Y y ((badE s x).map I64) 1 (badE s x).length → K (.slice Y (badE s x).length y) G') : GC Tryz.prog 50 [shV m s, .slice X x.length c] G K := by
  refine GC_drop (c_impl_disagreements_i (by simp) ?_)
  have hR := nR_eq hs
  have hC := nC_eq hs
  have hbn := hs.b.n
  have hol := ofd_len hbn 1
  have hb := rd_bd hs hr
  have hcl := cobV_len s x
  unfold shV shC
  simp (maxSteps := 300000) (disch := omega) only [gs, gs2, gs3, gs4, ↓reduceIte, Nat.reduceEqDiff, Int.reduceToNat, Nat.reduceMul, Nat.reduceAdd, Nat.reduceBEq, isLd]
  intro b2 hb2
  have s1 := Sub.put hb2 ⟨shC m s, true⟩
  have hP := ShP.box hb2 h
  unfold shC at s1 hP
  revert s1 hP
  generalize put G b2 ⟨[.slice m.A s.base.length m.c, .int .i64 s.p, .slice m.S s.st.length m.e, .slice m.M s.ms.length m.l], true⟩ = G1
  intro s1 hP
  obtain ⟨f0, f1, f2, f3⟩ := hP.b
  simp (maxSteps := 300000) (disch := omega) only [gs, gs2, gs3, gs4, ↓reduceIte, Nat.reduceEqDiff, Int.reduceToNat, Nat.reduceMul, Nat.reduceAdd, Nat.reduceBEq, isLd, f0, f1, f2, f3]
  refine impl_coboundaryMatrix_ok (m := m) (s := s) (R := nR s) (C := nC s) hP.g hs hms hR.1 hC.1 fun G2 D e s2 oD hI => ?_
  simp (maxSteps := 300000) (disch := omega) only [gs, gs2, gs3, gs4, ↓reduceIte, Nat.reduceEqDiff, Int.reduceToNat, Nat.reduceMul, Nat.reduceAdd, Nat.reduceBEq, isLd]
  refine impl_apply_ok (p := s.p) (R := nR s) (C := nC s) hI ((hx.sub s1).sub s2) hb.2 (by omega) (by omega) ⟨hs.p.1, hs.p.2.1⟩ (cobF_bd ⟨hs.p.1, hs.p.2.1⟩) hb.1 fun G3 Y y hN3 => ?_
  have hP3 := hP.sub (s2.trans hN3.sub)
  have s3 := s1.trans (s2.trans hN3.sub)
  have hV : IntS G3 Y y (cobV s x) := (hN3.own.ints' hcl.symm).sub (Sub.rest _ _)
  clear hN3 oD hI f0 f1 f2 f3
  obtain ⟨f0, f1, f2, f3⟩ := hP3.b
  simp (maxSteps := 300000) (disch := omega) only [gs, gs2, gs3, gs4, ↓reduceIte, Nat.reduceEqDiff, Int.reduceToNat, Nat.reduceMul, Nat.reduceAdd, Nat.reduceBEq, isLd, f0, f1, f2, f3]
  refine impl_simplicesOf_ok (d := 1) hP3.g.rows hbn hs.b.cs.l (by omega) fun G4 E ye hN4 => ?_
  have hP4 := hP3.sub hN4.sub
  have s4 := s3.trans hN4.sub
  have hV := hV.sub hN4.sub
  have hE : IntS G4 E ye (ofd s.base 1) := (hN4.own.ints' rfl).sub (Sub.rest _ _)
  have hesn := hE.sn
  simp (maxSteps := 300000) (disch := omega) only [gs, gs2, gs3, gs4, ↓reduceIte, Nat.reduceEqDiff, Int.reduceToNat, Nat.reduceMul, Nat.reduceAdd, Nat.reduceBEq, isLd]
  refine gLoop_intro (fun mm T G' => ∃ (n : Nat) (Z : Option Addr) (z : Nat), T 2 = .pointer (some ⟨b2, 0, none⟩) ∧ T 5 = .slice Y (nR s) y ∧ T 6 = .slice Z (badN s x n).length z ∧ T 15 = .slice E (ofd s.base 1).length ye ∧ T 16 = .int .i64 (ofd s.base 1).length ∧ T 17 = .int .i64 n ∧ mm + n = (ofd s.base 1).length ∧ n ≤ (ofd s.base 1).length ∧ New G4 G' Z z ((badN s x n).map I64) 1 (badN s x n).length) (ofd s.base 1).length
    ⟨0, none, 0, by simp (maxSteps := 300000) (disch := omega) only [gs, gs2, gs3, gs4, ↓reduceIte, Nat.reduceEqDiff, Int.reduceToNat, Nat.reduceMul, Nat.reduceAdd, Nat.reduceBEq, isLd], by simp (maxSteps := 300000) (disch := omega) only [gs, gs2, gs3, gs4, ↓reduceIte, Nat.reduceEqDiff, Int.reduceToNat, Nat.reduceMul, Nat.reduceAdd, Nat.reduceBEq, isLd], by simp (maxSteps := 300000) (disch := omega) only [gs, gs2, gs3, gs4, ↓reduceIte, Nat.reduceEqDiff, Int.reduceToNat, Nat.reduceMul, Nat.reduceAdd, Nat.reduceBEq, isLd] <;> rfl, by simp (maxSteps := 300000) (disch := omega) only [gs, gs2, gs3, gs4, ↓reduceIte, Nat.reduceEqDiff, Int.reduceToNat, Nat.reduceMul, Nat.reduceAdd, Nat.reduceBEq, isLd], by simp (maxSteps := 300000) (disch := omega) only [gs, gs2, gs3, gs4, ↓reduceIte, Nat.reduceEqDiff, Int.reduceToNat, Nat.reduceMul, Nat.reduceAdd, Nat.reduceBEq, isLd], by simp (maxSteps := 300000) (disch := omega) only [gs, gs2, gs3, gs4, ↓reduceIte, Nat.reduceEqDiff, Int.reduceToNat, Nat.reduceMul, Nat.reduceAdd, Nat.reduceBEq, isLd] <;> rfl, by omega, by omega, New.nil _ _⟩ ?_
  rintro mm T G' ⟨n, Z, z, e2, e5, e6, e15, e16, e17, hm, hnl, hN⟩
  simp (maxSteps := 300000) (disch := omega) only [gs, gs2, gs3, gs4, ↓reduceIte, Nat.reduceEqDiff, Int.reduceToNat, Nat.reduceMul, Nat.reduceAdd, Nat.reduceBEq, isLd, e2, e5, e6, e15, e16, e17]
  by_cases hn : (n : Int) < (ofd s.base 1).length
  · obtain ⟨e, hel, hge, hd⟩ := ofd_get (show n < (ofd s.base 1).length by omega)
    have re := (hE.sub hN.sub).rd n (by omega)
    rw [hge] at re
    have hPn := hP4.sub hN.sub
    obtain ⟨f0, f1, f2, f3⟩ := hPn.b
    have hend := edge_end hs hel (by omega)
    have hbl := badN_len s x n
    simp (maxSteps := 300000) (disch := omega) only [gs, gs2, gs3, gs4, ↓reduceIte, Nat.reduceEqDiff, Int.reduceToNat, Nat.reduceMul, Nat.reduceAdd, Nat.reduceBEq, isLd, e2, e5, e6, e15, e16, e17, hn, re, f0, f1, f2, f3]
    have key := fun K => impl_part_ok (k := e) hPn.g hs.b hs.st hel (hV.sub hN.sub) (by omega) (by omega) (K := K)
    rw [hcl] at key
    refine key _ fun G5 W w hN5 => ?_
    have hlen : (partE s (cobV s x) e).length = (s.st.getD e 0).toNat := partL_len (by have := fcol_nn hs.st e; have := hs.st.2.1 e (by have := hs.st.1; omega); omega)
    have hsb := hs.st.2.1 e (by have := hs.st.1; omega)
    have hW : IntS G5 W w (partE s (cobV s x) e) := (hN5.own.ints' hlen.symm).sub (Sub.rest _ _)
    have key2 := fun K => impl_isZero_ok hW (by omega) (K := K)
    rw [hlen] at key2
    simp (maxSteps := 300000) (disch := omega) only [gs, gs2, gs3, gs4, ↓reduceIte, Nat.reduceEqDiff, Int.reduceToNat, Nat.reduceMul, Nat.reduceAdd, Nat.reduceBEq, isLd]
    refine key2 _ fun zz hz => ?_
    cases zz
    · have hno : ¬ Zr (partE s (cobV s x) e) := fun y => by have := hz.2 y; cases this
      have hb1 := badN_no hge hno
      simp (maxSteps := 300000) (disch := omega) only [gs, gs2, gs3, gs4, ↓reduceIte, Nat.reduceEqDiff, Int.reduceToNat, Nat.reduceMul, Nat.reduceAdd, Nat.reduceBEq, isLd, e2, e5, e6, e15, e16, e17, gBs]
      refine ⟨fun v hv => (by simp at hv; subst hv; rfl), fun b3 hb3 => ?_⟩
      refine ap_new hN (hN5.sub.trans (Sub.put hb3 _)) (cells_one [.int .i64 (e : Int)] true) (by rfl) (by intro v hv; simp at hv; subst hv; rfl) rfl (by omega) (by omega) (by omega) fun G6 Z' z' hN6 => ?_
      simp (maxSteps := 300000) (disch := omega) only [gs, gs2, gs3, gs4, ↓reduceIte, Nat.reduceEqDiff, Int.reduceToNat, Nat.reduceMul, Nat.reduceAdd, Nat.reduceBEq, isLd, e2, e5, e6, e15, e16, e17]
      exact ⟨mm - 1, by omega, G6, Sub.refl _, n + 1, Z', z', by rw [hb1]; simp, rfl, by omega, by omega, hN6.cast (by rw [hb1]; simp [I64]) (by rw [hb1]; simp)⟩
    · have hyes : Zr (partE s (cobV s x) e) := hz.1 rfl
      have hb1 := badN_yes hge hyes
      simp (maxSteps := 300000) (disch := omega) only [gs, gs2, gs3, gs4, ↓reduceIte, Nat.reduceEqDiff, Int.reduceToNat, Nat.reduceMul, Nat.reduceAdd, Nat.reduceBEq, isLd, e2, e5, e6, e15, e16, e17]
      exact ⟨mm - 1, by omega, G', hN5.sub, n + 1, Z, z, by rw [hb1], rfl, by omega, by omega, by rw [hb1]; exact hN⟩
  · simp (maxSteps := 300000) (disch := omega) only [gs, gs2, gs3, gs4, ↓reduceIte, Nat.reduceEqDiff, Int.reduceToNat, Nat.reduceMul, Nat.reduceAdd, Nat.reduceBEq, isLd, e2, e5, e6, e15, e16, e17, hn]
    obtain rfl : n = (ofd s.base 1).length := by omega
    obtain ⟨G'', s'', hN''⟩ := hN.low s4
    exact ⟨G'', s'', hk _ _ _ hN''⟩
theorem spec_l17Bad_ok {G : GH} {q X : Option Addr} {c : Nat} {m : ShM} {s : Shf} {x : List Int} (h : ShP G q m s) (hs : ShOk s) (hms : s.ms.length ≤ 2 ^ 20) (hx : IntS G X c x) (hr : RdOk s x) {K : Value → GH → Prop}
    (hk : ∀ G' Y y, New G G' Y y ((badE s x).map I64) 1 (badE s x).length → K (.slice Y (badE s x).length y) G') : GC Tryz.prog 46 [.pointer q, .slice X x.length c] G K := by
  refine GC_drop (c_spec_l17Bad_i (by simp) ?_)
  have hR := nR_eq hs
  have hC := nC_eq hs
  have hbn := hs.b.n
  have hol := ofd_len hbn 1
  have hb := rd_bd hs hr
  have hcl := cobV_len s x
  have hq := rd_some h.f0
  simp (maxSteps := 300000) (disch := omega) only [gs, gs2, gs3, gs4, ↓reduceIte, Nat.reduceEqDiff, Int.reduceToNat, Nat.reduceMul, Nat.reduceAdd, Nat.reduceBEq, isLd]
  refine spec_l11Matrix_ok (m := m) (s := s) (R := nR s) (C := nC s) h hs hms hR.1 hC.1 fun G2 D e s2 oD hI => ?_
  unfold matV matC
  simp (maxSteps := 300000) (disch := omega) only [gs, gs2, gs3, gs4, ↓reduceIte, Nat.reduceEqDiff, Int.reduceToNat, Nat.reduceMul, Nat.reduceAdd, Nat.reduceBEq, isLd]
  intro b5 hb5
  simp (maxSteps := 300000) (disch := omega) only [gs, gs2, gs3, gs4, ↓reduceIte, Nat.reduceEqDiff, Int.reduceToNat, Nat.reduceMul, Nat.reduceAdd, Nat.reduceBEq, isLd]
  refine st_fresh (vs := [.int .i64 s.p, .int .i64 (nR s), .int .i64 (nC s), .slice D (nR s * nC s) e]) rfl rfl rfl (by intro v hv; simp at hv; rcases hv with rfl | rfl | rfl | rfl <;> rfl) ?_
  have s5 := Sub.put hb5 ⟨[.int .i64 s.p, .int .i64 (nR s), .int .i64 (nC s), .slice D (nR s * nC s) e], true⟩
  have hB := MB.mk' (p := s.p) hb5 hI
  unfold mat4 at hB
  revert s5 hB
  generalize put G2 b5 ⟨[.int .i64 s.p, .int .i64 (nR s), .int .i64 (nC s), .slice D (nR s * nC s) e], true⟩ = G3
  intro s5 hB
  have hM : MQ G3 (some ⟨b5, 0, none⟩) s.p (nR s) (nC s) D e (cobF s) := ⟨hB.f0, by rw [pa_mk]; exact hB.f1, by rw [pa_mk]; exact hB.f2, by rw [pa_mk]; exact hB.f3, hB.m⟩
  have s3 := s2.trans s5
  simp (maxSteps := 300000) (disch := omega) only [gs, gs2, gs3, gs4, ↓reduceIte, Nat.reduceEqDiff, Int.reduceToNat, Nat.reduceMul, Nat.reduceAdd, Nat.reduceBEq, isLd]
  refine spec_l03Apply_ok (p := s.p) (R := nR s) (C := nC s) hM (hx.sub s3) hb.2 (by omega) (by omega) ⟨hs.p.1, hs.p.2.1⟩ (cobF_bd ⟨hs.p.1, hs.p.2.1⟩) hb.1 fun G4 Y y hN4 => ?_
  have hV : IntS G4 Y y (cobV s x) := (hN4.own.ints' hcl.symm).sub (Sub.rest _ _)
  have s4 := s3.trans hN4.sub
  have hP4 := h.sub s4
  have hq := rd_some hP4.f0
  simp (maxSteps := 300000) (disch := omega) only [gs, gs2, gs3, gs4, ↓reduceIte, Nat.reduceEqDiff, Int.reduceToNat, Nat.reduceMul, Nat.reduceAdd, Nat.reduceBEq, isLd]
  refine spec_l05Of_ok (d := 1) hP4.cx hbn hs.b.cs.l (by omega) fun G5 E ye hN5 => ?_
  have hV := hV.sub hN5.sub
  have hE : IntS G5 E ye (ofd s.base 1) := (hN5.own.ints' rfl).sub (Sub.rest _ _)
  have s6 := s4.trans hN5.sub
  have hP5 := h.sub s6
  have hesn := hE.sn
  simp (maxSteps := 300000) (disch := omega) only [gs, gs2, gs3, gs4, ↓reduceIte, Nat.reduceEqDiff, Int.reduceToNat, Nat.reduceMul, Nat.reduceAdd, Nat.reduceBEq, isLd, gBs]
  refine ⟨fun v hv => (by cases hv), fun b0 hb0 => ?_⟩
  have hN0 := New.mk hb0 [] 1 0 rfl
  refine gLoop_intro (fun mm T G' => ∃ (n : Nat) (Z : Option Addr) (z : Nat), T 0 = .pointer q ∧ T 6 = .slice Y (nR s) y ∧ T 7 = .slice E (ofd s.base 1).length ye ∧ T 8 = .slice Z (badN s x n).length z ∧ T 9 = .int .i64 n ∧ mm + n = (ofd s.base 1).length ∧ n ≤ (ofd s.base 1).length ∧ New G5 G' Z z ((badN s x n).map I64) 1 (badN s x n).length) (ofd s.base 1).length
    ⟨0, _, _, by simp (maxSteps := 300000) (disch := omega) only [gs, gs2, gs3, gs4, ↓reduceIte, Nat.reduceEqDiff, Int.reduceToNat, Nat.reduceMul, Nat.reduceAdd, Nat.reduceBEq, isLd], by simp (maxSteps := 300000) (disch := omega) only [gs, gs2, gs3, gs4, ↓reduceIte, Nat.reduceEqDiff, Int.reduceToNat, Nat.reduceMul, Nat.reduceAdd, Nat.reduceBEq, isLd], by simp (maxSteps := 300000) (disch := omega) only [gs, gs2, gs3, gs4, ↓reduceIte, Nat.reduceEqDiff, Int.reduceToNat, Nat.reduceMul, Nat.reduceAdd, Nat.reduceBEq, isLd], by simp (maxSteps := 300000) (disch := omega) only [gs, gs2, gs3, gs4, ↓reduceIte, Nat.reduceEqDiff, Int.reduceToNat, Nat.reduceMul, Nat.reduceAdd, Nat.reduceBEq, isLd] <;> rfl, by simp (maxSteps := 300000) (disch := omega) only [gs, gs2, gs3, gs4, ↓reduceIte, Nat.reduceEqDiff, Int.reduceToNat, Nat.reduceMul, Nat.reduceAdd, Nat.reduceBEq, isLd] <;> rfl, by omega, by omega, hN0⟩ ?_
  clear hN0
  rintro mm T G' ⟨n, Z, z, e0, e6, e7, e8, e9, hm, hnl, hN⟩
  simp (maxSteps := 300000) (disch := omega) only [gs, gs2, gs3, gs4, ↓reduceIte, Nat.reduceEqDiff, Int.reduceToNat, Nat.reduceMul, Nat.reduceAdd, Nat.reduceBEq, isLd, e0, e6, e7, e8, e9]
  by_cases hn : (n : Int) < (ofd s.base 1).length
  · obtain ⟨e, hel, hge, hd⟩ := ofd_get (show n < (ofd s.base 1).length by omega)
    have re := (hE.sub hN.sub).rd n (by omega)
    rw [hge] at re
    have hPn := hP5.sub hN.sub
    have hend := edge_end hs hel (by omega)
    have hbl := badN_len s x n
    have hf := fcol_nn hs.st e
    have hsb := hs.st.2.1 e (by have := hs.st.1; omega)
    have hst := hs.st.1
    have tk := hPn.g.st.rd e (by omega)
    have hssn := hPn.g.st.sn
    have g2 := hPn.f2
    simp (maxSteps := 300000) (disch := omega) only [gs, gs2, gs3, gs4, ↓reduceIte, Nat.reduceEqDiff, Int.reduceToNat, Nat.reduceMul, Nat.reduceAdd, Nat.reduceBEq, isLd, e0, e6, e7, e8, e9, hn, re]
    refine spec_l11At_ok (k := e) hPn hs.b hs.st hel ?_
    obtain ⟨a, ha⟩ : ∃ a : Nat, fcol s e = a := ⟨(fcol s e).toNat, by omega⟩
    obtain ⟨k, hk'⟩ : ∃ k : Nat, s.st.getD e 0 = k := ⟨(s.st.getD e 0).toNat, by omega⟩
    rw [hk'] at tk
    have w := sl_mid (A := Y) (n := nR s) (c := y) (a := a) (b := a + k) (by omega) (by omega) (by have := (hV.sub hN.sub).cap; omega)
    rw [show ((a + k : Nat) : Int) = (a : Int) + k by push_cast; rfl, show a + k - a = k by omega] at w
    have wk := w64 ((a : Int) + k) (by omega) (by omega)
    simp (maxSteps := 300000) (disch := omega) only [gs, gs2, gs3, gs4, ↓reduceIte, Nat.reduceEqDiff, Int.reduceToNat, Nat.reduceMul, Nat.reduceAdd, Nat.reduceBEq, isLd, e0, e6, e7, e8, e9, re, g2, tk, ha, wk, w]
    have hpe : partE s (cobV s x) e = partL (cobV s x) a k := by unfold partE; rw [ha, hk']; rfl
    have hW := part_ints (a := a) (n := k) (hV.sub hN.sub) (by omega)
    have hlen := partL_len (x := cobV s x) (a := a) (n := k) (by omega)
    have key2 := fun K => spec_l07Null_ok hW (by omega) (K := K)
    rw [hlen] at key2
    refine key2 _ fun zz hz => ?_
    rw [← hpe] at hz
    cases zz
    · have hno : ¬ Zr (partE s (cobV s x) e) := fun y => by have := hz.2 y; cases this
      have hb1 := badN_no hge hno
      simp (maxSteps := 300000) (disch := omega) only [gs, gs2, gs3, gs4, ↓reduceIte, Nat.reduceEqDiff, Int.reduceToNat, Nat.reduceMul, Nat.reduceAdd, Nat.reduceBEq, isLd, e0, e6, e7, e8, e9, re, g2, tk, gBs]
      refine ⟨fun v hv => (by simp at hv; subst hv; rfl), fun b3 hb3 => ?_⟩
      refine ap_new hN (Sub.put hb3 _) (cells_one [.int .i64 (e : Int)] true) (by rfl) (by intro v hv; simp at hv; subst hv; rfl) rfl (by omega) (by omega) (by omega) fun G6 Z' z' hN6 => ?_
      simp (maxSteps := 300000) (disch := omega) only [gs, gs2, gs3, gs4, ↓reduceIte, Nat.reduceEqDiff, Int.reduceToNat, Nat.reduceMul, Nat.reduceAdd, Nat.reduceBEq, isLd, e0, e6, e7, e8, e9]
      exact ⟨mm - 1, by omega, G6, Sub.refl _, n + 1, Z', z', by rw [hb1]; simp, rfl, by omega, by omega, hN6.cast (by rw [hb1]; simp [I64]) (by rw [hb1]; simp)⟩
    · have hyes : Zr (partE s (cobV s x) e) := hz.1 rfl
      have hb1 := badN_yes hge hyes
      simp (maxSteps := 300000) (disch := omega) only [gs, gs2, gs3, gs4, ↓reduceIte, Nat.reduceEqDiff, Int.reduceToNat, Nat.reduceMul, Nat.reduceAdd, Nat.reduceBEq, isLd, e0, e6, e7, e8, e9, re, g2, tk]
      exact ⟨mm - 1, by omega, G', Sub.refl _, n + 1, Z, z, by rw [hb1], rfl, by omega, by omega, by rw [hb1]; exact hN⟩
  · simp (maxSteps := 300000) (disch := omega) only [gs, gs2, gs3, gs4, ↓reduceIte, Nat.reduceEqDiff, Int.reduceToNat, Nat.reduceMul, Nat.reduceAdd, Nat.reduceBEq, isLd, e0, e6, e7, e8, e9, hn]
    obtain rfl : n = (ofd s.base 1).length := by omega
    obtain ⟨G'', s'', hN''⟩ := hN.low s6
    exact ⟨G'', s'', hk _ _ _ hN''⟩
theorem codeC_ok {s : Shf} {x : List Int} (h : codeC s x = 0) : ShOk s ∧ RdOk s x := by
  unfold codeC at h
  by_cases h1 : ShG' s
  · rw [if_pos h1] at h
    by_cases h2 : RdOk s x
    · exact ⟨h1.1, h2⟩
    · rw [if_neg h2] at h; cases h
  · rw [if_neg h1] at h; cases h
theorem badE_len {s : Shf} {x : List Int} (hs : ShOk s) : (badE s x).length ≤ 48 := by
  have h1 := badN_len s x (ofd s.base 1).length
  have h2 := ofd_len hs.b.n 1
  unfold badE; omega
/-- both ends of an edge are in a list. -/
def WithE (s : Shf) (ws : List Int) (e : Nat) : Prop := ∀ v ∈ fcs s.base e, v ∈ ws
theorem badN_mem {s : Shf} {x : List Int} {v : Int} : ∀ {n : Nat}, n ≤ (ofd s.base 1).length → v ∈ badN s x n → v ∈ ofd s.base 1
  | 0, _, h => by simp [badN] at h
  | n + 1, hn, h => by
    obtain ⟨e, hel, hge, hd⟩ := ofd_get (show n < (ofd s.base 1).length by omega)
    by_cases hz : Zr (partE s (cobV s x) e)
    · rw [badN_yes hge hz] at h
      exact badN_mem (by omega) h
    · rw [badN_no hge hz, List.mem_append, List.mem_singleton] at h
      rcases h with h | h
      · exact badN_mem (by omega) h
      · subst h; rw [← hge]; simp [List.getD, show n < (ofd s.base 1).length by omega]
theorem badE_edge {s : Shf} {x : List Int} {i : Nat} (hi : i < (badE s x).length) : ∃ k : Nat, k < s.base.length ∧ (badE s x).getD i 0 = k ∧ (s.base.getD k []).length = 2 := by
  have hm : (badE s x).getD i 0 ∈ badE s x := by simp [List.getD, hi]
  obtain ⟨k, h1, h2, h3⟩ := ofd_mem.1 (badN_mem (Nat.le_refl _) hm)
  exact ⟨k, h1, h2, by omega⟩
theorem fcs_two {s : Shf} {e : Nat} (h2 : (s.base.getD e []).length = 2) : (fcs s.base e).length = 2 := by rw [fcs_len, facs_two, if_pos (by omega), h2]
theorem withE_two {s : Shf} {ws : List Int} {e : Nat} (h2 : (s.base.getD e []).length = 2) : WithE s ws e ↔ (fcs s.base e).getD 1 0 ∈ ws ∧ (fcs s.base e).getD 0 0 ∈ ws := by
  have hl := fcs_two h2
  unfold WithE
  match hf : fcs s.base e, hl with
  | [a, b], _ => simp [List.getD]; exact And.comm
/-- which vertices agree. -/
def AgrW (s : Shf) (x ws : List Int) : Prop := codeR s x ws = 0 ∧ ∀ i, i < (badE s x).length → ¬ WithE s ws ((badE s x).getD i 0).toNat
theorem codeR_iff {s : Shf} {x ws : List Int} : codeR s x ws = 0 ↔ codeC s x = 0 ∧ VtOk s ws := by
  unfold codeR codeC
  by_cases h1 : ShG' s
  · rw [if_pos h1, if_pos h1]
    by_cases h2 : RdOk s x
    · rw [if_pos h2, if_pos h2]
      by_cases h3 : VtOk s ws
      · rw [if_pos h3]; simp [h3]
      · rw [if_neg h3]; simp [h3]
    · rw [if_neg h2, if_neg h2]; simp
  · rw [if_neg h1, if_neg h1]; simp
theorem vt_len (s : Shf) : (vsN s.base s.base.length).length = (ofd s.base 0).length := vsN_len _ _
theorem impl_isWithin_fn1_ok {G : GH} {q W : Option Addr} {w : Nat} {ws : List Int} {v : Int} (hq : rd G q = some (.slice W ws.length w)) (h : IntS G W w ws) (hl : ws.length < 2 ^ 40) {K : Value → GH → Prop} (hk : K (.bool (!decide (v ∈ ws))) G) : GC Tryz.prog 114 [.int .i64 v, .pointer q] G K := by
  refine c_impl_isWithin_fn1_i (by simp) ?_
  simp (maxSteps := 300000) (disch := omega) only [gs, gs2, gs3, gs4, ↓reduceIte, Nat.reduceEqDiff, Int.reduceToNat, Nat.reduceMul, Nat.reduceAdd, Nat.reduceBEq, isLd, hq]
  refine slices_Contains_ok h hl fun b hb => ?_
  have : b = decide (v ∈ ws) := Bool.eq_iff_iff.2 (by rw [hb, decide_eq_true_eq])
  subst this
  simp (maxSteps := 300000) (disch := omega) only [gs, gs2, gs3, gs4, ↓reduceIte, Nat.reduceEqDiff, Int.reduceToNat, Nat.reduceMul, Nat.reduceAdd, Nat.reduceBEq, isLd]
  exact hk
theorem impl_isWithin_ok {G : GH} {W : Option Addr} {w e : Nat} {m : ShM} {s : Shf} {ws : List Int} (h : ShG G m s) (hb : CxOk s.base) (he : e < s.base.length) (hw : IntS G W w ws) (hwl : ws.length < 2 ^ 40) {K : Value → GH → Prop}
    (hk : ∀ z : Bool, (z = true ↔ WithE s ws e) → K (.bool z) G) : GC Tryz.prog 59 [shV m s, .int .i64 (e : Int), .slice W ws.length w] G K := by
  refine GC_drop (c_impl_isWithin_i (by simp) ?_)
  unfold shV shC
  simp (maxSteps := 300000) (disch := omega) only [gs, gs2, gs3, gs4, ↓reduceIte, Nat.reduceEqDiff, Int.reduceToNat, Nat.reduceMul, Nat.reduceAdd, Nat.reduceBEq, isLd]
  intro b3 hb3
  have s3 := Sub.put hb3 ⟨shC m s, true⟩
  have hP := ShP.box hb3 h
  unfold shC at s3 hP
  revert s3 hP
  generalize put G b3 ⟨[.slice m.A s.base.length m.c, .int .i64 s.p, .slice m.S s.st.length m.e, .slice m.M s.ms.length m.l], true⟩ = G3
  intro s3 hP
  simp (maxSteps := 300000) (disch := omega) only [gs, gs2, gs3, gs4, ↓reduceIte, Nat.reduceEqDiff, Int.reduceToNat, Nat.reduceMul, Nat.reduceAdd, Nat.reduceBEq, isLd]
  intro b5 hb5
  have s5 := Sub.put hb5 ⟨[.slice W ws.length w], true⟩
  have f5 : rd (put G3 b5 ⟨[.slice W ws.length w], true⟩) (some ⟨b5, 0, none⟩) = some (.slice W ws.length w) := rd_box _ _ _ 0 _ rfl
  revert s5 f5
  generalize put G3 b5 ⟨[.slice W ws.length w], true⟩ = G5
  intro s5 f5
  have hP5 := hP.sub s5
  obtain ⟨f0, f1, f2, f3⟩ := hP5.b
  have ss := s3.trans s5
  simp (maxSteps := 300000) (disch := omega) only [gs, gs2, gs3, gs4, ↓reduceIte, Nat.reduceEqDiff, Int.reduceToNat, Nat.reduceMul, Nat.reduceAdd, Nat.reduceBEq, isLd, f0, f1, f2, f3, f5]
  refine impl_faceIndices_ok (k := e) hP5.g.rows hb he fun G6 Y y hN => ?_
  have hY : IntS G6 Y y (fcs s.base e) := (hN.own.ints' rfl).sub (Sub.rest _ _)
  have hl : (fcs s.base e).length ≤ 5 := by have := fcs_len s.base e; have := facs_n (s.base.getD e []); have := (hb.s e he).1.2; omega
  simp (maxSteps := 300000) (disch := omega) only [gs, gs2, gs3, gs4, ↓reduceIte, Nat.reduceEqDiff, Int.reduceToNat, Nat.reduceMul, Nat.reduceAdd, Nat.reduceBEq, isLd]
  refine slices_ContainsFunc_ok (fun v => !decide (v ∈ ws)) hY (by omega) (fun i hi K' hK' => ?_) ?_
  · simp (maxSteps := 300000) (disch := omega) only [gs, gs2, gs3, gs4, ↓reduceIte, Nat.reduceEqDiff, Int.reduceToNat, Nat.reduceMul, Nat.reduceAdd, Nat.reduceBEq, isLd]
    exact impl_isWithin_fn1_ok (rd_sub hN.sub f5) (hw.sub (ss.trans hN.sub)) hwl hK'
  · generalize hany : ((fcs s.base e).any fun v => !decide (v ∈ ws)) = bb
    simp (maxSteps := 300000) (disch := omega) only [gs, gs2, gs3, gs4, ↓reduceIte, Nat.reduceEqDiff, Int.reduceToNat, Nat.reduceMul, Nat.reduceAdd, Nat.reduceBEq, isLd]
    refine ⟨G, ss.trans hN.sub, hk _ ?_⟩
    unfold WithE
    cases bb
    · rw [List.any_eq_false] at hany
      simp at hany
      simpa using hany
    · rw [List.any_eq_true] at hany
      obtain ⟨v, h1, h2⟩ := hany
      simp at h2
      simp
      exact ⟨v, h1, h2⟩
theorem impl_AgreesWithin_fn1_ok {G : GH} {b1 : Nat} {q W : Option Addr} {w e : Nat} {m : ShM} {s : Shf} {ws : List Int} (h : ShP G (some ⟨b1, 0, none⟩) m s) (hb : CxOk s.base) (he : e < s.base.length) (hq : rd G q = some (.slice W ws.length w)) (hw : IntS G W w ws) (hwl : ws.length < 2 ^ 40) {K : Value → GH → Prop}
    (hk : ∀ z : Bool, (z = true ↔ WithE s ws e) → K (.bool z) G) : GC Tryz.prog 58 [.int .i64 (e : Int), .pointer (some ⟨b1, 0, none⟩), .pointer q] G K := by
  refine c_impl_AgreesWithin_fn1_i (by simp) ?_
  obtain ⟨f0, f1, f2, f3⟩ := h.b
  simp (maxSteps := 300000) (disch := omega) only [gs, gs2, gs3, gs4, ↓reduceIte, Nat.reduceEqDiff, Int.reduceToNat, Nat.reduceMul, Nat.reduceAdd, Nat.reduceBEq, isLd, f0, f1, f2, f3, hq]
  refine impl_isWithin_ok (m := m) (s := s) h.g hb he hw hwl fun z hz => ?_
  simp (maxSteps := 300000) (disch := omega) only [gs, gs2, gs3, gs4, ↓reduceIte, Nat.reduceEqDiff, Int.reduceToNat, Nat.reduceMul, Nat.reduceAdd, Nat.reduceBEq, isLd]
  exact hk z hz
open Classical in
theorem impl_AgreesWithin_ok {G : GH} {X W : Option Addr} {c w : Nat} {m : ShM} {s : Shf} {x ws : List Int} (h : ShG G m s) (hsm : ShSm s) (hx : IntS G X c x) (hl : x.length < 2 ^ 40) (hw : IntS G W w ws) (hwl : ws.length < 2 ^ 40) {K : Value → GH → Prop}
    (hk : ∀ z : Bool, (z = true ↔ AgrW s x ws) → K (.bool z) G) : GC Tryz.prog 24 [shV m s, .slice X x.length c, .slice W ws.length w] G K := by
  refine GC_drop (c_impl_AgreesWithin_i (by simp) ?_)
  unfold shV shC
  simp (maxSteps := 300000) (disch := omega) only [gs, gs2, gs3, gs4, ↓reduceIte, Nat.reduceEqDiff, Int.reduceToNat, Nat.reduceMul, Nat.reduceAdd, Nat.reduceBEq, isLd]
  intro b3 hb3
  have s3 := Sub.put hb3 ⟨shC m s, true⟩
  have hP := ShP.box hb3 h
  unfold shC at s3 hP
  revert s3 hP
  generalize put G b3 ⟨[.slice m.A s.base.length m.c, .int .i64 s.p, .slice m.S s.st.length m.e, .slice m.M s.ms.length m.l], true⟩ = G3
  intro s3 hP
  simp (maxSteps := 300000) (disch := omega) only [gs, gs2, gs3, gs4, ↓reduceIte, Nat.reduceEqDiff, Int.reduceToNat, Nat.reduceMul, Nat.reduceAdd, Nat.reduceBEq, isLd]
  intro b5 hb5
  have s5 := Sub.put hb5 ⟨[.slice W ws.length w], true⟩
  have f5 : rd (put G3 b5 ⟨[.slice W ws.length w], true⟩) (some ⟨b5, 0, none⟩) = some (.slice W ws.length w) := rd_box _ _ _ 0 _ rfl
  revert s5 f5
  generalize put G3 b5 ⟨[.slice W ws.length w], true⟩ = G5
  intro s5 f5
  have hP5 := hP.sub s5
  obtain ⟨f0, f1, f2, f3⟩ := hP5.b
  have ss := s3.trans s5
  simp (maxSteps := 300000) (disch := omega) only [gs, gs2, gs3, gs4, ↓reduceIte, Nat.reduceEqDiff, Int.reduceToNat, Nat.reduceMul, Nat.reduceAdd, Nat.reduceBEq, isLd, f0, f1, f2, f3, f5]
  refine impl_read_ok hP5.g hsm (hx.sub ss) hl (hw.sub ss) hwl ?_
  by_cases h0 : codeR s x ws = 0
  · obtain ⟨hs, hr⟩ := codeC_ok (codeR_iff.1 h0).1
    simp (maxSteps := 300000) (disch := omega) only [gs, gs2, gs3, gs4, ↓reduceIte, Nat.reduceEqDiff, Int.reduceToNat, Nat.reduceMul, Nat.reduceAdd, Nat.reduceBEq, isLd, eq_true h0, f0, f1, f2, f3, f5]
    refine impl_disagreements_ok hP5.g hs hsm.ms (hx.sub ss) hr fun G6 Y y hN => ?_
    have hY : IntS G6 Y y (badE s x) := (hN.own.ints' rfl).sub (Sub.rest _ _)
    have hbl := badE_len (x := x) hs
    simp (maxSteps := 300000) (disch := omega) only [gs, gs2, gs3, gs4, ↓reduceIte, Nat.reduceEqDiff, Int.reduceToNat, Nat.reduceMul, Nat.reduceAdd, Nat.reduceBEq, isLd]
    refine slices_ContainsFunc_ok (fun v => decide (WithE s ws v.toNat)) hY (by omega) (fun i hi K' hK' => ?_) ?_
    · obtain ⟨k, k1, k2, k3⟩ := badE_edge hi
      rw [k2] at hK' ⊢
      simp (maxSteps := 300000) (disch := omega) only [gs, gs2, gs3, gs4, ↓reduceIte, Nat.reduceEqDiff, Int.reduceToNat, Nat.reduceMul, Nat.reduceAdd, Nat.reduceBEq, isLd]
      refine impl_AgreesWithin_fn1_ok (hP5.sub hN.sub) hs.b k1 (rd_sub hN.sub f5) (hw.sub (ss.trans hN.sub)) hwl fun z hz => ?_
      have : z = decide (WithE s ws k) := Bool.eq_iff_iff.2 (by rw [hz, decide_eq_true_eq])
      subst this
      exact hK'
    · generalize hany : ((badE s x).any fun v => decide (WithE s ws v.toNat)) = bb
      simp (maxSteps := 300000) (disch := omega) only [gs, gs2, gs3, gs4, ↓reduceIte, Nat.reduceEqDiff, Int.reduceToNat, Nat.reduceMul, Nat.reduceAdd, Nat.reduceBEq, isLd]
      refine ⟨G, ss.trans hN.sub, hk _ ?_⟩
      unfold AgrW
      cases bb
      · rw [List.any_eq_false] at hany
        refine ⟨fun _ => ⟨h0, fun i hi hW => ?_⟩, fun _ => rfl⟩
        exact hany ((badE s x).getD i 0) (by simp [List.getD, hi]) (by simpa using hW)
      · rw [List.any_eq_true] at hany
        obtain ⟨v, h1, h2⟩ := hany
        obtain ⟨i, hi, rfl⟩ := List.mem_iff_getElem.1 h1
        refine ⟨fun y => (by cases y), fun y => absurd (of_decide_eq_true h2) ?_⟩
        have := y.2 i hi
        rwa [show (badE s x).getD i 0 = (badE s x)[i] by simp [List.getD, hi]] at this
  · simp (maxSteps := 300000) (disch := omega) only [gs, gs2, gs3, gs4, ↓reduceIte, Nat.reduceEqDiff, Int.reduceToNat, Nat.reduceMul, Nat.reduceAdd, Nat.reduceBEq, isLd, eq_false h0]
    exact ⟨G, ss, hk false ⟨fun y => (by cases y), fun y => absurd y.1 h0⟩⟩
theorem spec_l17Ends_ok {G : GH} {q : Option Addr} {e : Nat} {m : ShM} {s : Shf} (h : ShP G q m s) (hb : CxOk s.base) (he : e < s.base.length) (h2 : (s.base.getD e []).length = 2) {K : Value → GH → Prop}
    (hk : K (.tuple [.int .i64 ((fcs s.base e).getD 1 0), .int .i64 ((fcs s.base e).getD 0 0)].toArray) G) : GC Tryz.prog 110 [.pointer q, .int .i64 (e : Int)] G K := by
  refine GC_drop (c_spec_l17Ends_i (by simp) ?_)
  have hq := rd_some h.f0
  have hl := fcs_two h2
  simp (maxSteps := 300000) (disch := omega) only [gs, gs2, gs3, gs4, ↓reduceIte, Nat.reduceEqDiff, Int.reduceToNat, Nat.reduceMul, Nat.reduceAdd, Nat.reduceBEq, isLd]
  refine spec_l05Faces_ok (k := e) h.cx hb he fun G2 Y y hN => ?_
  have hY : IntS G2 Y y (fcs s.base e) := (hN.own.ints' rfl).sub (Sub.rest _ _)
  have r0 := hY.rd 0 (by omega)
  have r1 := hY.rd 1 (by omega)
  rw [pa_zero] at r0
  have hsn := hY.sn (by omega)
  simp (maxSteps := 300000) (disch := omega) only [gs, gs2, gs3, gs4, ↓reduceIte, Nat.reduceEqDiff, Int.reduceToNat, Nat.reduceMul, Nat.reduceAdd, Nat.reduceBEq, isLd, r0, r1, pa_zero, hl]
  exact ⟨G, hN.sub, hk⟩
theorem spec_l17Within_ok {G : GH} {q B W : Option Addr} {d w : Nat} {m : ShM} {s : Shf} {bad ws : List Int} (h : ShP G q m s) (hb : CxOk s.base) (hB : IntS G B d bad) (hbl : bad.length < 2 ^ 40) (hbad : ∀ i, i < bad.length → ∃ k : Nat, k < s.base.length ∧ bad.getD i 0 = k ∧ (s.base.getD k []).length = 2) (hw : IntS G W w ws) (hwl : ws.length < 2 ^ 40) {K : Value → GH → Prop}
    (hk : ∀ z : Bool, (z = true ↔ ∀ i, i < bad.length → ¬ WithE s ws (bad.getD i 0).toNat) → K (.bool z) G) : GC Tryz.prog 56 [.pointer q, .slice B bad.length d, .slice W ws.length w] G K := by
  refine c_spec_l17Within_i (by simp) ?_
  have r := hB.rd
  have hsn := hB.sn
  simp (maxSteps := 300000) (disch := omega) only [gs, gs2, gs3, gs4, ↓reduceIte, Nat.reduceEqDiff, Int.reduceToNat, Nat.reduceMul, Nat.reduceAdd, Nat.reduceBEq, isLd]
  refine gLoop_intro (fun mm T G' => ∃ i : Nat, T 0 = .pointer q ∧ T 1 = .slice B bad.length d ∧ T 2 = .slice W ws.length w ∧ T 7 = .int .i64 i ∧ mm + i = bad.length ∧ i ≤ bad.length ∧ G = G' ∧ ∀ j, j < i → ¬ WithE s ws (bad.getD j 0).toNat) bad.length
    ⟨0, by simp (maxSteps := 300000) (disch := omega) only [gs, gs2, gs3, gs4, ↓reduceIte, Nat.reduceEqDiff, Int.reduceToNat, Nat.reduceMul, Nat.reduceAdd, Nat.reduceBEq, isLd], by simp (maxSteps := 300000) (disch := omega) only [gs, gs2, gs3, gs4, ↓reduceIte, Nat.reduceEqDiff, Int.reduceToNat, Nat.reduceMul, Nat.reduceAdd, Nat.reduceBEq, isLd], by simp (maxSteps := 300000) (disch := omega) only [gs, gs2, gs3, gs4, ↓reduceIte, Nat.reduceEqDiff, Int.reduceToNat, Nat.reduceMul, Nat.reduceAdd, Nat.reduceBEq, isLd], by simp (maxSteps := 300000) (disch := omega) only [gs, gs2, gs3, gs4, ↓reduceIte, Nat.reduceEqDiff, Int.reduceToNat, Nat.reduceMul, Nat.reduceAdd, Nat.reduceBEq, isLd] <;> rfl, by omega, by omega, rfl, fun j hj => by omega⟩ ?_
  rintro mm T G' ⟨i, e0, e1, e2, e7, hm, hil, rfl, hin⟩
  simp (maxSteps := 300000) (disch := omega) only [gs, gs2, gs3, gs4, ↓reduceIte, Nat.reduceEqDiff, Int.reduceToNat, Nat.reduceMul, Nat.reduceAdd, Nat.reduceBEq, isLd, e0, e1, e2, e7]
  by_cases hi : (i : Int) < bad.length
  · obtain ⟨k, k1, k2, k3⟩ := hbad i (by omega)
    have ri := r i (by omega)
    rw [k2] at ri
    simp (maxSteps := 300000) (disch := omega) only [gs, gs2, gs3, gs4, ↓reduceIte, Nat.reduceEqDiff, Int.reduceToNat, Nat.reduceMul, Nat.reduceAdd, Nat.reduceBEq, isLd, e0, e1, e2, e7, hi, ri]
    refine spec_l17Ends_ok h hb k1 k3 ?_
    simp (maxSteps := 300000) (disch := omega) only [gs, gs2, gs3, gs4, ↓reduceIte, Nat.reduceEqDiff, Int.reduceToNat, Nat.reduceMul, Nat.reduceAdd, Nat.reduceBEq, isLd, e0, e1, e2, e7]
    have hwi := withE_two (ws := ws) k3
    have step : ¬ WithE s ws k → ∀ j, j < i + 1 → ¬ WithE s ws (bad.getD j 0).toNat := fun hn j hj => by
      by_cases e : j = i
      · subst e; rw [k2, Int.toNat_natCast]; exact hn
      · exact hin j (by omega)
    refine spec_l00Has_ok hw hwl fun z hz => ?_
    cases z
    · have hn : ¬ WithE s ws k := fun y => by have := hz.2 (hwi.1 y).1; cases this
      simp (maxSteps := 300000) (disch := omega) only [gs, gs2, gs3, gs4, ↓reduceIte, Nat.reduceEqDiff, Int.reduceToNat, Nat.reduceMul, Nat.reduceAdd, Nat.reduceBEq, isLd, e0, e1, e2, e7]
      exact ⟨mm - 1, by omega, _, Sub.refl _, i + 1, rfl, by omega, by omega, rfl, step hn⟩
    · simp (maxSteps := 300000) (disch := omega) only [gs, gs2, gs3, gs4, ↓reduceIte, Nat.reduceEqDiff, Int.reduceToNat, Nat.reduceMul, Nat.reduceAdd, Nat.reduceBEq, isLd, e0, e1, e2, e7]
      refine spec_l00Has_ok hw hwl fun z2 hz2 => ?_
      cases z2
      · have hn : ¬ WithE s ws k := fun y => by have := hz2.2 (hwi.1 y).2; cases this
        simp (maxSteps := 300000) (disch := omega) only [gs, gs2, gs3, gs4, ↓reduceIte, Nat.reduceEqDiff, Int.reduceToNat, Nat.reduceMul, Nat.reduceAdd, Nat.reduceBEq, isLd, e0, e1, e2, e7]
        exact ⟨mm - 1, by omega, _, Sub.refl _, i + 1, rfl, by omega, by omega, rfl, step hn⟩
      · have hy : WithE s ws k := hwi.2 ⟨hz.1 rfl, hz2.1 rfl⟩
        simp (maxSteps := 300000) (disch := omega) only [gs, gs2, gs3, gs4, ↓reduceIte, Nat.reduceEqDiff, Int.reduceToNat, Nat.reduceMul, Nat.reduceAdd, Nat.reduceBEq, isLd]
        exact hk false ⟨fun y => (by cases y), fun y => absurd (by rw [k2, Int.toNat_natCast]; exact hy) (y i (by omega))⟩
  · simp (maxSteps := 300000) (disch := omega) only [gs, gs2, gs3, gs4, ↓reduceIte, Nat.reduceEqDiff, Int.reduceToNat, Nat.reduceMul, Nat.reduceAdd, Nat.reduceBEq, isLd, e0, e1, e2, e7, hi]
    exact hk true ⟨fun _ j hj => hin j (by omega), fun _ => rfl⟩
theorem spec_l17Vertices_ok {G : GH} {q W : Option Addr} {w : Nat} {m : ShM} {s : Shf} {ws : List Int} (h : ShP G q m s) (hb : CxOk s.base) (hw : IntS G W w ws) (hwl : ws.length < 2 ^ 40) {K : Value → GH → Prop}
    (hk : ∀ z : Bool, (z = true ↔ VtOk s ws) → K (.bool z) G) : GC Tryz.prog 55 [.pointer q, .slice W ws.length w] G K := by
  refine GC_drop (c_spec_l17Vertices_i (by simp) ?_)
  have hq := rd_some h.f0
  have hbn := hb.n
  have hol := ofd_len hbn 0
  have w1 := w64 (((ofd s.base 0).length : Int) - 1) (by omega) (by omega)
  simp (maxSteps := 300000) (disch := omega) only [gs, gs2, gs3, gs4, ↓reduceIte, Nat.reduceEqDiff, Int.reduceToNat, Nat.reduceMul, Nat.reduceAdd, Nat.reduceBEq, isLd]
  refine spec_l05Of_ok (d := 0) h.cx hbn hb.cs.l (by omega) fun G2 Y y hN => ?_
  simp (maxSteps := 300000) (disch := omega) only [gs, gs2, gs3, gs4, ↓reduceIte, Nat.reduceEqDiff, Int.reduceToNat, Nat.reduceMul, Nat.reduceAdd, Nat.reduceBEq, isLd, w1]
  refine spec_l00Rises_ok (hw.sub hN.sub) hwl fun z hz => ?_
  simp (maxSteps := 300000) (disch := omega) only [gs, gs2, gs3, gs4, ↓reduceIte, Nat.reduceEqDiff, Int.reduceToNat, Nat.reduceMul, Nat.reduceAdd, Nat.reduceBEq, isLd]
  refine ⟨G, hN.sub, hk z ?_⟩
  rw [hz]
  unfold VtOk
  rw [vt_len]
  exact And.comm
theorem spec_AgreesWithin_ok {G : GH} {X W : Option Addr} {c w : Nat} {m : ShM} {s : Shf} {x ws : List Int} (h : ShG G m s) (hsm : ShSm s) (hx : IntS G X c x) (hl : x.length < 2 ^ 40) (hw : IntS G W w ws) (hwl : ws.length < 2 ^ 40) {K : Value → GH → Prop}
    (hk : ∀ z : Bool, (z = true ↔ AgrW s x ws) → K (.bool z) G) : GC Tryz.prog 23 [shV m s, .slice X x.length c, .slice W ws.length w] G K := by
  refine GC_drop (c_spec_AgreesWithin_i (by simp) ?_)
  unfold shV shC
  simp (maxSteps := 300000) (disch := omega) only [gs, gs2, gs3, gs4, ↓reduceIte, Nat.reduceEqDiff, Int.reduceToNat, Nat.reduceMul, Nat.reduceAdd, Nat.reduceBEq, isLd]
  intro b3 hb3
  have s3 := Sub.put hb3 ⟨shC m s, true⟩
  have hP := ShP.box hb3 h
  unfold shC at s3 hP
  revert s3 hP
  generalize put G b3 ⟨[.slice m.A s.base.length m.c, .int .i64 s.p, .slice m.S s.st.length m.e, .slice m.M s.ms.length m.l], true⟩ = G3
  intro s3 hP
  simp (maxSteps := 300000) (disch := omega) only [gs, gs2, gs3, gs4, ↓reduceIte, Nat.reduceEqDiff, Int.reduceToNat, Nat.reduceMul, Nat.reduceAdd, Nat.reduceBEq, isLd]
  refine spec_l11Cochain_ok hP hsm (hx.sub s3) hl ?_
  by_cases h0 : codeC s x = 0
  · obtain ⟨hs, hr⟩ := codeC_ok h0
    simp (maxSteps := 300000) (disch := omega) only [gs, gs2, gs3, gs4, ↓reduceIte, Nat.reduceEqDiff, Int.reduceToNat, Nat.reduceMul, Nat.reduceAdd, Nat.reduceBEq, isLd, eq_true h0]
    refine spec_l17Vertices_ok hP hs.b (hw.sub s3) hwl fun z hz => ?_
    cases z
    · have hn : ¬ codeR s x ws = 0 := fun y => by have := hz.2 (codeR_iff.1 y).2; cases this
      simp (maxSteps := 300000) (disch := omega) only [gs, gs2, gs3, gs4, ↓reduceIte, Nat.reduceEqDiff, Int.reduceToNat, Nat.reduceMul, Nat.reduceAdd, Nat.reduceBEq, isLd]
      exact ⟨G, s3, hk false ⟨fun y => (by cases y), fun y => absurd y.1 hn⟩⟩
    · have hR : codeR s x ws = 0 := codeR_iff.2 ⟨h0, hz.1 rfl⟩
      simp (maxSteps := 300000) (disch := omega) only [gs, gs2, gs3, gs4, ↓reduceIte, Nat.reduceEqDiff, Int.reduceToNat, Nat.reduceMul, Nat.reduceAdd, Nat.reduceBEq, isLd]
      refine spec_l17Bad_ok hP hs hsm.ms (hx.sub s3) hr fun G6 Y y hN => ?_
      have hY : IntS G6 Y y (badE s x) := (hN.own.ints' rfl).sub (Sub.rest _ _)
      have hbl := badE_len (x := x) hs
      simp (maxSteps := 300000) (disch := omega) only [gs, gs2, gs3, gs4, ↓reduceIte, Nat.reduceEqDiff, Int.reduceToNat, Nat.reduceMul, Nat.reduceAdd, Nat.reduceBEq, isLd]
      refine spec_l17Within_ok (hP.sub hN.sub) hs.b hY (by omega) (fun i hi => badE_edge hi) (hw.sub (s3.trans hN.sub)) hwl fun z2 hz2 => ?_
      simp (maxSteps := 300000) (disch := omega) only [gs, gs2, gs3, gs4, ↓reduceIte, Nat.reduceEqDiff, Int.reduceToNat, Nat.reduceMul, Nat.reduceAdd, Nat.reduceBEq, isLd]
      exact ⟨G, s3.trans hN.sub, hk z2 (by rw [hz2]; exact ⟨fun y => ⟨hR, y⟩, fun y => y.2⟩)⟩
  · have hn : ¬ codeR s x ws = 0 := fun y => h0 (codeR_iff.1 y).1
    simp (maxSteps := 300000) (disch := omega) only [gs, gs2, gs3, gs4, ↓reduceIte, Nat.reduceEqDiff, Int.reduceToNat, Nat.reduceMul, Nat.reduceAdd, Nat.reduceBEq, isLd, eq_false h0]
    exact ⟨G, s3, hk false ⟨fun y => (by cases y), fun y => absurd y.1 hn⟩⟩
theorem Own.rest {G G' : GH} {A : Option Addr} {c sz n : Nat} {cs : List Value} (h : Own G' A c cs sz n) (o : Off G A) : Own (Gh.rest G G') A c cs sz n := by
  rcases h with h | ⟨b, r, rfl, hb, h⟩
  · exact .inl h
  · exact .inr ⟨b, r, rfl, rest_some.2 ⟨o _ rfl, hb⟩, h⟩
theorem OwnR.rest {G G' : GH} {B : Option Addr} {d : Nat} {hs : Nat → Option Addr × Nat} {xss : List (List Int)} (h : OwnR G' B d hs xss) (o : Off G B) (oR : ∀ i, i < xss.length → Off G (hs i).1) : OwnR (Gh.rest G G') B d hs xss := ⟨h.out.rest o, fun i hi => (h.row i hi).rest (oR i hi), h.ne, h.inj⟩
theorem laws_szInt64SS_ok2 {G : GH} {A : Option Addr} {c : Nat} {hs : Nat → Option Addr × Nat} {xss : List (List Int)} {left : Int} (h : RowS G A c hs xss) (h0 : 0 ≤ left ∧ left ≤ 2 ^ 20) (hn : xss.length ≤ 2 ^ 63 - 1) (hn' : ∀ i, i < xss.length → (xss.getD i []).length ≤ 2 ^ 63 - 1) {K : Value → GH → Prop}
    (hk : ∀ l : Int, -1 ≤ l → l ≤ 2 ^ 20 → (0 ≤ l → l ≤ left ∧ Sm xss ∧ pre xss xss.length ≤ 2 ^ 20) → K (.int .i64 l) G) : GC Tryz.prog 89 [.slice A xss.length c, .int .i64 left] G K := by
  refine c_laws_szInt64SS_i (by simp) ?_
  have hsn := h.sn
  have r := h.r
  simp (maxSteps := 300000) (disch := omega) only [gs, gs2, gs3, gs4, ↓reduceIte, Nat.reduceEqDiff, Int.reduceToNat, Nat.reduceMul, Nat.reduceAdd, Nat.reduceBEq, isLd]
  by_cases h1 : left - (xss.length : Int) < 0
  · simp (maxSteps := 300000) (disch := omega) only [gs, gs2, gs3, gs4, ↓reduceIte, Nat.reduceEqDiff, Int.reduceToNat, Nat.reduceMul, Nat.reduceAdd, Nat.reduceBEq, isLd, h1]; exact hk _ (by omega) (by omega) (by omega)
  simp (maxSteps := 300000) (disch := omega) only [gs, gs2, gs3, gs4, ↓reduceIte, Nat.reduceEqDiff, Int.reduceToNat, Nat.reduceMul, Nat.reduceAdd, Nat.reduceBEq, isLd, h1]
  refine gLoop_intro (fun m T G' => ∃ (k : Nat) (l : Int), T 0 = .slice A xss.length c ∧ T 1 = .int .i64 l ∧ T 5 = .int .i64 k ∧ m + k = xss.length ∧ k ≤ xss.length ∧ G' = G ∧ (0 ≤ l ∧ l + pre xss k ≤ left) ∧ ∀ i, i < k → (xss.getD i []).length ≤ 2 ^ 20)
    xss.length ⟨0, _, by simp (maxSteps := 300000) (disch := omega) only [gs, gs2, gs3, gs4, ↓reduceIte, Nat.reduceEqDiff, Int.reduceToNat, Nat.reduceMul, Nat.reduceAdd, Nat.reduceBEq, isLd], by simp (maxSteps := 300000) (disch := omega) only [gs, gs2, gs3, gs4, ↓reduceIte, Nat.reduceEqDiff, Int.reduceToNat, Nat.reduceMul, Nat.reduceAdd, Nat.reduceBEq, isLd] <;> rfl, by simp (maxSteps := 300000) (disch := omega) only [gs, gs2, gs3, gs4, ↓reduceIte, Nat.reduceEqDiff, Int.reduceToNat, Nat.reduceMul, Nat.reduceAdd, Nat.reduceBEq, isLd] <;> rfl, by omega, by omega, rfl, by simp only [pre]; omega, fun i hi => by omega⟩ ?_
  rintro m T G' ⟨k, l, e0, e1, e5, hm, hkl, rfl, hl, hin⟩
  simp (maxSteps := 300000) (disch := omega) only [gs, gs2, gs3, gs4, ↓reduceIte, Nat.reduceEqDiff, Int.reduceToNat, Nat.reduceMul, Nat.reduceAdd, Nat.reduceBEq, isLd, e0, e1, e5]
  by_cases hkk : (k : Int) < xss.length
  · simp (maxSteps := 300000) (disch := omega) only [gs, gs2, gs3, gs4, ↓reduceIte, Nat.reduceEqDiff, Int.reduceToNat, Nat.reduceMul, Nat.reduceAdd, Nat.reduceBEq, isLd, e0, e1, e5, hkk, r]
    have := hn' k (by omega)
    refine laws_szInt64S_ok ⟨by omega, by omega⟩ this fun l' q1 q2 q3 => ?_
    simp (maxSteps := 300000) (disch := omega) only [gs, gs2, gs3, gs4, ↓reduceIte, Nat.reduceEqDiff, Int.reduceToNat, Nat.reduceMul, Nat.reduceAdd, Nat.reduceBEq, isLd, e0, e1, e5]
    by_cases h2 : l' < 0
    · simp (maxSteps := 300000) (disch := omega) only [gs, gs2, gs3, gs4, ↓reduceIte, Nat.reduceEqDiff, Int.reduceToNat, Nat.reduceMul, Nat.reduceAdd, Nat.reduceBEq, isLd, h2]; exact hk _ (by omega) (by omega) (by omega)
    · simp (maxSteps := 300000) (disch := omega) only [gs, gs2, gs3, gs4, ↓reduceIte, Nat.reduceEqDiff, Int.reduceToNat, Nat.reduceMul, Nat.reduceAdd, Nat.reduceBEq, isLd, h2, e0, e1, e5]
      have hp : pre xss (k + 1) = pre xss k + (xss.getD k []).length := rfl
      refine ⟨m - 1, by omega, _, Sub.refl _, k + 1, l', rfl, rfl, by omega, by omega, rfl, by omega, fun i hi => ?_⟩
      by_cases hik : i = k
      · subst hik; omega
      · exact hin i (by omega)
  · simp (maxSteps := 300000) (disch := omega) only [gs, gs2, gs3, gs4, ↓reduceIte, Nat.reduceEqDiff, Int.reduceToNat, Nat.reduceMul, Nat.reduceAdd, Nat.reduceBEq, isLd, e0, e1, e5, hkk]
    obtain rfl : k = xss.length := by omega
    exact hk _ (by omega) (by omega) fun _ => ⟨by omega, ⟨by omega, fun i hi => hin i (by omega)⟩, by omega⟩
theorem laws_toInt64SS_new {G : GH} {A : Option Addr} {c : Nat} {hs : Nat → Option Addr × Nat} {xss : List (List Int)} (h : RowS G A c hs xss) (hsm : Sm xss) {K : Value → GH → Prop}
    (hk : ∀ A' hs' G', Sub G G' → OwnR (rest G G') A' xss.length hs' xss → K (.slice A' xss.length xss.length) G') : GC Tryz.prog 96 [.slice A xss.length c] G K := by
  refine c_laws_toInt64SS_i (by simp) ?_
  have hsn := h.sn
  obtain ⟨hs1, hs2⟩ := hsm
  simp (maxSteps := 300000) (disch := omega) only [gs, gs2, gs3, gs4, ↓reduceIte, Nat.reduceEqDiff, Int.reduceToNat, Nat.reduceMul, Nat.reduceAdd, Nat.reduceBEq, isLd]
  refine ⟨xss.length, xss.length, rfl, rfl, Nat.le_refl _, by omega, by omega, fun b hb => ?_⟩
  simp (maxSteps := 300000) (disch := omega) only [gs, gs2, gs3, gs4, ↓reduceIte, Nat.reduceEqDiff, Int.reduceToNat, Nat.reduceMul, Nat.reduceAdd, Nat.reduceBEq, isLd]
  refine gLoop_intro (fun m T G' => ∃ (k : Nat) (bs : Nat → Nat), T 0 = .slice A xss.length c ∧ T 3 = .slice (some ⟨b, 0, none⟩) xss.length xss.length ∧ T 4 = .int .i64 k ∧ m + k = xss.length ∧ k ≤ xss.length ∧ Sub G G' ∧
    G' b = some ⟨(List.range k).map (fun i => Value.slice (some ⟨bs i, 0, none⟩) (xss.getD i []).length (xss.getD i []).length) ++ List.replicate (xss.length - k) (.slice none 0 0), true⟩ ∧ (∀ i, i < k → bs i ≠ b ∧ G (bs i) = none ∧ G' (bs i) = some ⟨(xss.getD i []).map I64, true⟩) ∧ ∀ i j, i < k → j < k → i ≠ j → bs i ≠ bs j)
    xss.length ⟨0, fun _ => 0, by simp (maxSteps := 300000) (disch := omega) only [gs, gs2, gs3, gs4, ↓reduceIte, Nat.reduceEqDiff, Int.reduceToNat, Nat.reduceMul, Nat.reduceAdd, Nat.reduceBEq, isLd], by simp (maxSteps := 300000) (disch := omega) only [gs, gs2, gs3, gs4, ↓reduceIte, Nat.reduceEqDiff, Int.reduceToNat, Nat.reduceMul, Nat.reduceAdd, Nat.reduceBEq, isLd], by simp (maxSteps := 300000) (disch := omega) only [gs, gs2, gs3, gs4, ↓reduceIte, Nat.reduceEqDiff, Int.reduceToNat, Nat.reduceMul, Nat.reduceAdd, Nat.reduceBEq, isLd] <;> rfl, by omega, by omega, Sub.put hb _, by rw [put_same, zc_one]; simp, fun i hi => by omega, fun i j hi => by omega⟩ ?_
  rintro m T G' ⟨k, bs, e0, e3, e4, hm, hkl, hS, hB, hR, hI⟩
  have hh := h.sub hS
  have r := hh.r
  simp (maxSteps := 300000) (disch := omega) only [gs, gs2, gs3, gs4, ↓reduceIte, Nat.reduceEqDiff, Int.reduceToNat, Nat.reduceMul, Nat.reduceAdd, Nat.reduceBEq, isLd, e0, e3, e4]
  by_cases hkk : (k : Int) < xss.length
  · simp (maxSteps := 300000) (disch := omega) only [gs, gs2, gs3, gs4, ↓reduceIte, Nat.reduceEqDiff, Int.reduceToNat, Nat.reduceMul, Nat.reduceAdd, Nat.reduceBEq, isLd, e0, e3, e4, hkk, r]
    refine laws_toInt64S_ok (hh.row k (by omega)) (hs2 k (by omega)) fun b2 hb2 => ?_
    have n2 : b ≠ b2 := fun e => by rw [e, hb2] at hB; cases hB
    simp (maxSteps := 300000) (disch := omega) only [gs, gs2, gs3, gs4, ↓reduceIte, Nat.reduceEqDiff, Int.reduceToNat, Nat.reduceMul, Nat.reduceAdd, Nat.reduceBEq, isLd, e0, e3, e4]
    refine st_one (by rw [put_ne _ _ n2]; exact hB) (by simp; omega) rfl ?_
    simp (maxSteps := 300000) (disch := omega) only [gs, gs2, gs3, gs4, ↓reduceIte, Nat.reduceEqDiff, Int.reduceToNat, Nat.reduceMul, Nat.reduceAdd, Nat.reduceBEq, isLd, e0, e3, e4]
    refine ⟨m - 1, by omega, _, Sub.refl _, k + 1, fun i => if i = k then b2 else bs i, rfl, by omega, by omega, (hS.trans (Sub.put hb2 _)).skip hb, ?_, fun i hi => ?_, fun i j hi hj hij => ?_⟩
    · rw [put_same]
      congr 2
      rw [List.set_append_right _ _ (by simp)]
      simp only [List.length_map, List.length_range, Nat.sub_self]
      rw [show xss.length - k = (xss.length - (k + 1)) + 1 by omega, List.replicate_succ, List.set_cons_zero, List.range_succ, List.map_append, List.append_assoc]
      congr 1
      · exact List.map_congr_left fun i hi => by rw [if_neg (by have := List.mem_range.1 hi; omega)]
      · simp
    · dsimp only
      by_cases hik : i = k
      · subst hik
        rw [if_pos rfl]
        exact ⟨fun e => n2 e.symm, hS.none hb2, by rw [put_ne _ _ (fun e => n2 e.symm)]; exact put_same _ _ _⟩
      · rw [if_neg hik]
        obtain ⟨q1, q0, q2⟩ := hR i (by omega)
        have q3 : bs i ≠ b2 := fun e => by rw [e, hb2] at q2; cases q2
        exact ⟨q1, q0, by rw [put_ne _ _ q1, put_ne _ _ q3]; exact q2⟩
    · have nb : ∀ i, i < k → bs i ≠ b2 := fun i hi e => by have := (hR i hi).2.2; rw [e, hb2] at this; cases this
      by_cases ci : i = k
      · have cj : ¬ j = k := fun e => hij (ci.trans e.symm)
        simp only [if_pos ci, if_neg cj]
        exact (nb j (by omega)).symm
      · by_cases cj : j = k
        · simp only [if_neg ci, if_pos cj]; exact nb i (by omega)
        · simp only [if_neg ci, if_neg cj]; exact hI i j (by omega) (by omega) hij
  · simp (maxSteps := 300000) (disch := omega) only [gs, gs2, gs3, gs4, ↓reduceIte, Nat.reduceEqDiff, Int.reduceToNat, Nat.reduceMul, Nat.reduceAdd, Nat.reduceBEq, isLd, e0, e3, e4, hkk]
    obtain rfl : k = xss.length := by omega
    refine hk _ (fun i => (some ⟨bs i, 0, none⟩, (xss.getD i []).length)) _ hS ⟨?_, fun i hi => ?_, fun i hi a b' ha hb' => by cases ha; cases hb'; exact (hR i hi).1, fun i j hi hj hij a b' ha hb' => by cases ha; cases hb'; exact hI i j hi hj hij⟩
    · refine .inr ⟨b, [], rfl, ?_, by simp, by simp, Nat.le_refl _⟩
      rw [List.append_nil]
      have := rest_some.2 ⟨hb, hB⟩
      rw [Nat.sub_self, List.replicate_zero, List.append_nil] at this
      exact this
    · refine .inr ⟨bs i, [], rfl, ?_, by simp, by simp, Nat.le_refl _⟩
      rw [List.append_nil]
      exact rest_some.2 (hR i hi).2
/-- how many numbers lie ahead of a matrix. -/
def preM (ms : List Mt) : Nat → Nat
  | 0 => 0
  | j + 1 => preM ms j + (ms.getD j m0).m.length
theorem mtC_oneF (M : Mt) (A : Option Addr) (k : Nat) : ∀ v ∈ mtC M A k, oneB v = true := by
  intro v hv; simp [mtC] at hv; rcases hv with rfl | rfl | rfl | rfl <;> rfl
theorem laws_szMatrix_ok {G : GH} {M : Mt} {A : Option Addr} {c : Nat} {left : Int} (h0 : 0 ≤ left ∧ left ≤ 2 ^ 20) (hn : M.m.length ≤ 2 ^ 63 - 1) {K : Value → GH → Prop}
    (hk : ∀ l : Int, -1 ≤ l → l ≤ 2 ^ 20 → (0 ≤ l → l + M.m.length ≤ left) → K (.int .i64 l) G) : GC Tryz.prog 90 [mtV M A c, .int .i64 left] G K := by
  refine GC_drop (c_laws_szMatrix_i (by simp) ?_)
  unfold mtV mtC
  simp (maxSteps := 300000) (disch := omega) only [gs, gs2, gs3, gs4, ↓reduceIte, Nat.reduceEqDiff, Int.reduceToNat, Nat.reduceMul, Nat.reduceAdd, Nat.reduceBEq, isLd]
  intro b1 hb1
  have s1 := Sub.put hb1 ⟨[.int .i64 M.p, .int .i64 M.r, .int .i64 M.c, .slice A M.m.length c], true⟩
  simp (maxSteps := 300000) (disch := omega) only [gs, gs2, gs3, gs4, ↓reduceIte, Nat.reduceEqDiff, Int.reduceToNat, Nat.reduceMul, Nat.reduceAdd, Nat.reduceBEq, isLd]
  refine laws_szInt64S_ok ⟨by omega, by omega⟩ hn fun l q1 q2 q3 => ?_
  simp (maxSteps := 300000) (disch := omega) only [gs, gs2, gs3, gs4, ↓reduceIte, Nat.reduceEqDiff, Int.reduceToNat, Nat.reduceMul, Nat.reduceAdd, Nat.reduceBEq, isLd]
  by_cases h1 : l < 0
  · simp (maxSteps := 300000) (disch := omega) only [gs, gs2, gs3, gs4, ↓reduceIte, Nat.reduceEqDiff, Int.reduceToNat, Nat.reduceMul, Nat.reduceAdd, Nat.reduceBEq, isLd, h1]; exact ⟨G, s1, hk _ (by omega) (by omega) (by omega)⟩
  simp (maxSteps := 300000) (disch := omega) only [gs, gs2, gs3, gs4, ↓reduceIte, Nat.reduceEqDiff, Int.reduceToNat, Nat.reduceMul, Nat.reduceAdd, Nat.reduceBEq, isLd, h1]
  exact ⟨G, s1, hk _ (by omega) (by omega) fun _ => by have := q3 (by omega); omega⟩
theorem laws_szMatrixS_ok {G : GH} {A : Option Addr} {c : Nat} {Hm : Nat → Option Addr × Nat} {ms : List Mt} {left : Int} (h : MsS G A c Hm ms) (h0 : 0 ≤ left ∧ left ≤ 2 ^ 20) (hn : ms.length ≤ 2 ^ 63 - 1) (hn' : ∀ i, i < ms.length → (ms.getD i m0).m.length ≤ 2 ^ 63 - 1) {K : Value → GH → Prop}
    (hk : ∀ l : Int, -1 ≤ l → l ≤ 2 ^ 20 → (0 ≤ l → ms.length ≤ 2 ^ 20 ∧ preM ms ms.length ≤ 2 ^ 20 ∧ ∀ i, i < ms.length → (ms.getD i m0).m.length ≤ 2 ^ 20) → K (.int .i64 l) G) : GC Tryz.prog 44 [.slice A ms.length c, .int .i64 left] G K := by
  refine c_laws_szMatrixS_i (by simp) ?_
  have hsn := h.sn
  have r0 := h.r0
  have r1 := h.r1
  have r2 := h.r2
  have r3 := h.r3
  simp (maxSteps := 300000) (disch := omega) only [gs, gs2, gs3, gs4, ↓reduceIte, Nat.reduceEqDiff, Int.reduceToNat, Nat.reduceMul, Nat.reduceAdd, Nat.reduceBEq, isLd]
  by_cases h1 : left - (ms.length : Int) < 0
  · simp (maxSteps := 300000) (disch := omega) only [gs, gs2, gs3, gs4, ↓reduceIte, Nat.reduceEqDiff, Int.reduceToNat, Nat.reduceMul, Nat.reduceAdd, Nat.reduceBEq, isLd, h1]; exact hk _ (by omega) (by omega) (by omega)
  simp (maxSteps := 300000) (disch := omega) only [gs, gs2, gs3, gs4, ↓reduceIte, Nat.reduceEqDiff, Int.reduceToNat, Nat.reduceMul, Nat.reduceAdd, Nat.reduceBEq, isLd, h1]
  refine gLoop_intro (fun m T G' => ∃ (k : Nat) (l : Int), T 0 = .slice A ms.length c ∧ T 1 = .int .i64 l ∧ T 5 = .int .i64 k ∧ m + k = ms.length ∧ k ≤ ms.length ∧ G' = G ∧ (0 ≤ l ∧ l + preM ms k ≤ left) ∧ ∀ i, i < k → (ms.getD i m0).m.length ≤ 2 ^ 20)
    ms.length ⟨0, _, by simp (maxSteps := 300000) (disch := omega) only [gs, gs2, gs3, gs4, ↓reduceIte, Nat.reduceEqDiff, Int.reduceToNat, Nat.reduceMul, Nat.reduceAdd, Nat.reduceBEq, isLd], by simp (maxSteps := 300000) (disch := omega) only [gs, gs2, gs3, gs4, ↓reduceIte, Nat.reduceEqDiff, Int.reduceToNat, Nat.reduceMul, Nat.reduceAdd, Nat.reduceBEq, isLd] <;> rfl, by simp (maxSteps := 300000) (disch := omega) only [gs, gs2, gs3, gs4, ↓reduceIte, Nat.reduceEqDiff, Int.reduceToNat, Nat.reduceMul, Nat.reduceAdd, Nat.reduceBEq, isLd] <;> rfl, by omega, by omega, rfl, by simp only [preM]; omega, fun i hi => by omega⟩ ?_
  rintro m T G' ⟨k, l, e0, e1, e5, hm, hkl, rfl, hl, hin⟩
  simp (maxSteps := 300000) (disch := omega) only [gs, gs2, gs3, gs4, ↓reduceIte, Nat.reduceEqDiff, Int.reduceToNat, Nat.reduceMul, Nat.reduceAdd, Nat.reduceBEq, isLd, e0, e1, e5]
  by_cases hkk : (k : Int) < ms.length
  · simp (maxSteps := 300000) (disch := omega) only [gs, gs2, gs3, gs4, ↓reduceIte, Nat.reduceEqDiff, Int.reduceToNat, Nat.reduceMul, Nat.reduceAdd, Nat.reduceBEq, isLd, e0, e1, e5, hkk, r0, r1, r2, r3]
    refine laws_szMatrix_ok (M := ms.getD k m0) ⟨by omega, by omega⟩ (hn' k (by omega)) fun l' q1 q2 q3 => ?_
    simp (maxSteps := 300000) (disch := omega) only [gs, gs2, gs3, gs4, ↓reduceIte, Nat.reduceEqDiff, Int.reduceToNat, Nat.reduceMul, Nat.reduceAdd, Nat.reduceBEq, isLd, e0, e1, e5]
    by_cases h2 : l' < 0
    · simp (maxSteps := 300000) (disch := omega) only [gs, gs2, gs3, gs4, ↓reduceIte, Nat.reduceEqDiff, Int.reduceToNat, Nat.reduceMul, Nat.reduceAdd, Nat.reduceBEq, isLd, h2]; exact hk _ (by omega) (by omega) (by omega)
    · simp (maxSteps := 300000) (disch := omega) only [gs, gs2, gs3, gs4, ↓reduceIte, Nat.reduceEqDiff, Int.reduceToNat, Nat.reduceMul, Nat.reduceAdd, Nat.reduceBEq, isLd, h2, e0, e1, e5]
      have q4 := q3 (by omega)
      have hp : preM ms (k + 1) = preM ms k + (ms.getD k m0).m.length := rfl
      refine ⟨m - 1, by omega, _, Sub.refl _, k + 1, l', rfl, rfl, by omega, by omega, rfl, by omega, fun i hi => ?_⟩
      by_cases hik : i = k
      · subst hik; omega
      · exact hin i (by omega)
  · simp (maxSteps := 300000) (disch := omega) only [gs, gs2, gs3, gs4, ↓reduceIte, Nat.reduceEqDiff, Int.reduceToNat, Nat.reduceMul, Nat.reduceAdd, Nat.reduceBEq, isLd, e0, e1, e5, hkk]
    obtain rfl : k = ms.length := by omega
    exact hk _ (by omega) (by omega) fun _ => ⟨by omega, by omega, fun i hi => hin i (by omega)⟩
theorem laws_toMatrix_new {G : GH} {M : Mt} {A : Option Addr} {c : Nat} (h : IntS G A c M.m) (hl : M.m.length ≤ 2 ^ 20) {K : Value → GH → Prop}
    (hk : ∀ b, G b = none → K (mtV M (some ⟨b, 0, none⟩) M.m.length) (put G b ⟨M.m.map I64, true⟩)) : GC Tryz.prog 97 [mtV M A c] G K := by
  refine GC_drop (c_laws_toMatrix_i (by simp) ?_)
  unfold mtV mtC
  simp (maxSteps := 300000) (disch := omega) only [gs, gs2, gs3, gs4, ↓reduceIte, Nat.reduceEqDiff, Int.reduceToNat, Nat.reduceMul, Nat.reduceAdd, Nat.reduceBEq, isLd]
  intro b1 hb1
  simp (maxSteps := 300000) (disch := omega) only [gs, gs2, gs3, gs4, ↓reduceIte, Nat.reduceEqDiff, Int.reduceToNat, Nat.reduceMul, Nat.reduceAdd, Nat.reduceBEq, isLd]
  intro b2 hb2
  simp (maxSteps := 300000) (disch := omega) only [gs, gs2, gs3, gs4, ↓reduceIte, Nat.reduceEqDiff, Int.reduceToNat, Nat.reduceMul, Nat.reduceAdd, Nat.reduceBEq, isLd]
  intro b3 hb3
  simp only [put_none] at hb2 hb3
  obtain ⟨n12, f2⟩ := hb2
  obtain ⟨n23, n13, f3⟩ := hb3
  simp (maxSteps := 300000) (disch := omega) only [gs, gs2, gs3, gs4, ↓reduceIte, Nat.reduceEqDiff, Int.reduceToNat, Nat.reduceMul, Nat.reduceAdd, Nat.reduceBEq, isLd]
  refine st_one (put_same _ _ _) (by simp) rfl ?_
  simp (maxSteps := 300000) (disch := omega) only [gs, gs2, gs3, gs4, ↓reduceIte, Nat.reduceEqDiff, Int.reduceToNat, Nat.reduceMul, Nat.reduceAdd, Nat.reduceBEq, isLd]
  refine st_one (put_same _ _ _) (by simp) rfl ?_
  simp (maxSteps := 300000) (disch := omega) only [gs, gs2, gs3, gs4, ↓reduceIte, Nat.reduceEqDiff, Int.reduceToNat, Nat.reduceMul, Nat.reduceAdd, Nat.reduceBEq, isLd]
  refine st_one (put_same _ _ _) (by simp) rfl ?_
  simp (maxSteps := 300000) (disch := omega) only [gs, gs2, gs3, gs4, ↓reduceIte, Nat.reduceEqDiff, Int.reduceToNat, Nat.reduceMul, Nat.reduceAdd, Nat.reduceBEq, isLd]
  refine laws_toInt64S_ok (h.sub ((((Sub.refl G).skip hb1).skip f2).skip f3)) hl fun b4 hb4 => ?_
  simp only [put_none] at hb4
  obtain ⟨n34, n24, n14, f4⟩ := hb4
  simp (maxSteps := 300000) (disch := omega) only [gs, gs2, gs3, gs4, ↓reduceIte, Nat.reduceEqDiff, Int.reduceToNat, Nat.reduceMul, Nat.reduceAdd, Nat.reduceBEq, isLd]
  refine st_one (by rw [put_ne _ _ (by omega)]; exact put_same _ _ _) (by simp) rfl ?_
  simp (maxSteps := 300000) (disch := omega) only [gs, gs2, gs3, gs4, ↓reduceIte, Nat.reduceEqDiff, Int.reduceToNat, Nat.reduceMul, Nat.reduceAdd, Nat.reduceBEq, isLd]
  refine st_many (vs := mtC M (some ⟨b4, 0, none⟩) M.m.length) rfl (by rw [put_ne _ _ (by omega), put_ne _ _ (by omega), put_ne _ _ (by omega)]; exact put_same _ _ _) rfl (by simp) (mtC_oneF _ _ _) ?_
  simp (maxSteps := 300000) (disch := omega) only [gs, gs2, gs3, gs4, ↓reduceIte, Nat.reduceEqDiff, Int.reduceToNat, Nat.reduceMul, Nat.reduceAdd, Nat.reduceBEq, isLd, over, mtC]
  refine ⟨_, ?_, hk b4 f4⟩
  refine Sub.skip (Sub.skip (Sub.both ((((Sub.refl G).skip hb1).skip f2).skip f3)) ?_) ?_
  · rw [put_none]; exact ⟨by omega, f3⟩
  · rw [put_none]; exact ⟨by omega, f2⟩
theorem laws_eqMatrix_ok {G : GH} {M : Mt} {A B : Option Addr} {c d : Nat} (h : IntS G A c M.m) (h' : IntS G B d M.m) (hl : M.m.length < 2 ^ 40) {K : Value → GH → Prop} (hk : K (.bool true) G) : GC Tryz.prog 107 [mtV M A c, mtV M B d] G K := by
  refine GC_drop (c_laws_eqMatrix_i (by simp) ?_)
  unfold mtV mtC
  simp (maxSteps := 300000) (disch := omega) only [gs, gs2, gs3, gs4, ↓reduceIte, Nat.reduceEqDiff, Int.reduceToNat, Nat.reduceMul, Nat.reduceAdd, Nat.reduceBEq, isLd]
  intro b1 hb1
  simp (maxSteps := 300000) (disch := omega) only [gs, gs2, gs3, gs4, ↓reduceIte, Nat.reduceEqDiff, Int.reduceToNat, Nat.reduceMul, Nat.reduceAdd, Nat.reduceBEq, isLd]
  intro b2 hb2
  simp only [put_none] at hb2
  obtain ⟨n12, f2⟩ := hb2
  have hs := ((Sub.refl G).skip hb1 (e := ⟨[.int .i64 M.p, .int .i64 M.r, .int .i64 M.c, .slice A M.m.length c], true⟩)).skip f2 (e := ⟨[.int .i64 M.p, .int .i64 M.r, .int .i64 M.c, .slice B M.m.length d], true⟩)
  have t0 : decide (¬ M.p = M.p) = false := by simp
  have t1 : decide (¬ M.r = M.r) = false := by simp
  have t2 : decide (¬ M.c = M.c) = false := by simp
  simp (maxSteps := 300000) (disch := omega) only [gs, gs2, gs3, gs4, ↓reduceIte, Nat.reduceEqDiff, Int.reduceToNat, Nat.reduceMul, Nat.reduceAdd, Nat.reduceBEq, isLd, t0, t1, t2]
  refine laws_eqInt64S_ok (h.sub hs) (h'.sub hs) hl ?_
  simp (maxSteps := 300000) (disch := omega) only [gs, gs2, gs3, gs4, ↓reduceIte, Nat.reduceEqDiff, Int.reduceToNat, Nat.reduceMul, Nat.reduceAdd, Nat.reduceBEq, isLd, eq_self]
  exact ⟨G, hs, hk⟩
theorem laws_eqMatrixS_ok {G : GH} {A B : Option Addr} {c d : Nat} {Ha Hb : Nat → Option Addr × Nat} {ms : List Mt} (h : MsS G A c Ha ms) (h' : MsS G B d Hb ms) (hn : ms.length ≤ 2 ^ 40) (hn' : ∀ i, i < ms.length → (ms.getD i m0).m.length ≤ 2 ^ 20) {K : Value → GH → Prop} (hk : K (.bool true) G) : GC Tryz.prog 52 [.slice A ms.length c, .slice B ms.length d] G K := by
  refine c_laws_eqMatrixS_i (by simp) ?_
  have hsn := h.sn
  have hsn' := h'.sn
  have r0 := h.r0
  have r1 := h.r1
  have r2 := h.r2
  have r3 := h.r3
  have u0 := h'.r0
  have u1 := h'.r1
  have u2 := h'.r2
  have u3 := h'.r3
  have t0 : decide (¬ (ms.length : Int) = ms.length) = false := by simp
  simp (maxSteps := 300000) (disch := omega) only [gs, gs2, gs3, gs4, ↓reduceIte, Nat.reduceEqDiff, Int.reduceToNat, Nat.reduceMul, Nat.reduceAdd, Nat.reduceBEq, isLd, t0]
  refine gLoop_intro (fun m T G' => ∃ k : Nat, T 0 = .slice A ms.length c ∧ T 1 = .slice B ms.length d ∧ T 5 = .int .i64 k ∧ m + k = ms.length ∧ k ≤ ms.length ∧ G' = G)
    ms.length ⟨0, by simp (maxSteps := 300000) (disch := omega) only [gs, gs2, gs3, gs4, ↓reduceIte, Nat.reduceEqDiff, Int.reduceToNat, Nat.reduceMul, Nat.reduceAdd, Nat.reduceBEq, isLd], by simp (maxSteps := 300000) (disch := omega) only [gs, gs2, gs3, gs4, ↓reduceIte, Nat.reduceEqDiff, Int.reduceToNat, Nat.reduceMul, Nat.reduceAdd, Nat.reduceBEq, isLd], by simp (maxSteps := 300000) (disch := omega) only [gs, gs2, gs3, gs4, ↓reduceIte, Nat.reduceEqDiff, Int.reduceToNat, Nat.reduceMul, Nat.reduceAdd, Nat.reduceBEq, isLd] <;> rfl, by omega, by omega, rfl⟩ ?_
  rintro m T G' ⟨k, e0, e1, e5, hm, hkl, rfl⟩
  simp (maxSteps := 300000) (disch := omega) only [gs, gs2, gs3, gs4, ↓reduceIte, Nat.reduceEqDiff, Int.reduceToNat, Nat.reduceMul, Nat.reduceAdd, Nat.reduceBEq, isLd, e0, e1, e5]
  by_cases hkk : (k : Int) < ms.length
  · simp (maxSteps := 300000) (disch := omega) only [gs, gs2, gs3, gs4, ↓reduceIte, Nat.reduceEqDiff, Int.reduceToNat, Nat.reduceMul, Nat.reduceAdd, Nat.reduceBEq, isLd, e0, e1, e5, hkk, r0, r1, r2, r3, u0, u1, u2, u3]
    have := hn' k (by omega)
    refine laws_eqMatrix_ok (M := ms.getD k m0) (h.m k (by omega)) (h'.m k (by omega)) (by omega) ?_
    simp (maxSteps := 300000) (disch := omega) only [gs, gs2, gs3, gs4, ↓reduceIte, Nat.reduceEqDiff, Int.reduceToNat, Nat.reduceMul, Nat.reduceAdd, Nat.reduceBEq, isLd, e0, e1, e5]
    exact ⟨m - 1, by omega, _, Sub.refl _, k + 1, rfl, by omega, by omega, rfl⟩
  · simp (maxSteps := 300000) (disch := omega) only [gs, gs2, gs3, gs4, ↓reduceIte, Nat.reduceEqDiff, Int.reduceToNat, Nat.reduceMul, Nat.reduceAdd, Nat.reduceBEq, isLd, e0, e1, e5, hkk]
    exact hk
def cellsM (H : Nat → Option Addr × Nat) (ms : List Mt) : List Value := (List.range ms.length).flatMap fun i => mtC (ms.getD i m0) (H i).1 (H i).2
theorem cellsG_len (f : Nat → List Value) (hf : ∀ i, (f i).length = 4) : ∀ n, ((List.range n).flatMap f).length = n * 4
  | 0 => rfl
  | n + 1 => by rw [List.range_succ, List.flatMap_append, List.length_append, cellsG_len f hf n]; simp [hf]; omega
theorem cellsG_get (f : Nat → List Value) (hf : ∀ i, (f i).length = 4) : ∀ n i k, i < n → k < 4 → ((List.range n).flatMap f)[i * 4 + k]? = (f i)[k]?
  | 0, i, k, h, _ => by omega
  | n + 1, i, k, h, hk => by
    rw [List.range_succ, List.flatMap_append]
    by_cases hin : i = n
    · subst hin
      rw [List.getElem?_append_right (by rw [cellsG_len f hf]; omega), cellsG_len f hf]
      simp only [List.flatMap_cons, List.flatMap_nil, List.append_nil]
      congr 1; omega
    · rw [List.getElem?_append_left (by rw [cellsG_len f hf]; omega)]
      exact cellsG_get f hf n i k (by omega) hk
theorem cellsM_len (H : Nat → Option Addr × Nat) (ms : List Mt) : (cellsM H ms).length = ms.length * 4 := cellsG_len _ (fun _ => rfl) _
theorem cellsM_at {H : Nat → Option Addr × Nat} {ms : List Mt} {i k : Nat} (hi : i < ms.length) (hk : k < 4) : (cellsM H ms)[i * 4 + k]? = (mtC (ms.getD i m0) (H i).1 (H i).2)[k]? := cellsG_get _ (fun _ => rfl) _ i k hi hk
/-- a list of matrices, each with cells of its own. -/
structure OwnMS (G : GH) (A : Option Addr) (c : Nat) (H : Nat → Option Addr × Nat) (ms : List Mt) : Prop where
  out : Own G A c (cellsM H ms) 4 ms.length
  cel : ∀ i, i < ms.length → Own G (H i).1 (H i).2 ((ms.getD i m0).m.map I64) 1 (ms.getD i m0).m.length
  ne : ∀ i, i < ms.length → ∀ a b, (H i).1 = some a → A = some b → a.block ≠ b.block
  inj : ∀ i j, i < ms.length → j < ms.length → i ≠ j → ∀ a b, (H i).1 = some a → (H j).1 = some b → a.block ≠ b.block
theorem OwnMS.sub {G G' : GH} {A : Option Addr} {c : Nat} {H : Nat → Option Addr × Nat} {ms : List Mt} (h : OwnMS G A c H ms) (s : Sub G G') : OwnMS G' A c H ms := ⟨h.out.sub s, fun i hi => (h.cel i hi).sub s, h.ne, h.inj⟩
theorem OwnMS.mss {G : GH} {A : Option Addr} {c : Nat} {H : Nat → Option Addr × Nat} {ms : List Mt} (h : OwnMS G A c H ms) : MsS G A c H ms := by
  have k : ∀ i k, i < ms.length → k < 4 → ∀ v, (mtC (ms.getD i m0) (H i).1 (H i).2)[k]? = some v → rd G (pa A (i * 4 + k)) = some v := fun i k hi hk v hv => h.out.cells _ _ (by rw [cellsM_at hi hk]; exact hv)
  exact ⟨h.out.cap, fun i hi => k i 0 hi (by omega) _ rfl, fun i hi => k i 1 hi (by omega) _ rfl, fun i hi => k i 2 hi (by omega) _ rfl, fun i hi => k i 3 hi (by omega) _ rfl, fun i hi => (h.cel i hi).ints⟩
/-- the blocks of a list of lists, of a list. -/
def lB (A : Option Addr) (hs : Nat → Option Addr × Nat) (n : Nat) : Nat → Prop := fun x => (∃ a, A = some a ∧ a.block = x) ∨ rowB hs n x
def sB (S : Option Addr) : Nat → Prop := fun x => ∃ a, S = some a ∧ a.block = x
theorem OwnMS.on {G : GH} {A : Option Addr} {c : Nat} {H : Nat → Option Addr × Nat} {ms : List Mt} (h : OwnMS G A c H ms) : ∀ x, lB A H ms.length x → G x ≠ none := by
  rintro x (⟨a, ha, rfl⟩ | ⟨i, hi, a, ha, rfl⟩)
  · exact own_ne h.out a ha
  · exact own_ne (h.cel i hi) a ha
theorem OwnR.on {G : GH} {A : Option Addr} {c : Nat} {H : Nat → Option Addr × Nat} {ms : List (List Int)} (h : OwnR G A c H ms) : ∀ x, lB A H ms.length x → G x ≠ none := by
  rintro x (⟨a, ha, rfl⟩ | ⟨i, hi, a, ha, rfl⟩)
  · exact own_ne h.out a ha
  · exact own_ne (h.row i hi) a ha
theorem Own.on {G : GH} {A : Option Addr} {c sz n : Nat} {cs : List Value} (h : Own G A c cs sz n) : ∀ x, sB A x → G x ≠ none := by
  rintro x ⟨a, ha, rfl⟩; exact own_ne h a ha
theorem on_rest {G G' : GH} {x : Nat} (h : rest G G' x ≠ none) : G x = none := by
  cases hr : rest G G' x with
  | none => exact absurd hr h
  | some e => exact (rest_some.1 hr).1
theorem OwnMS.oth {G G' : GH} {S : Nat → Prop} {A : Option Addr} {c : Nat} {H : Nat → Option Addr × Nat} {ms : List Mt} (h : OwnMS G A c H ms) (u : Oth S G G') (o : ∀ x, lB A H ms.length x → ¬ S x) : OwnMS G' A c H ms :=
  ⟨h.out.oth u fun a ha => o _ (.inl ⟨a, ha, rfl⟩), fun i hi => (h.cel i hi).oth u fun a ha => o _ (.inr ⟨i, hi, a, ha, rfl⟩), h.ne, h.inj⟩
theorem OwnMS.rest {G G' : GH} {A : Option Addr} {c : Nat} {H : Nat → Option Addr × Nat} {ms : List Mt} (h : OwnMS G' A c H ms) (o : ∀ x, lB A H ms.length x → G x = none) : OwnMS (Gh.rest G G') A c H ms :=
  ⟨h.out.rest fun a ha => o _ (.inl ⟨a, ha, rfl⟩), fun i hi => (h.cel i hi).rest fun a ha => o _ (.inr ⟨i, hi, a, ha, rfl⟩), h.ne, h.inj⟩
theorem laws_toMatrixS_new {G : GH} {A : Option Addr} {c : Nat} {Hm : Nat → Option Addr × Nat} {ms : List Mt} (h : MsS G A c Hm ms) (hn : ms.length ≤ 2 ^ 20) (hn' : ∀ i, i < ms.length → (ms.getD i m0).m.length ≤ 2 ^ 20) {K : Value → GH → Prop}
    (hk : ∀ A' H' G', Sub G G' → OwnMS (rest G G') A' ms.length H' ms → K (.slice A' ms.length ms.length) G') : GC Tryz.prog 48 [.slice A ms.length c] G K := by
  refine c_laws_toMatrixS_i (by simp) ?_
  have hsn := h.sn
  simp (maxSteps := 300000) (disch := omega) only [gs, gs2, gs3, gs4, ↓reduceIte, Nat.reduceEqDiff, Int.reduceToNat, Nat.reduceMul, Nat.reduceAdd, Nat.reduceBEq, isLd]
  refine ⟨ms.length, ms.length, rfl, rfl, Nat.le_refl _, by omega, by omega, fun b hb => ?_⟩
  simp (maxSteps := 300000) (disch := omega) only [gs, gs2, gs3, gs4, ↓reduceIte, Nat.reduceEqDiff, Int.reduceToNat, Nat.reduceMul, Nat.reduceAdd, Nat.reduceBEq, isLd]
  have hfl : ∀ (bs : Nat → Nat) j, ((List.range j).flatMap (fun i => mtC (ms.getD i m0) (some ⟨bs i, 0, none⟩) (ms.getD i m0).m.length)).length = j * 4 := fun bs j => cellsG_len _ (fun _ => rfl) j
  refine gLoop_intro (fun m T G' => ∃ (k : Nat) (bs : Nat → Nat) (z : List Value), T 0 = .slice A ms.length c ∧ T 3 = .slice (some ⟨b, 0, none⟩) ms.length ms.length ∧ T 4 = .int .i64 k ∧ m + k = ms.length ∧ k ≤ ms.length ∧ Sub G G' ∧
    G' b = some ⟨((List.range k).flatMap (fun i => mtC (ms.getD i m0) (some ⟨bs i, 0, none⟩) (ms.getD i m0).m.length)) ++ z, true⟩ ∧ z.length = (ms.length - k) * 4 ∧
    (∀ i, i < k → bs i ≠ b ∧ G (bs i) = none ∧ G' (bs i) = some ⟨(ms.getD i m0).m.map I64, true⟩) ∧ ∀ i j, i < k → j < k → i ≠ j → bs i ≠ bs j)
    ms.length ⟨0, fun _ => 0, _, by simp (maxSteps := 300000) (disch := omega) only [gs, gs2, gs3, gs4, ↓reduceIte, Nat.reduceEqDiff, Int.reduceToNat, Nat.reduceMul, Nat.reduceAdd, Nat.reduceBEq, isLd], by simp (maxSteps := 300000) (disch := omega) only [gs, gs2, gs3, gs4, ↓reduceIte, Nat.reduceEqDiff, Int.reduceToNat, Nat.reduceMul, Nat.reduceAdd, Nat.reduceBEq, isLd], by simp (maxSteps := 300000) (disch := omega) only [gs, gs2, gs3, gs4, ↓reduceIte, Nat.reduceEqDiff, Int.reduceToNat, Nat.reduceMul, Nat.reduceAdd, Nat.reduceBEq, isLd] <;> rfl, by omega, by omega, Sub.put hb _, put_same _ _ _, by simp [zc], fun i hi => by omega, fun i j hi => by omega⟩ ?_
  rintro m T G' ⟨k, bs, z, e0, e3, e4, hm, hkl, hS, hBl, hz, hR, hI⟩
  have hh := h.sub hS
  have r0 := hh.r0
  have r1 := hh.r1
  have r2 := hh.r2
  have r3 := hh.r3
  simp (maxSteps := 300000) (disch := omega) only [gs, gs2, gs3, gs4, ↓reduceIte, Nat.reduceEqDiff, Int.reduceToNat, Nat.reduceMul, Nat.reduceAdd, Nat.reduceBEq, isLd, e0, e3, e4]
  by_cases hkk : (k : Int) < ms.length
  · simp (maxSteps := 300000) (disch := omega) only [gs, gs2, gs3, gs4, ↓reduceIte, Nat.reduceEqDiff, Int.reduceToNat, Nat.reduceMul, Nat.reduceAdd, Nat.reduceBEq, isLd, e0, e3, e4, hkk, r0, r1, r2, r3]
    refine laws_toMatrix_new (M := ms.getD k m0) (hh.m k (by omega)) (hn' k (by omega)) fun b2 hb2 => ?_
    have n2 : b ≠ b2 := fun e => by rw [e, hb2] at hBl; cases hBl
    have hB2 := Sub.put hb2 ⟨(ms.getD k m0).m.map I64, true⟩ _ _ hBl
    unfold mtV mtC
    simp (maxSteps := 300000) (disch := omega) only [gs, gs2, gs3, gs4, ↓reduceIte, Nat.reduceEqDiff, Int.reduceToNat, Nat.reduceMul, Nat.reduceAdd, Nat.reduceBEq, isLd, e0, e3, e4]
    refine st_many (vs := mtC (ms.getD k m0) (some ⟨b2, 0, none⟩) (ms.getD k m0).m.length) rfl hB2 rfl (by rw [List.length_append, hfl, hz]; omega) (mtC_oneF _ _ _) ?_
    simp (maxSteps := 300000) (disch := omega) only [gs, gs2, gs3, gs4, ↓reduceIte, Nat.reduceEqDiff, Int.reduceToNat, Nat.reduceMul, Nat.reduceAdd, Nat.reduceBEq, isLd, e0, e3, e4]
    refine ⟨m - 1, by omega, _, Sub.refl _, k + 1, fun i => if i = k then b2 else bs i, z.drop 4, rfl, by omega, by omega, (hS.trans (Sub.put hb2 _)).skip hb, ?_, by rw [List.length_drop, hz]; omega, fun i hi => ?_, fun i j hi hj hij => ?_⟩
    · rw [put_same]
      congr 2
      have := over_app (mtC (ms.getD k m0) (some ⟨b2, 0, none⟩) (ms.getD k m0).m.length) ((List.range k).flatMap (fun i => mtC (ms.getD i m0) (some ⟨bs i, 0, none⟩) (ms.getD i m0).m.length)) z
      rw [hfl] at this
      rw [this, if_pos (by rw [hz]; simp only [mtC, List.length_cons, List.length_nil]; omega), List.range_succ, List.flatMap_append]
      congr 1
      congr 1
      · exact flatMap_cong fun i hi => by have := List.mem_range.1 hi; simp only [if_neg (show ¬ i = k by omega), mtC]
      · simp [mtC]
    · dsimp only
      by_cases hik : i = k
      · subst hik
        rw [if_pos rfl]
        exact ⟨fun e => n2 e.symm, hS.none hb2, by rw [put_ne _ _ (fun e => n2 e.symm)]; exact put_same _ _ _⟩
      · rw [if_neg hik]
        obtain ⟨q1, q0, q2⟩ := hR i (by omega)
        have q3 : bs i ≠ b2 := fun e => by rw [e, hb2] at q2; cases q2
        exact ⟨q1, q0, by rw [put_ne _ _ q1, put_ne _ _ q3]; exact q2⟩
    · have nb : ∀ i, i < k → bs i ≠ b2 := fun i hi e => by have := (hR i hi).2.2; rw [e, hb2] at this; cases this
      by_cases ci : i = k
      · have cj : ¬ j = k := fun e => hij (ci.trans e.symm)
        simp only [if_pos ci, if_neg cj]
        exact (nb j (by omega)).symm
      · by_cases cj : j = k
        · simp only [if_neg ci, if_pos cj]; exact nb i (by omega)
        · simp only [if_neg ci, if_neg cj]; exact hI i j (by omega) (by omega) hij
  · simp (maxSteps := 300000) (disch := omega) only [gs, gs2, gs3, gs4, ↓reduceIte, Nat.reduceEqDiff, Int.reduceToNat, Nat.reduceMul, Nat.reduceAdd, Nat.reduceBEq, isLd, e0, e3, e4, hkk]
    obtain rfl : k = ms.length := by omega
    rw [Nat.sub_self, Nat.zero_mul] at hz
    obtain rfl := List.length_eq_zero_iff.1 hz
    rw [List.append_nil] at hBl
    refine hk _ (fun i => (some ⟨bs i, 0, none⟩, (ms.getD i m0).m.length)) _ hS ⟨?_, fun i hi => ?_, fun i hi a b' ha hb' => by cases ha; cases hb'; exact (hR i hi).1, fun i j hi hj hij a b' ha hb' => by cases ha; cases hb'; exact hI i j hi hj hij⟩
    · refine .inr ⟨b, [], rfl, ?_, cellsM_len _ _, by rw [List.append_nil]; exact cellsM_len _ _, Nat.le_refl _⟩
      rw [List.append_nil]
      exact rest_some.2 ⟨hb, hBl⟩
    · refine .inr ⟨bs i, [], rfl, ?_, by simp, by simp, Nat.le_refl _⟩
      rw [List.append_nil]
      exact rest_some.2 (hR i hi).2
theorem laws_toComplex_new {G : GH} {A : Option Addr} {c : Nat} {hs : Nat → Option Addr × Nat} {xss : List (List Int)} (h : RowS G A c hs xss) (hsm : Sm xss) {K : Value → GH → Prop}
    (hk : ∀ A' hs' G', Sub G G' → OwnR (rest G G') A' xss.length hs' xss → K (cxV A' xss.length xss.length) G') : GC Tryz.prog 47 [cxV A xss.length c] G K := by
  refine c_laws_toComplex_i (by simp) ?_
  unfold cxV
  simp (maxSteps := 300000) (disch := omega) only [gs, gs2, gs3, gs4, ↓reduceIte, Nat.reduceEqDiff, Int.reduceToNat, Nat.reduceMul, Nat.reduceAdd, Nat.reduceBEq, isLd]
  intro b1 hb1
  simp (maxSteps := 300000) (disch := omega) only [gs, gs2, gs3, gs4, ↓reduceIte, Nat.reduceEqDiff, Int.reduceToNat, Nat.reduceMul, Nat.reduceAdd, Nat.reduceBEq, isLd]
  intro b2 hb2
  simp (maxSteps := 300000) (disch := omega) only [gs, gs2, gs3, gs4, ↓reduceIte, Nat.reduceEqDiff, Int.reduceToNat, Nat.reduceMul, Nat.reduceAdd, Nat.reduceBEq, isLd]
  intro b3 hb3
  simp only [put_none] at hb2 hb3
  obtain ⟨n12, f2⟩ := hb2
  obtain ⟨n23, n13, f3⟩ := hb3
  simp (maxSteps := 300000) (disch := omega) only [gs, gs2, gs3, gs4, ↓reduceIte, Nat.reduceEqDiff, Int.reduceToNat, Nat.reduceMul, Nat.reduceAdd, Nat.reduceBEq, isLd]
  have s3 := ((((Sub.refl G).skip hb1 (e := ⟨[.slice A xss.length c], true⟩)).skip f2 (e := ⟨[.slice none 0 0], true⟩)).skip f3 (e := ⟨[.slice none 0 0], true⟩))
  have g2 : put (put (put G b1 ⟨[.slice A xss.length c], true⟩) b2 ⟨[.slice none 0 0], true⟩) b3 ⟨[.slice none 0 0], true⟩ b2 = some ⟨[.slice none 0 0], true⟩ := by rw [put_ne _ _ (by omega)]; exact put_same _ _ _
  have g3 : put (put (put G b1 ⟨[.slice A xss.length c], true⟩) b2 ⟨[.slice none 0 0], true⟩) b3 ⟨[.slice none 0 0], true⟩ b3 = some ⟨[.slice none 0 0], true⟩ := put_same _ _ _
  revert s3 g2 g3
  generalize put (put (put G b1 ⟨[.slice A xss.length c], true⟩) b2 ⟨[.slice none 0 0], true⟩) b3 ⟨[.slice none 0 0], true⟩ = G5
  intro s3 g2 g3
  refine laws_toInt64SS_new (h.sub s3) hsm fun B' hs' G' hS hR => ?_
  simp (maxSteps := 300000) (disch := omega) only [gs, gs2, gs3, gs4, ↓reduceIte, Nat.reduceEqDiff, Int.reduceToNat, Nat.reduceMul, Nat.reduceAdd, Nat.reduceBEq, isLd]
  refine st_one (hS _ _ g3) (by simp) rfl ?_
  simp (maxSteps := 300000) (disch := omega) only [gs, gs2, gs3, gs4, ↓reduceIte, Nat.reduceEqDiff, Int.reduceToNat, Nat.reduceMul, Nat.reduceAdd, Nat.reduceBEq, isLd]
  refine st_many (vs := [.slice B' xss.length xss.length]) rfl (by rw [put_ne _ _ (by omega)]; exact hS _ _ g2) rfl (by simp) (by intro v hv; simp at hv; subst hv; rfl) ?_
  simp (maxSteps := 300000) (disch := omega) only [gs, gs2, gs3, gs4, ↓reduceIte, Nat.reduceEqDiff, Int.reduceToNat, Nat.reduceMul, Nat.reduceAdd, Nat.reduceBEq, isLd, over]
  have hon := hR.on
  have o5 : ∀ x, lB B' hs' xss.length x → G5 x = none := fun x hx => on_rest (hon x hx)
  have sR := Sub.rest G5 G'
  have r2 : rest G5 G' b2 = none := by cases hr : rest G5 G' b2 with | none => rfl | some e => (have := (rest_some.1 hr).1; rw [g2] at this; cases this)
  have r3 : rest G5 G' b3 = none := by cases hr : rest G5 G' b3 with | none => rfl | some e => (have := (rest_some.1 hr).1; rw [g3] at this; cases this)
  have sF := (sR.skip r3 (e := ⟨[.slice B' xss.length xss.length], true⟩)).skip r2 (e := ⟨[.slice B' xss.length xss.length], true⟩)
  exact hk B' hs' _ (((s3.trans hS).skip f3).skip f2) ((hR.sub sF).rest (fun a ha => s3.none (o5 _ (.inl ⟨a, ha, rfl⟩))) fun i hi a ha => s3.none (o5 _ (.inr ⟨i, hi, a, ha, rfl⟩)))
/-- a sheaf whose lists are one's own. -/
structure OwnS (G : GH) (m : ShM) (s : Shf) : Prop where
  rows : OwnR G m.A m.c m.hs s.base
  st : Own G m.S m.e (s.st.map I64) 1 s.st.length
  ms : OwnMS G m.M m.l m.Hm s.ms
  d1 : ∀ x, lB m.A m.hs s.base.length x → ¬ sB m.S x
  d2 : ∀ x, lB m.A m.hs s.base.length x → ¬ lB m.M m.Hm s.ms.length x
  d3 : ∀ x, sB m.S x → ¬ lB m.M m.Hm s.ms.length x
def shB (m : ShM) (s : Shf) : Nat → Prop := fun x => lB m.A m.hs s.base.length x ∨ sB m.S x ∨ lB m.M m.Hm s.ms.length x
theorem OwnS.sub {G G' : GH} {m : ShM} {s : Shf} (h : OwnS G m s) (u : Sub G G') : OwnS G' m s := ⟨h.rows.sub u, h.st.sub u, h.ms.sub u, h.d1, h.d2, h.d3⟩
theorem OwnS.g {G : GH} {m : ShM} {s : Shf} (h : OwnS G m s) : ShG G m s := ⟨h.rows.rows, h.st.ints, h.ms.mss⟩
theorem OwnS.on {G : GH} {m : ShM} {s : Shf} (h : OwnS G m s) : ∀ x, shB m s x → G x ≠ none := by
  rintro x (hx | hx | hx)
  · exact h.rows.on x hx
  · exact h.st.on x hx
  · exact h.ms.on x hx
/-- a new sheaf. -/
structure NewS (G G' : GH) (m : ShM) (s : Shf) : Prop where
  sub : Sub G G'
  own : OwnS (rest G G') m s
theorem NewS.off {G G' : GH} {m : ShM} {s : Shf} (h : NewS G G' m s) : ∀ x, shB m s x → G x = none := fun x hx => on_rest (h.own.on x hx)
theorem NewS.o {G G' : GH} {m : ShM} {s : Shf} (h : NewS G G' m s) : OwnS G' m s := h.own.sub (Sub.rest _ _)
/-- sizes that fit. -/
structure ShSz (s : Shf) : Prop where
  sm : ShSm s
  p1 : pre s.base s.base.length ≤ 2 ^ 20
  p2 : preM s.ms s.ms.length ≤ 2 ^ 20
/-- lengths that fit a machine. -/
structure ShMx (s : Shf) : Prop where
  b : s.base.length ≤ 2 ^ 63 - 1
  bi : ∀ i, i < s.base.length → (s.base.getD i []).length ≤ 2 ^ 63 - 1
  st : s.st.length ≤ 2 ^ 63 - 1
  ms : s.ms.length ≤ 2 ^ 63 - 1
  mi : ∀ i, i < s.ms.length → (s.ms.getD i m0).m.length ≤ 2 ^ 63 - 1
theorem laws_szComplex_ok {G : GH} {A : Option Addr} {c : Nat} {hs : Nat → Option Addr × Nat} {xss : List (List Int)} {left : Int} (h : RowS G A c hs xss) (h0 : 0 ≤ left ∧ left ≤ 2 ^ 20) (hn : xss.length ≤ 2 ^ 63 - 1) (hn' : ∀ i, i < xss.length → (xss.getD i []).length ≤ 2 ^ 63 - 1) {K : Value → GH → Prop}
    (hk : ∀ l : Int, -1 ≤ l → l ≤ 2 ^ 20 → (0 ≤ l → l ≤ left ∧ Sm xss ∧ pre xss xss.length ≤ 2 ^ 20) → K (.int .i64 l) G) : GC Tryz.prog 42 [cxV A xss.length c, .int .i64 left] G K := by
  refine GC_drop (c_laws_szComplex_i (by simp) ?_)
  unfold cxV
  simp (maxSteps := 300000) (disch := omega) only [gs, gs2, gs3, gs4, ↓reduceIte, Nat.reduceEqDiff, Int.reduceToNat, Nat.reduceMul, Nat.reduceAdd, Nat.reduceBEq, isLd]
  intro b1 hb1
  have s1 := Sub.put hb1 ⟨[.slice A xss.length c], true⟩
  simp (maxSteps := 300000) (disch := omega) only [gs, gs2, gs3, gs4, ↓reduceIte, Nat.reduceEqDiff, Int.reduceToNat, Nat.reduceMul, Nat.reduceAdd, Nat.reduceBEq, isLd]
  refine laws_szInt64SS_ok2 (h.sub s1) h0 hn hn' fun l q1 q2 q3 => ?_
  simp (maxSteps := 300000) (disch := omega) only [gs, gs2, gs3, gs4, ↓reduceIte, Nat.reduceEqDiff, Int.reduceToNat, Nat.reduceMul, Nat.reduceAdd, Nat.reduceBEq, isLd]
  by_cases h1 : l < 0
  · simp (maxSteps := 300000) (disch := omega) only [gs, gs2, gs3, gs4, ↓reduceIte, Nat.reduceEqDiff, Int.reduceToNat, Nat.reduceMul, Nat.reduceAdd, Nat.reduceBEq, isLd, h1]; exact ⟨G, s1, hk _ (by omega) (by omega) (by omega)⟩
  simp (maxSteps := 300000) (disch := omega) only [gs, gs2, gs3, gs4, ↓reduceIte, Nat.reduceEqDiff, Int.reduceToNat, Nat.reduceMul, Nat.reduceAdd, Nat.reduceBEq, isLd, h1]
  exact ⟨G, s1, hk _ (by omega) (by omega) fun _ => q3 (by omega)⟩
theorem laws_szSheaf_ok {G : GH} {m : ShM} {s : Shf} {left : Int} (h : ShG G m s) (hx : ShMx s) (h0 : 0 ≤ left ∧ left ≤ 2 ^ 20) {K : Value → GH → Prop}
    (hk : ∀ l : Int, -1 ≤ l → l ≤ 2 ^ 20 → (0 ≤ l → ShSz s) → K (.int .i64 l) G) : GC Tryz.prog 11 [shV m s, .int .i64 left] G K := by
  refine GC_drop (c_laws_szSheaf_i (by simp) ?_)
  unfold shV shC
  simp (maxSteps := 300000) (disch := omega) only [gs, gs2, gs3, gs4, ↓reduceIte, Nat.reduceEqDiff, Int.reduceToNat, Nat.reduceMul, Nat.reduceAdd, Nat.reduceBEq, isLd]
  intro b1 hb1
  have s1 := Sub.put hb1 ⟨shC m s, true⟩
  have hP := ShP.box hb1 h
  unfold shC at s1 hP
  revert s1 hP
  generalize put G b1 ⟨[.slice m.A s.base.length m.c, .int .i64 s.p, .slice m.S s.st.length m.e, .slice m.M s.ms.length m.l], true⟩ = G1
  intro s1 hP
  obtain ⟨f0, f1, f2, f3⟩ := hP.b
  simp (maxSteps := 300000) (disch := omega) only [gs, gs2, gs3, gs4, ↓reduceIte, Nat.reduceEqDiff, Int.reduceToNat, Nat.reduceMul, Nat.reduceAdd, Nat.reduceBEq, isLd, f0, f1, f2, f3]
  refine laws_szComplex_ok hP.g.rows h0 hx.b hx.bi fun l q1 q2 q3 => ?_
  simp (maxSteps := 300000) (disch := omega) only [gs, gs2, gs3, gs4, ↓reduceIte, Nat.reduceEqDiff, Int.reduceToNat, Nat.reduceMul, Nat.reduceAdd, Nat.reduceBEq, isLd, f0, f1, f2, f3]
  by_cases h1 : l < 0
  · simp (maxSteps := 300000) (disch := omega) only [gs, gs2, gs3, gs4, ↓reduceIte, Nat.reduceEqDiff, Int.reduceToNat, Nat.reduceMul, Nat.reduceAdd, Nat.reduceBEq, isLd, h1]; exact ⟨G, s1, hk _ (by omega) (by omega) (by omega)⟩
  simp (maxSteps := 300000) (disch := omega) only [gs, gs2, gs3, gs4, ↓reduceIte, Nat.reduceEqDiff, Int.reduceToNat, Nat.reduceMul, Nat.reduceAdd, Nat.reduceBEq, isLd, h1, f0, f1, f2, f3]
  obtain ⟨q4, q5, q6⟩ := q3 (by omega)
  refine laws_szInt64S_ok ⟨by omega, by omega⟩ hx.st fun l' r1 r2 r3 => ?_
  simp (maxSteps := 300000) (disch := omega) only [gs, gs2, gs3, gs4, ↓reduceIte, Nat.reduceEqDiff, Int.reduceToNat, Nat.reduceMul, Nat.reduceAdd, Nat.reduceBEq, isLd, f0, f1, f2, f3]
  by_cases h2 : l' < 0
  · simp (maxSteps := 300000) (disch := omega) only [gs, gs2, gs3, gs4, ↓reduceIte, Nat.reduceEqDiff, Int.reduceToNat, Nat.reduceMul, Nat.reduceAdd, Nat.reduceBEq, isLd, h2]; exact ⟨G, s1, hk _ (by omega) (by omega) (by omega)⟩
  simp (maxSteps := 300000) (disch := omega) only [gs, gs2, gs3, gs4, ↓reduceIte, Nat.reduceEqDiff, Int.reduceToNat, Nat.reduceMul, Nat.reduceAdd, Nat.reduceBEq, isLd, h2, f0, f1, f2, f3]
  have r4 := r3 (by omega)
  refine laws_szMatrixS_ok hP.g.ms ⟨by omega, by omega⟩ hx.ms hx.mi fun l2 t1 t2 t3 => ?_
  simp (maxSteps := 300000) (disch := omega) only [gs, gs2, gs3, gs4, ↓reduceIte, Nat.reduceEqDiff, Int.reduceToNat, Nat.reduceMul, Nat.reduceAdd, Nat.reduceBEq, isLd, f0, f1, f2, f3]
  by_cases h3 : l2 < 0
  · simp (maxSteps := 300000) (disch := omega) only [gs, gs2, gs3, gs4, ↓reduceIte, Nat.reduceEqDiff, Int.reduceToNat, Nat.reduceMul, Nat.reduceAdd, Nat.reduceBEq, isLd, h3]; exact ⟨G, s1, hk _ (by omega) (by omega) (by omega)⟩
  simp (maxSteps := 300000) (disch := omega) only [gs, gs2, gs3, gs4, ↓reduceIte, Nat.reduceEqDiff, Int.reduceToNat, Nat.reduceMul, Nat.reduceAdd, Nat.reduceBEq, isLd, h3]
  refine ⟨G, s1, hk _ (by omega) (by omega) fun _ => ?_⟩
  obtain ⟨t4, t5, t6⟩ := t3 (by omega)
  exact ⟨⟨q5, by omega, t4, t6⟩, q6, t5⟩
theorem laws_toSheaf_new {G : GH} {m : ShM} {s : Shf} (h : ShG G m s) (hz : ShSz s) {K : Value → GH → Prop}
    (hk : ∀ m' G', NewS G G' m' s → K (shV m' s) G') : GC Tryz.prog 13 [shV m s] G K := by
  refine c_laws_toSheaf_i (by simp) ?_
  unfold shV shC
  simp (maxSteps := 300000) (disch := omega) only [gs, gs2, gs3, gs4, ↓reduceIte, Nat.reduceEqDiff, Int.reduceToNat, Nat.reduceMul, Nat.reduceAdd, Nat.reduceBEq, isLd]
  intro b1 hb1
  simp (maxSteps := 300000) (disch := omega) only [gs, gs2, gs3, gs4, ↓reduceIte, Nat.reduceEqDiff, Int.reduceToNat, Nat.reduceMul, Nat.reduceAdd, Nat.reduceBEq, isLd]
  intro b2 hb2
  simp (maxSteps := 300000) (disch := omega) only [gs, gs2, gs3, gs4, ↓reduceIte, Nat.reduceEqDiff, Int.reduceToNat, Nat.reduceMul, Nat.reduceAdd, Nat.reduceBEq, isLd]
  intro b3 hb3
  simp only [put_none] at hb2 hb3
  obtain ⟨n12, f2⟩ := hb2
  obtain ⟨n23, n13, f3⟩ := hb3
  simp (maxSteps := 300000) (disch := omega) only [gs, gs2, gs3, gs4, ↓reduceIte, Nat.reduceEqDiff, Int.reduceToNat, Nat.reduceMul, Nat.reduceAdd, Nat.reduceBEq, isLd]
  have s3 := ((((Sub.refl G).skip hb1 (e := ⟨[.slice m.A s.base.length m.c, .int .i64 s.p, .slice m.S s.st.length m.e, .slice m.M s.ms.length m.l], true⟩)).skip f2 (e := ⟨[.slice none 0 0, .int .i64 0, .slice none 0 0, .slice none 0 0], true⟩)).skip f3 (e := ⟨[.slice none 0 0, .int .i64 0, .slice none 0 0, .slice none 0 0], true⟩))
  have g1 : put (put (put G b1 ⟨[.slice m.A s.base.length m.c, .int .i64 s.p, .slice m.S s.st.length m.e, .slice m.M s.ms.length m.l], true⟩) b2 ⟨[.slice none 0 0, .int .i64 0, .slice none 0 0, .slice none 0 0], true⟩) b3 ⟨[.slice none 0 0, .int .i64 0, .slice none 0 0, .slice none 0 0], true⟩ b1 = some ⟨[.slice m.A s.base.length m.c, .int .i64 s.p, .slice m.S s.st.length m.e, .slice m.M s.ms.length m.l], true⟩ := by rw [put_ne _ _ (by omega), put_ne _ _ (by omega)]; exact put_same _ _ _
  have g2 : put (put (put G b1 ⟨[.slice m.A s.base.length m.c, .int .i64 s.p, .slice m.S s.st.length m.e, .slice m.M s.ms.length m.l], true⟩) b2 ⟨[.slice none 0 0, .int .i64 0, .slice none 0 0, .slice none 0 0], true⟩) b3 ⟨[.slice none 0 0, .int .i64 0, .slice none 0 0, .slice none 0 0], true⟩ b2 = some ⟨[.slice none 0 0, .int .i64 0, .slice none 0 0, .slice none 0 0], true⟩ := by rw [put_ne _ _ (by omega)]; exact put_same _ _ _
  have g3 : put (put (put G b1 ⟨[.slice m.A s.base.length m.c, .int .i64 s.p, .slice m.S s.st.length m.e, .slice m.M s.ms.length m.l], true⟩) b2 ⟨[.slice none 0 0, .int .i64 0, .slice none 0 0, .slice none 0 0], true⟩) b3 ⟨[.slice none 0 0, .int .i64 0, .slice none 0 0, .slice none 0 0], true⟩ b3 = some ⟨[.slice none 0 0, .int .i64 0, .slice none 0 0, .slice none 0 0], true⟩ := put_same _ _ _
  revert s3 g1 g2 g3
  generalize put (put (put G b1 ⟨[.slice m.A s.base.length m.c, .int .i64 s.p, .slice m.S s.st.length m.e, .slice m.M s.ms.length m.l], true⟩) b2 ⟨[.slice none 0 0, .int .i64 0, .slice none 0 0, .slice none 0 0], true⟩) b3 ⟨[.slice none 0 0, .int .i64 0, .slice none 0 0, .slice none 0 0], true⟩ = G3
  intro s3 g1 g2 g3
  -- what is said of the argument's box, wherever the box stands
  have rf : ∀ {F : GH}, F b1 = G3 b1 → rd F (some ⟨b1, 0, none⟩) = some (.slice m.A s.base.length m.c) ∧ rd F (some ⟨b1, 1, none⟩) = some (.int .i64 s.p) ∧ rd F (some ⟨b1, 2, none⟩) = some (.slice m.S s.st.length m.e) ∧ rd F (some ⟨b1, 3, none⟩) = some (.slice m.M s.ms.length m.l) := fun e => by
    rw [g1] at e
    simp only [rd, e]; exact ⟨rfl, rfl, rfl, rfl⟩
  refine laws_toComplex_new (h.rows.sub s3) hz.sm.b fun A' hs' G4 S4 hR => ?_
  unfold cxV
  simp (maxSteps := 300000) (disch := omega) only [gs, gs2, gs3, gs4, ↓reduceIte, Nat.reduceEqDiff, Int.reduceToNat, Nat.reduceMul, Nat.reduceAdd, Nat.reduceBEq, isLd]
  have g3' := S4 _ _ g3
  refine st_many (vs := [.slice A' s.base.length s.base.length]) rfl g3' rfl (by simp) (by intro v hv; simp at hv; subst hv; rfl) ?_
  have onR := hR.on
  have rn : ∀ {x : Nat} {e : Ent}, G3 x = some e → rest G3 G4 x = none := fun {x e} hx => by
    cases hr : rest G3 G4 x with
    | none => rfl
    | some y => (have := (rest_some.1 hr).1; rw [hx] at this; cases this)
  have SR5 := (Sub.rest G3 G4).skip (rn g3) (e := ⟨over [.slice none 0 0, .int .i64 0, .slice none 0 0, .slice none 0 0] 0 [.slice A' s.base.length s.base.length], true⟩)
  have k1 : put G4 b3 ⟨over [.slice none 0 0, .int .i64 0, .slice none 0 0, .slice none 0 0] 0 [.slice A' s.base.length s.base.length], true⟩ b1 = G3 b1 := by rw [put_ne _ _ (by omega), S4 _ _ g1, g1]
  have k2 : put G4 b3 ⟨over [.slice none 0 0, .int .i64 0, .slice none 0 0, .slice none 0 0] 0 [.slice A' s.base.length s.base.length], true⟩ b2 = G3 b2 := by rw [put_ne _ _ (by omega), S4 _ _ g2, g2]
  have k3 := put_same G4 b3 ⟨over [.slice none 0 0, .int .i64 0, .slice none 0 0, .slice none 0 0] 0 [.slice A' s.base.length s.base.length], true⟩
  have sg5 := (s3.trans S4).skip f3 (e := ⟨over [.slice none 0 0, .int .i64 0, .slice none 0 0, .slice none 0 0] 0 [.slice A' s.base.length s.base.length], true⟩)
  revert SR5 k1 k2 k3 sg5
  generalize put G4 b3 ⟨over [.slice none 0 0, .int .i64 0, .slice none 0 0, .slice none 0 0] 0 [.slice A' s.base.length s.base.length], true⟩ = G5
  intro SR5 k1 k2 k3 sg5
  simp only [over, List.set_cons_zero, List.set_cons_succ] at k3
  obtain ⟨q0, q1, q2, q3⟩ := rf k1
  simp (maxSteps := 300000) (disch := omega) only [gs, gs2, gs3, gs4, ↓reduceIte, Nat.reduceEqDiff, Int.reduceToNat, Nat.reduceMul, Nat.reduceAdd, Nat.reduceBEq, isLd, q0, q1, q2, q3]
  refine st_one k3 (by simp) rfl ?_
  have SR6 := SR5.skip (rn g3) (e := ⟨[.slice A' s.base.length s.base.length, .int .i64 s.p, .slice none 0 0, .slice none 0 0], true⟩)
  have sg6 := sg5.skip f3 (e := ⟨[.slice A' s.base.length s.base.length, .int .i64 s.p, .slice none 0 0, .slice none 0 0], true⟩)
  have l1 : put G5 b3 ⟨[.slice A' s.base.length s.base.length, .int .i64 s.p, .slice none 0 0, .slice none 0 0], true⟩ b1 = G3 b1 := by rw [put_ne _ _ (by omega), k1]
  have l2 : put G5 b3 ⟨[.slice A' s.base.length s.base.length, .int .i64 s.p, .slice none 0 0, .slice none 0 0], true⟩ b2 = G3 b2 := by rw [put_ne _ _ (by omega), k2]
  have l3 := put_same G5 b3 ⟨[.slice A' s.base.length s.base.length, .int .i64 s.p, .slice none 0 0, .slice none 0 0], true⟩
  simp only [List.set_cons_zero, List.set_cons_succ]
  revert SR6 sg6 l1 l2 l3
  generalize put G5 b3 ⟨[.slice A' s.base.length s.base.length, .int .i64 s.p, .slice none 0 0, .slice none 0 0], true⟩ = G6
  intro SR6 sg6 l1 l2 l3
  obtain ⟨q0, q1, q2, q3⟩ := rf l1
  simp (maxSteps := 300000) (disch := omega) only [gs, gs2, gs3, gs4, ↓reduceIte, Nat.reduceEqDiff, Int.reduceToNat, Nat.reduceMul, Nat.reduceAdd, Nat.reduceBEq, isLd, q0, q1, q2, q3]
  refine laws_toInt64S_ok (h.st.sub sg6) hz.sm.st fun b4 hb4 => ?_
  simp (maxSteps := 300000) (disch := omega) only [gs, gs2, gs3, gs4, ↓reduceIte, Nat.reduceEqDiff, Int.reduceToNat, Nat.reduceMul, Nat.reduceAdd, Nat.reduceBEq, isLd]
  have s7 := Sub.put hb4 ⟨s.st.map I64, true⟩
  refine st_one (s7 _ _ l3) (by simp) rfl ?_
  simp only [List.set_cons_zero, List.set_cons_succ]
  have n34 : b3 ≠ b4 := fun e => by rw [e, hb4] at l3; cases l3
  have f4 : G b4 = none := sg6.none hb4
  have n14 : b1 ≠ b4 := fun e => by rw [g1, e, hb4] at l1; cases l1
  have n24 : b2 ≠ b4 := fun e => by rw [g2, e, hb4] at l2; cases l2
  have SR8 := (SR6.trans s7).skip (rn g3) (e := ⟨[.slice A' s.base.length s.base.length, .int .i64 s.p, .slice (some ⟨b4, 0, none⟩) s.st.length s.st.length, .slice none 0 0], true⟩)
  have sg8 := (sg6.trans s7).skip f3 (e := ⟨[.slice A' s.base.length s.base.length, .int .i64 s.p, .slice (some ⟨b4, 0, none⟩) s.st.length s.st.length, .slice none 0 0], true⟩)
  have m1 : put (put G6 b4 ⟨s.st.map I64, true⟩) b3 ⟨[.slice A' s.base.length s.base.length, .int .i64 s.p, .slice (some ⟨b4, 0, none⟩) s.st.length s.st.length, .slice none 0 0], true⟩ b1 = G3 b1 := by rw [put_ne _ _ (by omega), put_ne _ _ n14, l1]
  have m2 : put (put G6 b4 ⟨s.st.map I64, true⟩) b3 ⟨[.slice A' s.base.length s.base.length, .int .i64 s.p, .slice (some ⟨b4, 0, none⟩) s.st.length s.st.length, .slice none 0 0], true⟩ b2 = G3 b2 := by rw [put_ne _ _ (by omega), put_ne _ _ n24, l2]
  have m4 : put (put G6 b4 ⟨s.st.map I64, true⟩) b3 ⟨[.slice A' s.base.length s.base.length, .int .i64 s.p, .slice (some ⟨b4, 0, none⟩) s.st.length s.st.length, .slice none 0 0], true⟩ b4 = some ⟨s.st.map I64, true⟩ := by rw [put_ne _ _ (Ne.symm n34)]; exact put_same _ _ _
  have m3 := put_same (put G6 b4 ⟨s.st.map I64, true⟩) b3 ⟨[.slice A' s.base.length s.base.length, .int .i64 s.p, .slice (some ⟨b4, 0, none⟩) s.st.length s.st.length, .slice none 0 0], true⟩
  revert SR8 sg8 m1 m2 m3 m4
  generalize put (put G6 b4 ⟨s.st.map I64, true⟩) b3 ⟨[.slice A' s.base.length s.base.length, .int .i64 s.p, .slice (some ⟨b4, 0, none⟩) s.st.length s.st.length, .slice none 0 0], true⟩ = G8
  intro SR8 sg8 m1 m2 m4 m3
  obtain ⟨q0, q1, q2, q3⟩ := rf m1
  simp (maxSteps := 300000) (disch := omega) only [gs, gs2, gs3, gs4, ↓reduceIte, Nat.reduceEqDiff, Int.reduceToNat, Nat.reduceMul, Nat.reduceAdd, Nat.reduceBEq, isLd, q0, q1, q2, q3]
  refine laws_toMatrixS_new (h.ms.sub sg8) hz.sm.ms hz.sm.m fun M' H' G9 S9 hM => ?_
  simp (maxSteps := 300000) (disch := omega) only [gs, gs2, gs3, gs4, ↓reduceIte, Nat.reduceEqDiff, Int.reduceToNat, Nat.reduceMul, Nat.reduceAdd, Nat.reduceBEq, isLd]
  refine st_one (S9 _ _ m3) (by simp) rfl ?_
  simp only [List.set_cons_zero, List.set_cons_succ]
  simp (maxSteps := 300000) (disch := omega) only [gs, gs2, gs3, gs4, ↓reduceIte, Nat.reduceEqDiff, Int.reduceToNat, Nat.reduceMul, Nat.reduceAdd, Nat.reduceBEq, isLd]
  have m2' : G9 b2 = some ⟨[.slice none 0 0, .int .i64 0, .slice none 0 0, .slice none 0 0], true⟩ := S9 _ _ (by rw [m2]; exact g2)
  refine st_many (vs := [.slice A' s.base.length s.base.length, .int .i64 s.p, .slice (some ⟨b4, 0, none⟩) s.st.length s.st.length, .slice M' s.ms.length s.ms.length]) rfl (by rw [put_ne _ _ (by omega)]; exact m2') rfl (by simp) (by intro v hv; simp at hv; rcases hv with rfl | rfl | rfl | rfl <;> rfl) ?_
  simp (maxSteps := 300000) (disch := omega) only [gs, gs2, gs3, gs4, ↓reduceIte, Nat.reduceEqDiff, Int.reduceToNat, Nat.reduceMul, Nat.reduceAdd, Nat.reduceBEq, isLd, over]
  have oM : ∀ x, lB M' H' s.ms.length x → G8 x = none := fun x hx => on_rest (hM.on x hx)
  have oR : ∀ x, lB A' hs' s.base.length x → G3 x = none := fun x hx => on_rest (onR x hx)
  have mn : ∀ {x : Nat} {e : Ent}, G8 x = some e → rest G8 G9 x = none := fun {x e} hx => by
    cases hr : rest G8 G9 x with
    | none => rfl
    | some y => (have := (rest_some.1 hr).1; rw [hx] at this; cases this)
  have SMF := ((Sub.rest G8 G9).skip (mn m3) (e := ⟨[.slice A' s.base.length s.base.length, .int .i64 s.p, .slice (some ⟨b4, 0, none⟩) s.st.length s.st.length, .slice M' s.ms.length s.ms.length], true⟩)).skip (mn (by rw [m2]; exact g2)) (e := ⟨[.slice A' s.base.length s.base.length, .int .i64 s.p, .slice (some ⟨b4, 0, none⟩) s.st.length s.st.length, .slice M' s.ms.length s.ms.length], true⟩)
  have SRF := ((SR8.trans S9).skip (rn g3) (e := ⟨[.slice A' s.base.length s.base.length, .int .i64 s.p, .slice (some ⟨b4, 0, none⟩) s.st.length s.st.length, .slice M' s.ms.length s.ms.length], true⟩)).skip (rn g2) (e := ⟨[.slice A' s.base.length s.base.length, .int .i64 s.p, .slice (some ⟨b4, 0, none⟩) s.st.length s.st.length, .slice M' s.ms.length s.ms.length], true⟩)
  have sgF := ((sg8.trans S9).skip f3 (e := ⟨[.slice A' s.base.length s.base.length, .int .i64 s.p, .slice (some ⟨b4, 0, none⟩) s.st.length s.st.length, .slice M' s.ms.length s.ms.length], true⟩)).skip f2 (e := ⟨[.slice A' s.base.length s.base.length, .int .i64 s.p, .slice (some ⟨b4, 0, none⟩) s.st.length s.st.length, .slice M' s.ms.length s.ms.length], true⟩)
  have m4F : put (put G9 b3 ⟨[.slice A' s.base.length s.base.length, .int .i64 s.p, .slice (some ⟨b4, 0, none⟩) s.st.length s.st.length, .slice M' s.ms.length s.ms.length], true⟩) b2 ⟨[.slice A' s.base.length s.base.length, .int .i64 s.p, .slice (some ⟨b4, 0, none⟩) s.st.length s.st.length, .slice M' s.ms.length s.ms.length], true⟩ b4 = some ⟨s.st.map I64, true⟩ := by rw [put_ne _ _ (Ne.symm n24), put_ne _ _ (Ne.symm n34)]; exact S9 _ _ m4
  refine hk ⟨A', s.base.length, hs', some ⟨b4, 0, none⟩, s.st.length, M', s.ms.length, H'⟩ _ ⟨sgF, ⟨?_, ?_, ?_, fun x hx => ?_, fun x hx y => ?_, fun x hx y => ?_⟩⟩
  · exact (hR.sub SRF).rest (fun a ha => s3.none (oR _ (.inl ⟨a, ha, rfl⟩))) fun i hi a ha => s3.none (oR _ (.inr ⟨i, hi, a, ha, rfl⟩))
  · exact .inr ⟨b4, [], rfl, by rw [List.append_nil]; exact rest_some.2 ⟨f4, m4F⟩, by simp, by simp, Nat.le_refl _⟩
  · exact (hM.sub SMF).rest fun x hx => sg8.none (oM x hx)
  · rintro ⟨a, ha, hax⟩
    cases ha
    dsimp only at hax
    subst hax
    cases hr : rest G3 G4 b4 with
    | none => exact onR _ hx hr
    | some e => (have := SR6 _ _ hr; rw [hb4] at this; cases this)
  · cases hr : rest G3 G4 x with
    | none => exact onR _ hx hr
    | some e => (have := SR8 _ _ hr; rw [oM x y] at this; cases this)
  · obtain ⟨a, ha, hax⟩ := hx
    cases ha
    dsimp only at hax
    subst hax
    have := oM _ y
    rw [m4] at this; cases this
theorem laws_eqComplex_ok {G : GH} {A A' : Option Addr} {c c' : Nat} {hs hs' : Nat → Option Addr × Nat} {xss : List (List Int)} (h : RowS G A c hs xss) (h' : RowS G A' c' hs' xss) (hsm : Sm xss) {K : Value → GH → Prop} (hk : K (.bool true) G) : GC Tryz.prog 51 [cxV A xss.length c, cxV A' xss.length c'] G K := by
  refine GC_drop (c_laws_eqComplex_i (by simp) ?_)
  unfold cxV
  simp (maxSteps := 300000) (disch := omega) only [gs, gs2, gs3, gs4, ↓reduceIte, Nat.reduceEqDiff, Int.reduceToNat, Nat.reduceMul, Nat.reduceAdd, Nat.reduceBEq, isLd]
  intro b1 hb1
  simp (maxSteps := 300000) (disch := omega) only [gs, gs2, gs3, gs4, ↓reduceIte, Nat.reduceEqDiff, Int.reduceToNat, Nat.reduceMul, Nat.reduceAdd, Nat.reduceBEq, isLd]
  intro b2 hb2
  simp only [put_none] at hb2
  obtain ⟨n12, f2⟩ := hb2
  have s2 := ((Sub.refl G).skip hb1 (e := ⟨[.slice A xss.length c], true⟩)).skip f2 (e := ⟨[.slice A' xss.length c'], true⟩)
  obtain ⟨z1, z2⟩ := hsm
  simp (maxSteps := 300000) (disch := omega) only [gs, gs2, gs3, gs4, ↓reduceIte, Nat.reduceEqDiff, Int.reduceToNat, Nat.reduceMul, Nat.reduceAdd, Nat.reduceBEq, isLd]
  refine laws_eqInt64SS_ok (h.sub s2) (h'.sub s2) (by omega) (fun i hi => by have := z2 i hi; omega) fun b hb => ?_
  obtain rfl : b = true := hb.2 rfl
  simp (maxSteps := 300000) (disch := omega) only [gs, gs2, gs3, gs4, ↓reduceIte, Nat.reduceEqDiff, Int.reduceToNat, Nat.reduceMul, Nat.reduceAdd, Nat.reduceBEq, isLd]
  exact ⟨G, s2, hk⟩
theorem laws_eqSheaf_ok {G : GH} {m m' : ShM} {s : Shf} (h : ShG G m s) (h' : ShG G m' s) (hz : ShSz s) {K : Value → GH → Prop} (hk : K (.bool true) G) : GC Tryz.prog 17 [shV m s, shV m' s] G K := by
  refine GC_drop (c_laws_eqSheaf_i (by simp) ?_)
  unfold shV shC
  simp (maxSteps := 300000) (disch := omega) only [gs, gs2, gs3, gs4, ↓reduceIte, Nat.reduceEqDiff, Int.reduceToNat, Nat.reduceMul, Nat.reduceAdd, Nat.reduceBEq, isLd]
  intro b1 hb1
  simp (maxSteps := 300000) (disch := omega) only [gs, gs2, gs3, gs4, ↓reduceIte, Nat.reduceEqDiff, Int.reduceToNat, Nat.reduceMul, Nat.reduceAdd, Nat.reduceBEq, isLd]
  intro b2 hb2
  simp only [put_none] at hb2
  obtain ⟨n12, f2⟩ := hb2
  have s2 := ((Sub.refl G).skip hb1 (e := ⟨[.slice m.A s.base.length m.c, .int .i64 s.p, .slice m.S s.st.length m.e, .slice m.M s.ms.length m.l], true⟩)).skip f2 (e := ⟨[.slice m'.A s.base.length m'.c, .int .i64 s.p, .slice m'.S s.st.length m'.e, .slice m'.M s.ms.length m'.l], true⟩)
  have t0 : decide (¬ s.p = s.p) = false := by simp
  have hsm := hz.sm
  have hst := hsm.st
  simp (maxSteps := 300000) (disch := omega) only [gs, gs2, gs3, gs4, ↓reduceIte, Nat.reduceEqDiff, Int.reduceToNat, Nat.reduceMul, Nat.reduceAdd, Nat.reduceBEq, isLd]
  refine laws_eqComplex_ok (h.rows.sub s2) (h'.rows.sub s2) hsm.b ?_
  simp (maxSteps := 300000) (disch := omega) only [gs, gs2, gs3, gs4, ↓reduceIte, Nat.reduceEqDiff, Int.reduceToNat, Nat.reduceMul, Nat.reduceAdd, Nat.reduceBEq, isLd, t0]
  refine laws_eqInt64S_ok (h.st.sub s2) (h'.st.sub s2) (by omega) ?_
  simp (maxSteps := 300000) (disch := omega) only [gs, gs2, gs3, gs4, ↓reduceIte, Nat.reduceEqDiff, Int.reduceToNat, Nat.reduceMul, Nat.reduceAdd, Nat.reduceBEq, isLd, eq_self]
  refine laws_eqMatrixS_ok (h.ms.sub s2) (h'.ms.sub s2) (by have := hsm.ms; omega) hsm.m ?_
  simp (maxSteps := 300000) (disch := omega) only [gs, gs2, gs3, gs4, ↓reduceIte, Nat.reduceEqDiff, Int.reduceToNat, Nat.reduceMul, Nat.reduceAdd, Nat.reduceBEq, isLd]
  exact ⟨G, s2, hk⟩
/-- a sheaf that came in. -/
def SheafV (G : GH) (v : Value) (s : Shf) : Prop := ∃ m, v = shV m s ∧ ShG G m s ∧ ShMx s
theorem trod_mat {H : Type} {enc : TypeId × Value → H} {P : Program} {W : World} {t s i : TypeId} {fs : Array Field} (ht : P.underlying t = some (.struct fs)) (hs : P.underlying s = some (.slice i)) (hi : P.underlying i = some (.int .i64))
    (hM : fs.toList.map (fun f => (f.offset, f.type)) = [(0, i), (1, i), (2, i), (3, s)]) (hct : P.cellsOf t = 4) (hcs : P.cellsOf s = 1) (hci : P.cellsOf i = 1)
    {fuel : Nat} {cs : List Value} {x : DataW H × List MemPlace} (hf : DataW.trod enc P W 0 (fun _ => true) true fuel t cs = some x) : ∃ (M : Mt) (A : Option Addr) (c : Nat), cs = mtC M A c ∧ IntS (G0 W) A c M.m ∧ M.m.length ≤ 2 ^ 63 - 1 := by
  obtain ⟨a, e0, r0⟩ := trod_fld_i64 ht hM hf 0 rfl hi hci
  obtain ⟨b, e1, r1⟩ := trod_fld_i64 ht hM hf 1 rfl hi hci
  obtain ⟨d, e2, r2⟩ := trod_fld_i64 ht hM hf 2 rfl hi hci
  obtain ⟨A, n, k, m, x1, e3, r3⟩ := trod_fld_sl ht hM hf 3 rfl hs hcs
  obtain ⟨xs, A1, c1, hx, h1, h2, h3⟩ := trod_ints hs hi hci r3
  cases hx
  have hl := trod_clen ht hf
  rw [hct] at hl
  exact ⟨⟨a, b, d, xs⟩, A, k, list_four hl e0 e1 e2 e3, h1, h3⟩
theorem trod_mats {H : Type} {enc : TypeId × Value → H} {P : Program} {W : World} {T t s i : TypeId} {fs : Array Field} (hT : P.underlying T = some (.slice t)) (ht : P.underlying t = some (.struct fs)) (hs : P.underlying s = some (.slice i)) (hi : P.underlying i = some (.int .i64))
    (hM : fs.toList.map (fun f => (f.offset, f.type)) = [(0, i), (1, i), (2, i), (3, s)]) (hct : P.cellsOf t = 4) (hcs : P.cellsOf s = 1) (hci : P.cellsOf i = 1)
    {fuel : Nat} {A : Option Addr} {n c : Nat} {x : DataW H × List MemPlace} (h : DataW.trod enc P W 0 (fun _ => true) true fuel T [.slice A n c] = some x) : ∃ (ms : List Mt) (Hm : Nat → Option Addr × Nat), ms.length = n ∧ MsS (G0 W) A c Hm ms ∧ n ≤ 2 ^ 63 - 1 ∧ ∀ i, i < ms.length → (ms.getD i m0).m.length ≤ 2 ^ 63 - 1 := by
  obtain ⟨hc, hc2, hx⟩ := trod_sl hT h
  rw [hct] at hx
  obtain ⟨xs, hl, hp⟩ := choose_list ((m0, none, 0) : Mt × Option Addr × Nat) (p := fun j y => (∀ k v, (mtC y.1 y.2.1 y.2.2)[k]? = some v → rd (G0 W) (pa A (j * 4 + k)) = some v) ∧ IntS (G0 W) y.2.1 y.2.2 y.1.m ∧ y.1.m.length ≤ 2 ^ 63 - 1) n (fun j hj => by
    obtain ⟨cs, f', x', h1, h2, h3⟩ := hx j hj
    obtain ⟨M, B, b, rfl, q1, q2⟩ := trod_mat ht hs hi hM hct hcs hci h3
    exact ⟨(M, B, b), fun k v hv => h2 k v hv, q1, q2⟩)
  subst hl
  have hg : ∀ j, j < xs.length → (xs.map (·.1)).getD j m0 = (xs.getD j (m0, none, 0)).1 := fun j hj => by simp [List.getD, hj]
  refine ⟨xs.map (·.1), fun j => (xs.getD j (m0, none, 0)).2, by rw [List.length_map], ⟨by rw [List.length_map]; exact hc, fun j hj => ?_, fun j hj => ?_, fun j hj => ?_, fun j hj => ?_, fun j hj => ?_⟩, by omega, fun j hj => ?_⟩
  · rw [List.length_map] at hj; rw [hg j hj]; exact (hp j hj).1 0 _ rfl
  · rw [List.length_map] at hj; rw [hg j hj]; exact (hp j hj).1 1 _ rfl
  · rw [List.length_map] at hj; rw [hg j hj]; exact (hp j hj).1 2 _ rfl
  · rw [List.length_map] at hj; rw [hg j hj]; exact (hp j hj).1 3 _ rfl
  · rw [List.length_map] at hj; rw [hg j hj]; exact (hp j hj).2.1
  · rw [List.length_map] at hj; rw [hg j hj]; exact (hp j hj).2.2
theorem open_Sheaf {H : Type} {enc : TypeId × Value → H} {P : Program} {W : World} {t b u e i T k : TypeId} {fs gs ks : Array Field} (ht : P.underlying t = some (.struct fs)) (hb : P.underlying b = some (.struct gs)) (hu : P.underlying u = some (.slice e)) (he : P.underlying e = some (.slice i)) (hi : P.underlying i = some (.int .i64)) (hT : P.underlying T = some (.slice k)) (hk : P.underlying k = some (.struct ks))
    (hM : fs.toList.map (fun f => (f.offset, f.type)) = [(0, b), (1, i), (2, e), (3, T)]) (hL : gs.toList.map (fun f => (f.offset, f.type)) = [(0, u)]) (hK : ks.toList.map (fun f => (f.offset, f.type)) = [(0, i), (1, i), (2, i), (3, e)])
    (ct : P.cellsOf t = 4) (cb : P.cellsOf b = 1) (cu : P.cellsOf u = 1) (ce : P.cellsOf e = 1) (ci : P.cellsOf i = 1) (cT : P.cellsOf T = 1) (ck : P.cellsOf k = 4)
    {v : Value} {d : DataW H} {ps : List MemPlace} {r : Reach} {base : Nat} (hv : Value.okWide P W r base t v) (h : DataW.Trod enc P W 0 (fun _ => true) true t v d ps) : ∃ s, SheafV (G0 W) v s := by
  obtain ⟨cs, rfl, _⟩ := WideShapes.okWide_struct ht hv
  obtain ⟨fuel, hf⟩ := h
  change DataW.trod enc P W 0 (fun _ => true) true fuel t cs.toList = some (d, ps) at hf
  obtain ⟨m1, x1, hf1⟩ := trod_fld ht hM hf 0 (o := 0) (e := b) rfl
  rw [cb] at hf1
  obtain ⟨A, n, c, m2, x2, e0, r0⟩ := trod_fld_sl hb hL hf1 0 rfl hu cu
  have e0' : cs.toList[0]? = some (.slice A n c) := by simpa using e0
  obtain ⟨p, e1, rp⟩ := trod_fld_i64 ht hM hf 1 rfl hi ci
  obtain ⟨S, ns, es, m3, x3, e2, r2⟩ := trod_fld_sl ht hM hf 2 rfl he ce
  obtain ⟨M, nm, l, m4, x4, e3, r3⟩ := trod_fld_sl ht hM hf 3 rfl hT cT
  obtain ⟨yss, A1, d1, hh, hy, k1, k2, k3⟩ := trod_rows hu he hi ce ci r0
  cases hy
  obtain ⟨xs, A2, c2, hx, h1, h2, h3⟩ := trod_ints he hi ci r2
  cases hx
  obtain ⟨ms, Hm, hnm, q1, q2, q3⟩ := trod_mats hT hk he hi hK ck ce ci r3
  subst hnm
  have hl := trod_clen ht hf
  rw [ct] at hl
  refine ⟨⟨yss, p, xs, ms⟩, ⟨A, c, hh, S, es, M, l, Hm⟩, ?_, ⟨k1, h1, q1⟩, ⟨k3, fun i hi => (k2 i hi).1, h3, q2, q3⟩⟩
  unfold shV shC
  rw [← list_four hl e0' e1 e2 e3]
theorem law_AgreesWithin {G : GH} {v0 : Value} {v1 : Value} {v2 : Value} {x0 : Shf} {x1 : List Int} {x2 : List Int} (h0 : SheafV G v0 x0) (h1 : IntsV G v1 x1) (h2 : IntsV G v2 x2) : GC Tryz.prog 5 [v0, v1, v2] G fun v _ => v = .bool true := by
  obtain ⟨m0, rfl, h0, n0⟩ := h0
  obtain ⟨A1, c1, rfl, h1, e1, l1⟩ := h1
  obtain ⟨A2, c2, rfl, h2, e2, l2⟩ := h2
  refine c_laws_FnExactAgreesWithin_i (by simp) ?_
  unfold shV shC
  simp (maxSteps := 300000) (disch := omega) only [gs, gs2, gs3, gs4, ↓reduceIte, Nat.reduceEqDiff, Int.reduceToNat, Nat.reduceMul, Nat.reduceAdd, Nat.reduceBEq, isLd]
  intro p0 hp0
  generalize hG1 : put G p0 ⟨[.slice m0.A x0.base.length m0.c, .int .i64 x0.p, .slice m0.S x0.st.length m0.e, .slice m0.M x0.ms.length m0.l], true⟩ = G1
  have s1 : Sub G G1 := hG1 ▸ Sub.put hp0 _
  have h0 := h0.sub s1
  have h1 := h1.sub s1
  have h2 := h2.sub s1
  have fa0_0 : rd G1 (some ⟨p0, 0, none⟩) = some (.slice m0.A x0.base.length m0.c) := by rw [← hG1]; exact rd_box _ _ _ 0 _ rfl
  have fa0_1 : rd G1 (some ⟨p0, 1, none⟩) = some (.int .i64 x0.p) := by rw [← hG1]; exact rd_box _ _ _ 1 _ rfl
  have fa0_2 : rd G1 (some ⟨p0, 2, none⟩) = some (.slice m0.S x0.st.length m0.e) := by rw [← hG1]; exact rd_box _ _ _ 2 _ rfl
  have fa0_3 : rd G1 (some ⟨p0, 3, none⟩) = some (.slice m0.M x0.ms.length m0.l) := by rw [← hG1]; exact rd_box _ _ _ 3 _ rfl
  simp (maxSteps := 300000) (disch := omega) only [gs, gs2, gs3, gs4, ↓reduceIte, Nat.reduceEqDiff, Int.reduceToNat, Nat.reduceMul, Nat.reduceAdd, Nat.reduceBEq, isLd, fa0_0, fa0_1, fa0_2, fa0_3]
  by_cases g1 : (1048576 : Int) < x1.length
  · simp (maxSteps := 300000) (disch := omega) only [gs, gs2, gs3, gs4, ↓reduceIte, Nat.reduceEqDiff, Int.reduceToNat, Nat.reduceMul, Nat.reduceAdd, Nat.reduceBEq, isLd, g1, fa0_0, fa0_1, fa0_2, fa0_3]
  simp (maxSteps := 300000) (disch := omega) only [gs, gs2, gs3, gs4, ↓reduceIte, Nat.reduceEqDiff, Int.reduceToNat, Nat.reduceMul, Nat.reduceAdd, Nat.reduceBEq, isLd, g1, fa0_0, fa0_1, fa0_2, fa0_3]
  by_cases g2 : (1048576 : Int) < x2.length
  · simp (maxSteps := 300000) (disch := omega) only [gs, gs2, gs3, gs4, ↓reduceIte, Nat.reduceEqDiff, Int.reduceToNat, Nat.reduceMul, Nat.reduceAdd, Nat.reduceBEq, isLd, g2, fa0_0, fa0_1, fa0_2, fa0_3]
  simp (maxSteps := 300000) (disch := omega) only [gs, gs2, gs3, gs4, ↓reduceIte, Nat.reduceEqDiff, Int.reduceToNat, Nat.reduceMul, Nat.reduceAdd, Nat.reduceBEq, isLd, g2, fa0_0, fa0_1, fa0_2, fa0_3]
  refine laws_szSheaf_ok (s := x0) h0 n0 ⟨by omega, by omega⟩ fun q0 q0a q0b q0c => ?_
  simp (maxSteps := 300000) (disch := omega) only [gs, gs2, gs3, gs4, ↓reduceIte, Nat.reduceEqDiff, Int.reduceToNat, Nat.reduceMul, Nat.reduceAdd, Nat.reduceBEq, isLd, fa0_0, fa0_1, fa0_2, fa0_3]
  by_cases g0 : q0 < 0
  · simp (maxSteps := 300000) (disch := omega) only [gs, gs2, gs3, gs4, ↓reduceIte, Nat.reduceEqDiff, Int.reduceToNat, Nat.reduceMul, Nat.reduceAdd, Nat.reduceBEq, isLd, g0, fa0_0, fa0_1, fa0_2, fa0_3]
  simp (maxSteps := 300000) (disch := omega) only [gs, gs2, gs3, gs4, ↓reduceIte, Nat.reduceEqDiff, Int.reduceToNat, Nat.reduceMul, Nat.reduceAdd, Nat.reduceBEq, isLd, g0, fa0_0, fa0_1, fa0_2, fa0_3]
  have z0 := q0c (by omega)
  refine laws_toSheaf_new (s := x0) h0 z0 fun ms0 G2 ns0 => ?_
  have s2 := ns0.sub
  have h0 := h0.sub s2
  have h1 := h1.sub s2
  have h2 := h2.sub s2
  have fa0_0 := rd_sub s2 fa0_0
  have fa0_1 := rd_sub s2 fa0_1
  have fa0_2 := rd_sub s2 fa0_2
  have fa0_3 := rd_sub s2 fa0_3
  have hs0 := ns0.o.g
  unfold shV shC
  simp (maxSteps := 300000) (disch := omega) only [gs, gs2, gs3, gs4, ↓reduceIte, Nat.reduceEqDiff, Int.reduceToNat, Nat.reduceMul, Nat.reduceAdd, Nat.reduceBEq, isLd, fa0_0, fa0_1, fa0_2, fa0_3]
  refine laws_toInt64S_ok' (N := x1) h1 (by omega) fun As1 G3 s3 hs1 => ?_
  have h0 := h0.sub s3
  have h1 := h1.sub s3
  have h2 := h2.sub s3
  have hs0 := hs0.sub s3
  have fa0_0 := rd_sub s3 fa0_0
  have fa0_1 := rd_sub s3 fa0_1
  have fa0_2 := rd_sub s3 fa0_2
  have fa0_3 := rd_sub s3 fa0_3
  simp (maxSteps := 300000) (disch := omega) only [gs, gs2, gs3, gs4, ↓reduceIte, Nat.reduceEqDiff, Int.reduceToNat, Nat.reduceMul, Nat.reduceAdd, Nat.reduceBEq, isLd, fa0_0, fa0_1, fa0_2, fa0_3]
  refine laws_toInt64S_ok' (N := x2) h2 (by omega) fun As2 G4 s4 hs2 => ?_
  have h0 := h0.sub s4
  have h1 := h1.sub s4
  have h2 := h2.sub s4
  have hs0 := hs0.sub s4
  have hs1 := hs1.sub s4
  have fa0_0 := rd_sub s4 fa0_0
  have fa0_1 := rd_sub s4 fa0_1
  have fa0_2 := rd_sub s4 fa0_2
  have fa0_3 := rd_sub s4 fa0_3
  simp (maxSteps := 300000) (disch := omega) only [gs, gs2, gs3, gs4, ↓reduceIte, Nat.reduceEqDiff, Int.reduceToNat, Nat.reduceMul, Nat.reduceAdd, Nat.reduceBEq, isLd, fa0_0, fa0_1, fa0_2, fa0_3]
  refine spec_AgreesWithin_ok hs0 z0.sm hs1 (by omega) hs2 (by omega) fun w hw => ?_
  simp (maxSteps := 300000) (disch := omega) only [gs, gs2, gs3, gs4, ↓reduceIte, Nat.reduceEqDiff, Int.reduceToNat, Nat.reduceMul, Nat.reduceAdd, Nat.reduceBEq, isLd, fa0_0, fa0_1, fa0_2, fa0_3]
  refine laws_toSheaf_new (s := x0) h0 z0 fun mi0 G5 ni0 => ?_
  have s5 := ni0.sub
  have h0 := h0.sub s5
  have h1 := h1.sub s5
  have h2 := h2.sub s5
  have hs0 := hs0.sub s5
  have hs1 := hs1.sub s5
  have hs2 := hs2.sub s5
  have fa0_0 := rd_sub s5 fa0_0
  have fa0_1 := rd_sub s5 fa0_1
  have fa0_2 := rd_sub s5 fa0_2
  have fa0_3 := rd_sub s5 fa0_3
  have hi0 := ni0.o.g
  unfold shV shC
  simp (maxSteps := 300000) (disch := omega) only [gs, gs2, gs3, gs4, ↓reduceIte, Nat.reduceEqDiff, Int.reduceToNat, Nat.reduceMul, Nat.reduceAdd, Nat.reduceBEq, isLd, fa0_0, fa0_1, fa0_2, fa0_3]
  intro p3 hp3
  simp (maxSteps := 300000) (disch := omega) only [gs, gs2, gs3, gs4, ↓reduceIte, Nat.reduceEqDiff, Int.reduceToNat, Nat.reduceMul, Nat.reduceAdd, Nat.reduceBEq, isLd, fa0_0, fa0_1, fa0_2, fa0_3]
  refine st_fresh (vs := [.slice mi0.A x0.base.length mi0.c, .int .i64 x0.p, .slice mi0.S x0.st.length mi0.e, .slice mi0.M x0.ms.length mi0.l]) rfl rfl rfl (by intro v hv; simp only [List.mem_cons, List.not_mem_nil, or_false] at hv; rcases hv with rfl | rfl | rfl | rfl <;> rfl) ?_
  generalize hG6 : put G5 p3 ⟨[.slice mi0.A x0.base.length mi0.c, .int .i64 x0.p, .slice mi0.S x0.st.length mi0.e, .slice mi0.M x0.ms.length mi0.l], true⟩ = G6
  have s6 : Sub G5 G6 := hG6 ▸ Sub.put hp3 _
  have h0 := h0.sub s6
  have h1 := h1.sub s6
  have h2 := h2.sub s6
  have hs0 := hs0.sub s6
  have hs1 := hs1.sub s6
  have hs2 := hs2.sub s6
  have hi0 := hi0.sub s6
  have fa0_0 := rd_sub s6 fa0_0
  have fa0_1 := rd_sub s6 fa0_1
  have fa0_2 := rd_sub s6 fa0_2
  have fa0_3 := rd_sub s6 fa0_3
  have fi0_0 : rd G6 (some ⟨p3, 0, none⟩) = some (.slice mi0.A x0.base.length mi0.c) := by rw [← hG6]; exact rd_box _ _ _ 0 _ rfl
  have fi0_1 : rd G6 (some ⟨p3, 1, none⟩) = some (.int .i64 x0.p) := by rw [← hG6]; exact rd_box _ _ _ 1 _ rfl
  have fi0_2 : rd G6 (some ⟨p3, 2, none⟩) = some (.slice mi0.S x0.st.length mi0.e) := by rw [← hG6]; exact rd_box _ _ _ 2 _ rfl
  have fi0_3 : rd G6 (some ⟨p3, 3, none⟩) = some (.slice mi0.M x0.ms.length mi0.l) := by rw [← hG6]; exact rd_box _ _ _ 3 _ rfl
  simp (maxSteps := 300000) (disch := omega) only [gs, gs2, gs3, gs4, ↓reduceIte, Nat.reduceEqDiff, Int.reduceToNat, Nat.reduceMul, Nat.reduceAdd, Nat.reduceBEq, isLd, fa0_0, fa0_1, fa0_2, fa0_3, fi0_0, fi0_1, fi0_2, fi0_3]
  refine laws_toInt64S_ok' (N := x1) h1 (by omega) fun Ai1 G7 s7 hi1 => ?_
  have h0 := h0.sub s7
  have h1 := h1.sub s7
  have h2 := h2.sub s7
  have hs0 := hs0.sub s7
  have hs1 := hs1.sub s7
  have hs2 := hs2.sub s7
  have hi0 := hi0.sub s7
  have fa0_0 := rd_sub s7 fa0_0
  have fa0_1 := rd_sub s7 fa0_1
  have fa0_2 := rd_sub s7 fa0_2
  have fa0_3 := rd_sub s7 fa0_3
  have fi0_0 := rd_sub s7 fi0_0
  have fi0_1 := rd_sub s7 fi0_1
  have fi0_2 := rd_sub s7 fi0_2
  have fi0_3 := rd_sub s7 fi0_3
  simp (maxSteps := 300000) (disch := omega) only [gs, gs2, gs3, gs4, ↓reduceIte, Nat.reduceEqDiff, Int.reduceToNat, Nat.reduceMul, Nat.reduceAdd, Nat.reduceBEq, isLd, fa0_0, fa0_1, fa0_2, fa0_3, fi0_0, fi0_1, fi0_2, fi0_3]
  refine laws_toInt64S_ok' (N := x2) h2 (by omega) fun Ai2 G8 s8 hi2 => ?_
  have h0 := h0.sub s8
  have h1 := h1.sub s8
  have h2 := h2.sub s8
  have hs0 := hs0.sub s8
  have hs1 := hs1.sub s8
  have hs2 := hs2.sub s8
  have hi0 := hi0.sub s8
  have hi1 := hi1.sub s8
  have fa0_0 := rd_sub s8 fa0_0
  have fa0_1 := rd_sub s8 fa0_1
  have fa0_2 := rd_sub s8 fa0_2
  have fa0_3 := rd_sub s8 fa0_3
  have fi0_0 := rd_sub s8 fi0_0
  have fi0_1 := rd_sub s8 fi0_1
  have fi0_2 := rd_sub s8 fi0_2
  have fi0_3 := rd_sub s8 fi0_3
  simp (maxSteps := 300000) (disch := omega) only [gs, gs2, gs3, gs4, ↓reduceIte, Nat.reduceEqDiff, Int.reduceToNat, Nat.reduceMul, Nat.reduceAdd, Nat.reduceBEq, isLd, fa0_0, fa0_1, fa0_2, fa0_3, fi0_0, fi0_1, fi0_2, fi0_3]
  refine impl_AgreesWithin_ok hi0 z0.sm hi1 (by omega) hi2 (by omega) fun z hz => ?_
  obtain rfl : z = w := Bool.eq_iff_iff.2 (hz.trans hw.symm)
  simp (maxSteps := 300000) (disch := omega) only [gs, gs2, gs3, gs4, ↓reduceIte, Nat.reduceEqDiff, Int.reduceToNat, Nat.reduceMul, Nat.reduceAdd, Nat.reduceBEq, isLd, eq_self, fa0_0, fa0_1, fa0_2, fa0_3, fi0_0, fi0_1, fi0_2, fi0_3]
  refine laws_toSheaf_new (s := x0) h0 z0 fun me0 G9 ne0 => ?_
  have s9 := ne0.sub
  have h0 := h0.sub s9
  have h1 := h1.sub s9
  have h2 := h2.sub s9
  have hs0 := hs0.sub s9
  have hs1 := hs1.sub s9
  have hs2 := hs2.sub s9
  have hi0 := hi0.sub s9
  have hi1 := hi1.sub s9
  have hi2 := hi2.sub s9
  have fa0_0 := rd_sub s9 fa0_0
  have fa0_1 := rd_sub s9 fa0_1
  have fa0_2 := rd_sub s9 fa0_2
  have fa0_3 := rd_sub s9 fa0_3
  have fi0_0 := rd_sub s9 fi0_0
  have fi0_1 := rd_sub s9 fi0_1
  have fi0_2 := rd_sub s9 fi0_2
  have fi0_3 := rd_sub s9 fi0_3
  have he0 := ne0.o.g
  unfold shV shC
  simp (maxSteps := 300000) (disch := omega) only [gs, gs2, gs3, gs4, ↓reduceIte, Nat.reduceEqDiff, Int.reduceToNat, Nat.reduceMul, Nat.reduceAdd, Nat.reduceBEq, isLd, fa0_0, fa0_1, fa0_2, fa0_3, fi0_0, fi0_1, fi0_2, fi0_3]
  refine laws_eqSheaf_ok (s := x0) hi0 he0 z0 ?_
  simp (maxSteps := 300000) (disch := omega) only [gs, gs2, gs3, gs4, ↓reduceIte, Nat.reduceEqDiff, Int.reduceToNat, Nat.reduceMul, Nat.reduceAdd, Nat.reduceBEq, isLd, fa0_0, fa0_1, fa0_2, fa0_3, fi0_0, fi0_1, fi0_2, fi0_3]
  refine laws_toInt64S_ok' (N := x1) h1 (by omega) fun Ae1 G10 s10 he1 => ?_
  have h0 := h0.sub s10
  have h1 := h1.sub s10
  have h2 := h2.sub s10
  have hs0 := hs0.sub s10
  have hs1 := hs1.sub s10
  have hs2 := hs2.sub s10
  have hi0 := hi0.sub s10
  have hi1 := hi1.sub s10
  have hi2 := hi2.sub s10
  have he0 := he0.sub s10
  have fa0_0 := rd_sub s10 fa0_0
  have fa0_1 := rd_sub s10 fa0_1
  have fa0_2 := rd_sub s10 fa0_2
  have fa0_3 := rd_sub s10 fa0_3
  have fi0_0 := rd_sub s10 fi0_0
  have fi0_1 := rd_sub s10 fi0_1
  have fi0_2 := rd_sub s10 fi0_2
  have fi0_3 := rd_sub s10 fi0_3
  simp (maxSteps := 300000) (disch := omega) only [gs, gs2, gs3, gs4, ↓reduceIte, Nat.reduceEqDiff, Int.reduceToNat, Nat.reduceMul, Nat.reduceAdd, Nat.reduceBEq, isLd, fa0_0, fa0_1, fa0_2, fa0_3, fi0_0, fi0_1, fi0_2, fi0_3]
  refine laws_eqInt64S_ok hi1 he1 (by omega) ?_
  simp (maxSteps := 300000) (disch := omega) only [gs, gs2, gs3, gs4, ↓reduceIte, Nat.reduceEqDiff, Int.reduceToNat, Nat.reduceMul, Nat.reduceAdd, Nat.reduceBEq, isLd, eq_self, fa0_0, fa0_1, fa0_2, fa0_3, fi0_0, fi0_1, fi0_2, fi0_3]
  refine laws_toInt64S_ok' (N := x2) h2 (by omega) fun Ae2 G11 s11 he2 => ?_
  have h0 := h0.sub s11
  have h1 := h1.sub s11
  have h2 := h2.sub s11
  have hs0 := hs0.sub s11
  have hs1 := hs1.sub s11
  have hs2 := hs2.sub s11
  have hi0 := hi0.sub s11
  have hi1 := hi1.sub s11
  have hi2 := hi2.sub s11
  have he0 := he0.sub s11
  have he1 := he1.sub s11
  have fa0_0 := rd_sub s11 fa0_0
  have fa0_1 := rd_sub s11 fa0_1
  have fa0_2 := rd_sub s11 fa0_2
  have fa0_3 := rd_sub s11 fa0_3
  have fi0_0 := rd_sub s11 fi0_0
  have fi0_1 := rd_sub s11 fi0_1
  have fi0_2 := rd_sub s11 fi0_2
  have fi0_3 := rd_sub s11 fi0_3
  simp (maxSteps := 300000) (disch := omega) only [gs, gs2, gs3, gs4, ↓reduceIte, Nat.reduceEqDiff, Int.reduceToNat, Nat.reduceMul, Nat.reduceAdd, Nat.reduceBEq, isLd, fa0_0, fa0_1, fa0_2, fa0_3, fi0_0, fi0_1, fi0_2, fi0_3]
  refine laws_eqInt64S_ok hi2 he2 (by omega) ?_
  simp (maxSteps := 300000) (disch := omega) only [gs, gs2, gs3, gs4, ↓reduceIte, Nat.reduceEqDiff, Int.reduceToNat, Nat.reduceMul, Nat.reduceAdd, Nat.reduceBEq, isLd, eq_self, fa0_0, fa0_1, fa0_2, fa0_3, fi0_0, fi0_1, fi0_2, fi0_3]

end Go.Proofs.YtdnipjkpfpahmaaGreat.Gh
