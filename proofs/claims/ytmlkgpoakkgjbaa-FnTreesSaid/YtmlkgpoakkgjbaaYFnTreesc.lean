/- What the functions that the law FnTrees reaches return, and the law; it stands under no condition. -/
import Derived.Test.YtmlkgpoakkgjbaaYFnTreesb
namespace Go.Proofs.Ytmlkgpoakkgjbaa.Gh
open Go Go.RowKit Go.Proofs
set_option linter.unusedVariables false
set_option linter.unusedSimpArgs false
set_option maxHeartbeats 4000000

theorem dt_step {p : Int} {m : Nat} {G H : Int → Int → Int} {k : Int → Int} (h1 : ∀ i j : Nat, i < m → j < m → H i j % p = (G ((i : Int) + 1) ((j : Int) + 1) + k ((i : Int) + 1) * G 0 ((j : Int) + 1)) % p)
    (h2 : ∀ i : Nat, i < m → (G ((i : Int) + 1) 0 + k ((i : Int) + 1) * G 0 0) % p = 0) : dt (m + 1) G % p = G 0 0 * dt m H % p := by
  have e1 := dt_clear (n := m + 1) G k (by omega) (m + 1) (Nat.le_refl _)
  have e2 : dt (m + 1) (fun i j => if 1 ≤ i ∧ i < ((m + 1 : Nat) : Int) then G i j + k i * G 0 j else G i j) % p = dt (m + 1) (fun i j => if 1 ≤ i ∧ j = 0 then 0 else if 1 ≤ i ∧ i < ((m + 1 : Nat) : Int) then G i j + k i * G 0 j else G i j) % p := by
    refine dt_mod (m + 1) fun i j hi hj => ?_
    try dsimp only
    by_cases c : 1 ≤ (i : Int) ∧ (j : Int) = 0
    · rw [if_pos (by omega), if_pos c, c.2]
      have := h2 (i - 1) (by omega)
      rw [show (((i - 1 : Nat) : Int) + 1) = i by omega] at this
      rw [this, Int.zero_emod]
    · rw [if_neg c]
  have e3 := dt_col (n := m) (f := fun i j => if 1 ≤ i ∧ j = 0 then 0 else if 1 ≤ i ∧ i < ((m + 1 : Nat) : Int) then G i j + k i * G 0 j else G i j) (fun i hi _ => if_pos ⟨by omega, rfl⟩)
  rw [← e1, e2, e3]
  have e4 : dt m (dlr 0 (fun i j => if 1 ≤ i ∧ j = 0 then 0 else if 1 ≤ i ∧ i < ((m + 1 : Nat) : Int) then G i j + k i * G 0 j else G i j)) % p = dt m H % p := by
    refine dt_mod m fun i j hi hj => ?_
    unfold dlr
    rw [if_neg (show ¬ (i : Int) < 0 by omega)]
    try dsimp only
    rw [if_neg (by omega), if_pos (by omega), h1 i j hi hj]
  try dsimp only
  rw [if_neg (by omega), if_neg (by omega), Int.mul_emod, e4, ← Int.mul_emod]
def shf (c : Nat) (f : Int → Int → Int) : Int → Int → Int := fun i j => f (i + c) (j + c)
theorem shf_swp (f : Int → Int → Int) {c i : Nat} (h : c ≤ i) : shf c (swp f c i) = swp (shf c f) 0 ((i - c : Nat) : Int) := by
  funext a b
  unfold shf swp
  by_cases a1 : a = 0
  · rw [if_pos (by omega), if_pos a1]; dsimp only; congr 1; omega
  · by_cases a2 : a = ((i - c : Nat) : Int)
    · rw [if_neg (by omega), if_pos (by omega), if_neg a1, if_pos a2]; dsimp only; congr 1; omega
    · rw [if_neg (by omega), if_neg (by omega), if_neg a1, if_neg a2]
theorem swp_self (f : Int → Int → Int) (a : Int) : swp f a a = f := by
  funext i; unfold swp
  by_cases h : i = a
  · rw [if_pos h, h]
  · rw [if_neg h, if_neg h]
theorem dt_shf_swp {n c i : Nat} (f : Int → Int → Int) (h : c ≤ i) (hi : i < n) : dt (n - c) (shf c (swp f c i)) = if i = c then dt (n - c) (shf c f) else -dt (n - c) (shf c f) := by
  by_cases e : i = c
  · subst e; rw [swp_self, if_pos rfl]
  · rw [if_neg e, shf_swp f h]
    exact dt_swp (n := n - c) (shf c f) (r := 0) (s := i - c) (by omega) (by omega)
/-- the elimination of the program. -/
theorem elF_dt {p : Int} (hp : 1 < p) (hI : HasInv p) {n : Nat} {f : Int → Int → Int} (hr : Rng f p) : ∀ c, c ≤ n →
    ((elF p n f c).piv.length = c ∧ (elF p n f c).det * dt (n - c) (shf c (elF p n f c).f) % p = dt n f % p) ∨ ((elF p n f c).det = 0 ∧ dt n f % p = 0 ∧ (elF p n f c).piv.length ≤ c)
  | 0, _ => .inl ⟨rfl, by
    show 1 * dt n (shf 0 f) % p = _
    rw [Int.one_mul]
    congr 2
    funext i j; unfold shf; simp⟩
  | c + 1, hc => by
    have hrg := elF_rng (R := n) (by omega : 0 < p) hr c
    have hdt := elF_det hp n f c
    rcases elF_dt (n := n) hp hI hr c (by omega) with ⟨hl, hd⟩ | ⟨h0, hd, hl⟩
    · show ((elS p n (elF p n f c) c).piv.length = c + 1 ∧ (elS p n (elF p n f c) c).det * dt (n - (c + 1)) (shf (c + 1) (elS p n (elF p n f c) c).f) % p = dt n f % p) ∨ ((elS p n (elF p n f c) c).det = 0 ∧ dt n f % p = 0 ∧ (elS p n (elF p n f c) c).piv.length ≤ c + 1)
      generalize elF p n f c = s at *
      have hz : fstRow s.f c s.piv.length n = none → s.det * dt (n - c) (shf c s.f) = 0 := fun e => by
        have : dt (n - c) (shf c s.f) = 0 := by
          rw [show n - c = (n - c - 1) + 1 by omega]
          refine dt_zcol fun i hi => ?_
          unfold fstRow at e
          rw [List.find?_eq_none] at e
          have := e (i + c) (List.mem_range'_1.2 (by omega))
          simp at this
          unfold shf
          rw [Int.zero_add]; exact this
        rw [this, Int.mul_zero]
      unfold elS
      split
      · rename_i e
        refine .inr ⟨rfl, ?_, show s.piv.length ≤ c + 1 by omega⟩
        rw [hz e, Int.zero_emod] at hd
        exact hd.symm
      · rename_i i e
        have hs := fstRow_spec e
        rw [hl] at hs
        refine .inl ⟨by simp [hl], ?_⟩
        try dsimp only
        rw [hl]
        have hg : swp s.f c i c = s.f i := by unfold swp; rw [if_pos rfl]
        have h0 := hrg i c
        have hinv := hI _ (by omega : 0 < s.f i c) h0.2
        have hsw := dt_shf_swp (n := n) s.f hs.1 hs.2.1
        rw [hg]
        have hlead : shf c (swp s.f c i) 0 0 = s.f i c := by unfold shf; rw [Int.zero_add, hg]
        generalize swp s.f c i = g at *
        have hst := dt_step (p := p) (m := n - c - 1) (G := shf c g) (H := shf (c + 1) (clr (scl g c (invF (s.f i c) p) p) c c p)) (k := fun a => (p - g (a + c) c) * invF (s.f i c) p)
          (fun a b ha hb => by
            unfold shf clr
            rw [if_neg (by omega), Int.emod_emod_of_dvd _ (Int.dvd_refl p)]
            have e1 : ∀ j, scl g c (invF (s.f i c) p) p ((a : Int) + ((c + 1 : Nat) : Int)) j = g ((a : Int) + 1 + c) j := fun j => by
              unfold scl; rw [if_neg (by omega)]; congr 1; omega
            have e2 : ∀ j, scl g c (invF (s.f i c) p) p c j = g c j * invF (s.f i c) p % p := fun j => by unfold scl; rw [if_pos rfl]
            rw [e1, e1, e2, Int.zero_add, show (b : Int) + ((c + 1 : Nat) : Int) = (b : Int) + 1 + c by omega]
            rw [Int.add_emod, mul_mod_r, ← Int.add_emod, Int.mul_comm (g c _), Int.mul_assoc])
          (fun a ha => by
            unfold shf
            rw [Int.zero_add, hg, Int.mul_assoc, Int.mul_comm (invF _ _), Int.add_emod, ← mul_mod_r, hinv, Int.mul_one, ← Int.add_emod]
            rw [show ∀ x : Int, x + (p - x) = p from fun x => by omega, Int.emod_self])
        rw [hlead, show n - c - 1 + 1 = n - c by omega, show n - c - 1 = n - (c + 1) by omega] at hst
        rw [mul_mod_l, Int.mul_assoc, ← mul_mod_r, ← hst, mul_mod_r, hsw]
        by_cases c1 : i = c
        · rw [if_pos c1, if_pos c1]; exact hd
        · rw [if_neg c1, if_neg c1, mul_mod_l, Int.neg_mul_neg]; exact hd
    · refine .inr ⟨?_, hd, ?_⟩
      · show (elS p n (elF p n f c) c).det = 0
        unfold elS
        split
        · rfl
        · dsimp only; rw [h0]; simp
      · have := (elF_len p n f (c + 1)).2; omega
theorem elF_dt' {p : Int} (hp : 1 < p) (hI : HasInv p) {n : Nat} {f : Int → Int → Int} (hr : Rng f p) : (elF p n f n).det = dt n f % p := by
  have hb := elF_det hp n f n
  rcases elF_dt hp hI hr n (Nat.le_refl _) with ⟨_, h⟩ | ⟨h0, h, _⟩
  · rw [Nat.sub_self] at h
    rw [← h]
    show _ = _ * 1 % p
    rw [Int.mul_one, Int.emod_eq_of_lt hb.1 hb.2]
  · rw [h0, h]
def ch : Nat → Nat → Nat
  | _, 0 => 1
  | 0, _ + 1 => 0
  | n + 1, k + 1 => ch n k + ch n (k + 1)
theorem ch_zero : ∀ {n k : Nat}, n < k → ch n k = 0
  | _, 0, h => by omega
  | 0, k + 1, _ => rfl
  | n + 1, k + 1, h => by show ch n k + ch n (k + 1) = 0; rw [ch_zero (by omega), ch_zero (by omega)]
theorem ch_self : ∀ n, ch n n = 1
  | 0 => rfl
  | n + 1 => by show ch n n + ch n (n + 1) = 1; rw [ch_self n, ch_zero (by omega)]
theorem ch_mul : ∀ n k, ch (n + 1) (k + 1) * (k + 1) = (n + 1) * ch n k
  | 0, 0 => rfl
  | 0, k + 1 => by
    show (ch 0 (k + 1) + ch 0 (k + 2)) * (k + 1 + 1) = (0 + 1) * ch 0 (k + 1)
    simp [ch]
  | n + 1, 0 => by
    have h := ch_mul n 0
    show (ch (n + 1) 0 + ch (n + 1) 1) * 1 = (n + 1 + 1) * ch (n + 1) 0
    have e0 : ch (n + 1) 0 = 1 := by cases n <;> rfl
    have e1 : ch n 0 = 1 := by cases n <;> rfl
    rw [e0]; rw [e1] at h
    simp at h ⊢; omega
  | n + 1, k + 1 => by
    have h1 := ch_mul n k
    have h2 := ch_mul n (k + 1)
    have e : ch (n + 1) (k + 1) = ch n k + ch n (k + 1) := rfl
    show (ch (n + 1) (k + 1) + ch (n + 1) (k + 2)) * (k + 1 + 1) = (n + 1 + 1) * ch (n + 1) (k + 1)
    rw [Nat.add_mul, h2, Nat.mul_add (ch (n + 1) (k + 1)), h1, Nat.mul_one, Nat.add_mul (n + 1) 1, Nat.one_mul]
    rw [show (n + 1) * ch (n + 1) (k + 1) = (n + 1) * ch n k + (n + 1) * ch n (k + 1) by rw [e, Nat.mul_add]]
    omega
theorem prime_dvd {p k : Nat} (hp : ∀ d, d ∣ p → d = 1 ∨ d = p) (h0 : 0 < k) (h1 : k < p) : Nat.Coprime p k := by
  rcases hp (Nat.gcd p k) (Nat.gcd_dvd_left p k) with h | h
  · exact h
  · have := Nat.le_of_dvd h0 (h ▸ Nat.gcd_dvd_right p k); omega
theorem ch_dvd {p k : Nat} (hp : ∀ d, d ∣ p → d = 1 ∨ d = p) (h0 : 0 < k) (h1 : k < p) : p ∣ ch p k := by
  obtain ⟨n, rfl⟩ : ∃ n, p = n + 1 := ⟨p - 1, by omega⟩
  obtain ⟨j, rfl⟩ : ∃ j, k = j + 1 := ⟨k - 1, by omega⟩
  have h := ch_mul n j
  exact (prime_dvd hp h0 h1).dvd_of_dvd_mul_right ⟨ch n j, h⟩
def smN (g : Nat → Nat) : Nat → Nat
  | 0 => 0
  | n + 1 => smN g n + g n
theorem smN_head (g : Nat → Nat) : ∀ n, smN g (n + 1) = g 0 + smN (fun i => g (i + 1)) n
  | 0 => by simp [smN]
  | n + 1 => by
    show smN g (n + 1) + g (n + 1) = g 0 + (smN (fun i => g (i + 1)) n + g (n + 1))
    rw [smN_head g n]; omega
theorem smN_add (g h : Nat → Nat) : ∀ n, smN (fun i => g i + h i) n = smN g n + smN h n
  | 0 => rfl
  | n + 1 => by simp only [smN, smN_add g h n]; omega
theorem smN_mul (g : Nat → Nat) (a : Nat) : ∀ n, smN (fun i => a * g i) n = a * smN g n
  | 0 => rfl
  | n + 1 => by simp only [smN, smN_mul g a n, Nat.mul_add]
theorem smN_congr {g h : Nat → Nat} : ∀ n, (∀ i, i < n → g i = h i) → smN g n = smN h n
  | 0, _ => rfl
  | n + 1, hh => by simp only [smN]; rw [smN_congr n fun i hi => hh i (by omega), hh n (by omega)]
theorem binom (x : Nat) : ∀ n, (x + 1) ^ n = smN (fun k => ch n k * x ^ k) (n + 1)
  | 0 => by simp [smN, ch]
  | n + 1 => by
    rw [Nat.pow_succ, binom x n, Nat.mul_add, Nat.mul_one]
    rw [smN_head (fun k => ch (n + 1) k * x ^ k) (n + 1)]
    have e1 : smN (fun i => ch (n + 1) (i + 1) * x ^ (i + 1)) (n + 1) = smN (fun i => x * (ch n i * x ^ i) + ch n (i + 1) * x ^ (i + 1)) (n + 1) := smN_congr _ fun i _ => by
      show (ch n i + ch n (i + 1)) * x ^ (i + 1) = _
      rw [Nat.add_mul, Nat.pow_succ, Nat.mul_left_comm x, Nat.mul_comm x]
    rw [e1, smN_add, smN_mul (fun i => ch n i * x ^ i) x]
    have e2 : smN (fun i => ch n (i + 1) * x ^ (i + 1)) (n + 1) = smN (fun i => ch n (i + 1) * x ^ (i + 1)) n := by
      show _ + ch n (n + 1) * x ^ (n + 1) = _
      rw [ch_zero (by omega)]; simp
    have e3 := smN_head (fun k => ch n k * x ^ k) n
    have e4 : ch n 0 = 1 := by cases n <;> rfl
    have e5 : ch (n + 1) 0 = 1 := rfl
    try dsimp only at e3
    rw [e2, e5]
    rw [e4] at e3
    rw [Nat.mul_comm _ x]
    omega
theorem smN_dvd {g : Nat → Nat} {p : Nat} : ∀ n, (∀ i, i < n → p ∣ g i) → p ∣ smN g n
  | 0, _ => Nat.dvd_zero p
  | n + 1, h => Nat.dvd_add (smN_dvd n fun i hi => h i (by omega)) (h n (by omega))
theorem fermat {p : Nat} (h1 : 1 < p) (hp : ∀ d, d ∣ p → d = 1 ∨ d = p) : ∀ a : Nat, a ^ p % p = a % p
  | 0 => by rw [Nat.zero_pow (by omega)]
  | a + 1 => by
    rw [binom a p]
    show (smN (fun k => ch p k * a ^ k) p + ch p p * a ^ p) % p = _
    rw [ch_self, Nat.one_mul]
    obtain ⟨n, rfl⟩ : ∃ n, p = n + 1 := ⟨p - 1, by omega⟩
    rw [smN_head]
    have e4 : ch (n + 1) 0 = 1 := rfl
    have hd : (n + 1) ∣ smN (fun i => ch (n + 1) (i + 1) * a ^ (i + 1)) n := smN_dvd n fun i hi => Nat.dvd_mul_right_of_dvd (ch_dvd hp (by omega) (by omega)) _
    try dsimp only
    rw [e4, Nat.pow_zero, Nat.one_mul, Nat.add_mod, Nat.add_mod 1, Nat.mod_eq_zero_of_dvd hd, Nat.add_zero, Nat.mod_mod, ← Nat.add_mod, Nat.add_mod, fermat h1 hp a, ← Nat.add_mod, Nat.add_comm]
theorem pw_pow {a p : Nat} : ∀ n, pw (a : Int) p n % (p : Int) = ((a ^ n % p : Nat) : Int)
  | 0 => by simp [pw]
  | n + 1 => by
    show pw (a : Int) p n * a % p % p = _
    rw [Int.emod_emod_of_dvd _ (Int.dvd_refl _), ← mul_mod_l, pw_pow n, Nat.pow_succ]
    push_cast
    rw [mul_mod_l]
theorem hasInv_prime {p : Nat} (h1 : 2 < p) (hp : ∀ d, d ∣ p → d = 1 ∨ d = p) : HasInv p := by
  intro a h0 ha
  obtain ⟨b, rfl⟩ : ∃ b : Nat, a = b := ⟨a.toNat, by omega⟩
  unfold invF
  rw [show ((p : Int) - 2).toNat = p - 2 by omega, ← mul_mod_r, pw_pow, Int.natCast_emod, mul_mod_r]
  have hf := fermat (by omega) hp b
  have e : b ^ p = b * (b * b ^ (p - 2)) := by
    have : p = (p - 2) + 1 + 1 := by omega
    rw [this, Nat.pow_succ, Nat.pow_succ]
    rw [show (p - 2 + 1 + 1) - 2 = p - 2 by omega, Nat.mul_comm (b ^ (p - 2) * b) b, Nat.mul_comm (b ^ (p - 2)) b]
  rw [e] at hf
  have hge : 1 ≤ b * b ^ (p - 2) := Nat.mul_pos (by omega) (Nat.pow_pos (by omega))
  have hdvd : p ∣ b * (b * b ^ (p - 2) - 1) := by
    rw [Nat.mul_sub, Nat.mul_one]
    exact Nat.dvd_of_mod_eq_zero (Nat.sub_mod_eq_zero_of_mod_eq hf)
  have h2 := (prime_dvd hp (by omega : 0 < b) (by omega)).dvd_of_dvd_mul_left hdvd
  obtain ⟨c, hc⟩ := h2
  have : b * b ^ (p - 2) = p * c + 1 := by omega
  have h3 : (b * b ^ (p - 2)) % p = 1 := by rw [this, Nat.mul_add_mod, Nat.mod_eq_of_lt (by omega)]
  have := congrArg (Nat.cast (R := Int)) h3
  push_cast at this
  exact this
/-- no divisor from k on, for as many as the fuel. -/
def noDiv (p : Nat) : Nat → Nat → Bool
  | 0, _ => true
  | f + 1, k => if p % k = 0 then false else noDiv p f (k + 1)
theorem noDiv_ok {p : Nat} : ∀ {f k : Nat}, noDiv p f k = true → ∀ d, k ≤ d → d < k + f → p % d ≠ 0
  | 0, k, _, d, h1, h2 => by omega
  | f + 1, k, h, d, h1, h2 => by
    unfold noDiv at h
    split at h
    · cases h
    · rename_i h0
      by_cases e : d = k
      · rw [e]; exact h0
      · exact noDiv_ok h d (by omega) (by omega)
theorem prime_of {p f : Nat} (h1 : 1 < p) (h : noDiv p f 2 = true) (hf : p < (f + 2) * (f + 2)) : ∀ d, d ∣ p → d = 1 ∨ d = p := by
  intro d hd
  obtain ⟨e, he⟩ := hd
  have hd0 : 0 < d := Nat.pos_of_ne_zero fun x => by rw [x] at he; omega
  have he0 : 0 < e := Nat.pos_of_ne_zero fun x => by rw [x] at he; omega
  by_cases c1 : d < f + 2
  · by_cases c2 : d = 1
    · exact .inl c2
    · exact absurd (by rw [he]; exact Nat.mul_mod_right d e) (noDiv_ok h d (by omega) (by omega))
  · have c3 : e < f + 2 := by
      apply Classical.byContradiction
      intro c
      have : (f + 2) * (f + 2) ≤ d * e := Nat.mul_le_mul (by omega) (by omega)
      omega
    by_cases c4 : e = 1
    · exact .inr (by rw [he, c4, Nat.mul_one])
    · exact absurd (by rw [he]; exact Nat.mul_mod_left d e) (noDiv_ok h e (by omega) (by omega))
theorem hasInv_7 : HasInv 1000000007 := hasInv_prime (p := 1000000007) (by omega) (prime_of (f := 31630) (by omega) (by decide +kernel) (by decide))
theorem hasInv_9 : HasInv 1000000009 := hasInv_prime (p := 1000000009) (by omega) (prime_of (f := 31630) (by omega) (by decide +kernel) (by decide))
theorem Own.away {G : GH} {A : Option Addr} {c sz n x : Nat} {cs : List Value} (h : Own G A c cs sz n) (hx : ∀ a, A = some a → a.block ≠ x) (e : Ent) : Own (Gh.put G x e) A c cs sz n := by
  rcases h with h | ⟨y, r, rfl, h2, h3⟩
  · exact .inl h
  · exact .inr ⟨y, r, rfl, by rw [put_ne _ _ (hx _ rfl)]; exact h2, h3⟩
theorem Own.ne {G : GH} {A : Option Addr} {c sz n x : Nat} {cs : List Value} (h : Own G A c cs sz n) (hx : G x = none) : ∀ a, A = some a → a.block ≠ x := fun a ha e => by
  rcases h with ⟨h1, _⟩ | ⟨y, r, h1, h2, _⟩
  · rw [h1] at ha; cases ha
  · rw [h1] at ha; cases ha
    dsimp only at e
    rw [e, hx] at h2; cases h2
theorem Own.put {G : GH} {A : Option Addr} {c sz n b : Nat} {cs : List Value} (h : Own G A c cs sz n) (hne : ∀ a, A = some a → a.block ≠ b) (e : Ent) : Own (Gh.put G b e) A c cs sz n := by
  rcases h with h | ⟨b', r, h1, h2, h3⟩
  · exact .inl h
  · exact .inr ⟨b', r, h1, by rw [put_ne _ _ (hne _ h1)]; exact h2, h3⟩
theorem parts_len (n : Nat) (es : List T3) : (parts n es).length = n := by simp [parts]
theorem lap_row {N : Gra} (hn : GraOk N) (i : Int) : ∀ k : Nat, k ≤ N.edges.length → sumN (fun j => lapK N.edges k i j) N.n.toNat = 0
  | 0, _ => by simp only [lapK]; exact sumN_zero _
  | k + 1, hk => by
    have h1 := hn.1
    obtain ⟨o1, o2, o3, o4⟩ := hn.2.1 k (by omega)
    have e : (fun j => lapK N.edges (k + 1) i j) = fun j => lapK N.edges k i j + ((if j = (N.edges.getD k z3).1 then (if i = (N.edges.getD k z3).1 then (N.edges.getD k z3).2.2 else 0) - (if i = (N.edges.getD k z3).2.1 then (N.edges.getD k z3).2.2 else 0) else 0) + (if j = (N.edges.getD k z3).2.1 then (if i = (N.edges.getD k z3).2.1 then (N.edges.getD k z3).2.2 else 0) - (if i = (N.edges.getD k z3).1 then (N.edges.getD k z3).2.2 else 0) else 0)) := funext fun j => by
      rw [lapK_step hn.okE (by omega)]
      (repeat' split) <;> omega
    rw [e, sumN_add, lap_row hn i k (by omega), sumN_add, sumN_one _ _ o1, sumN_one _ _ (show 0 ≤ (N.edges.getD k z3).2.1 by omega), if_pos (show (N.edges.getD k z3).1 < (N.n.toNat : Int) by omega), if_pos (show (N.edges.getD k z3).2.1 < (N.n.toNat : Int) by omega)]
    (repeat' split) <;> omega
def lsum (g : Int → Int) (ks : List Int) : Int := (ks.map g).sum
theorem lsum_app (g : Int → Int) (a b : List Int) : lsum g (a ++ b) = lsum g a + lsum g b := by simp [lsum]
theorem lsum_iota (g : Int → Int) : ∀ n, lsum g (iota n) = sumN g n
  | 0 => rfl
  | n + 1 => by rw [iota_succ, lsum_app, lsum_iota g n]; simp [lsum, sumN]
theorem lsum_filter (g : Int → Int) (P : Int → Bool) : ∀ l : List Int, (∀ v ∈ l, P v = false → g v ≤ 0) → lsum g l ≤ lsum g (l.filter P)
  | [], _ => Int.le_refl _
  | a :: l, h => by
    have ih := lsum_filter g P l fun v hv => h v (List.mem_cons_of_mem _ hv)
    have ha := h a List.mem_cons_self
    have e : lsum g (a :: l) = g a + lsum g l := by simp [lsum]
    by_cases hp : P a = true
    · rw [List.filter_cons_of_pos hp, e]
      have e2 : lsum g (a :: l.filter P) = g a + lsum g (l.filter P) := by simp [lsum]
      omega
    · rw [List.filter_cons_of_neg hp, e]
      have := ha (by simpa using hp); omega
theorem lsum_neg (g : Int → Int) : ∀ l : List Int, lsum (fun v => -g v) l = -lsum g l
  | [] => rfl
  | a :: l => by
    have e : lsum g (a :: l) = g a + lsum g l := by simp [lsum]
    have e2 : lsum (fun v => -g v) (a :: l) = -g a + lsum (fun v => -g v) l := by simp [lsum]
    rw [e, e2, lsum_neg g l]; omega
theorem sm_lsum (g : Int → Int) : ∀ ks : List Int, sm (fun j => g (ks.getD j 0)) ks.length = lsum g ks
  | [] => rfl
  | a :: ks => by
    have e : lsum g (a :: ks) = g a + lsum g ks := by simp [lsum]
    rw [List.length_cons, sm_head, e, ← sm_lsum g ks]; rfl
/-- the nodes that are kept, and the rows and columns of these. -/
def keep (n : Nat) (om : List Int) : List Int := (iota n).filter fun v => !om.contains v
def sub (ks : List Int) (f : Int → Int → Int) : Int → Int → Int := fun i j => f (ks.getD i.toNat 0) (ks.getD j.toNat 0)
theorem iota_nodup (n : Nat) : (iota n).Nodup := by
  unfold iota
  exact List.Pairwise.map _ (fun a b h e => h (by omega)) List.nodup_range
theorem nodup_inj {l : List Int} (h : l.Nodup) {i j : Nat} (hi : i < l.length) (hj : j < l.length) (e : l[i] = l[j]) : i = j := by
  have hp := List.pairwise_iff_getElem.1 h
  rcases Nat.lt_trichotomy i j with c | c | c
  · exact absurd e (hp i j hi hj c)
  · exact c
  · exact absurd e.symm (hp j i hj hi c)
theorem keep_nodup (n : Nat) (om : List Int) : (keep n om).Nodup := (iota_nodup n).filter _
theorem mem_iota {n : Nat} {x : Int} : x ∈ iota n ↔ 0 ≤ x ∧ x < n := by
  simp only [iota, List.mem_map, List.mem_range]
  constructor
  · rintro ⟨a, h, rfl⟩; omega
  · intro h; exact ⟨x.toNat, by omega, by omega⟩
theorem lap_off {N : Gra} (hn : GraOk N) {i j : Int} (hij : i ≠ j) : ∀ k : Nat, k ≤ N.edges.length → lapK N.edges k i j ≤ 0
  | 0, _ => Int.le_refl _
  | k + 1, hk => by
    have ih := lap_off hn hij k (by omega)
    obtain ⟨o1, o2, o3, o4⟩ := hn.2.1 k (by omega)
    rw [lapK_step hn.okE (by omega)]
    (repeat' split) <;> omega
theorem lap_diag {N : Gra} (hn : GraOk N) : ∀ k : Nat, k ≤ N.edges.length → (∀ v, 0 ≤ lapK N.edges k v v) ∧ sumN (fun v => lapK N.edges k v v) N.n.toNat ≤ 18 * k
  | 0, _ => ⟨fun v => Int.le_refl _, by simp only [lapK]; rw [sumN_zero]; omega⟩
  | k + 1, hk => by
    have ih := lap_diag hn k (by omega)
    have h1 := hn.1
    obtain ⟨o1, o2, o3, o4⟩ := hn.2.1 k (by omega)
    have e : (fun v => lapK N.edges (k + 1) v v) = fun v => lapK N.edges k v v + ((if v = (N.edges.getD k z3).1 then (N.edges.getD k z3).2.2 else 0) + (if v = (N.edges.getD k z3).2.1 then (N.edges.getD k z3).2.2 else 0)) := funext fun v => by
      rw [lapK_step hn.okE (by omega)]
      (repeat' split) <;> omega
    refine ⟨fun v => ?_, ?_⟩
    · have := congrFun e v
      try dsimp only at this
      rw [this]
      have := ih.1 v
      (repeat' split) <;> omega
    · rw [e, sumN_add, sumN_add, sumN_one _ _ o1, sumN_one _ _ (show 0 ≤ (N.edges.getD k z3).2.1 by omega), if_pos (show (N.edges.getD k z3).1 < (N.n.toNat : Int) by omega), if_pos (show (N.edges.getD k z3).2.1 < (N.n.toNat : Int) by omega)]
      have := ih.2
      omega
theorem minor_dom {N : Gra} (hn : GraOk N) (om : List Int) : Dom (keep N.n.toNat om).length (sub (keep N.n.toNat om) (lapK N.edges N.edges.length)) := fun i hi => by
  have hnd := keep_nodup N.n.toNat om
  refine ⟨fun j hj hne => ?_, ?_⟩
  · unfold sub
    rw [Int.toNat_natCast, Int.toNat_natCast]
    refine lap_off hn (fun e => hne ?_) _ (Nat.le_refl _)
    simp only [List.getD, List.getElem?_eq_getElem hi, List.getElem?_eq_getElem hj, Option.getD_some] at e
    exact nodup_inj hnd hj hi e.symm
  · unfold sub
    simp only [Int.toNat_natCast]
    have hu : (keep N.n.toNat om).getD i 0 ∈ keep N.n.toNat om := by simp [List.getD, hi]
    generalize (keep N.n.toNat om).getD i 0 = u at *
    have h1 := sm_lsum (lapK N.edges N.edges.length u) (keep N.n.toNat om)
    rw [h1]
    have h2 := lsum_filter (lapK N.edges N.edges.length u) (fun v => !om.contains v) (iota N.n.toNat) fun v hv hp => lap_off hn (fun e => by
      subst e
      have := (List.mem_filter.1 hu).2
      rw [this] at hp; cases hp) _ (Nat.le_refl _)
    rw [lsum_iota, lap_row hn u _ (Nat.le_refl _)] at h2
    exact h2
/-- products of few numbers with a small sum. -/
theorem one_bound : ∀ d : Nat, d < 433 → d * 39 ^ d ≤ 15 * 40 ^ d := by decide +kernel
theorem all_bound : ∀ s : Nat, s < 433 → 15 ^ 11 * 40 ^ s < 998244353000000000 * 39 ^ s := by decide +kernel
theorem pr_bound : ∀ (ds : List Nat), ds.sum < 433 → ds.prod * 39 ^ ds.sum ≤ 15 ^ ds.length * 40 ^ ds.sum
  | [], _ => by simp
  | d :: ds, h => by
    rw [List.sum_cons] at h
    have ih := pr_bound ds (by omega)
    have h1 := one_bound d (by omega)
    have e1 : 39 ^ (d + ds.sum) = 39 ^ d * 39 ^ ds.sum := Nat.pow_add _ _ _
    have e2 : 40 ^ (d + ds.sum) = 40 ^ d * 40 ^ ds.sum := Nat.pow_add _ _ _
    have e3 : 15 ^ (ds.length + 1) = 15 ^ ds.length * 15 := Nat.pow_succ _ _
    rw [List.sum_cons, List.prod_cons, List.length_cons, e1, e2, e3]
    have := Nat.mul_le_mul h1 ih
    calc d * ds.prod * (39 ^ d * 39 ^ ds.sum) = d * 39 ^ d * (ds.prod * 39 ^ ds.sum) := by ac_rfl
      _ ≤ 15 * 40 ^ d * (15 ^ ds.length * 40 ^ ds.sum) := this
      _ = 15 ^ ds.length * 15 * (40 ^ d * 40 ^ ds.sum) := by ac_rfl
theorem pr_small {ds : List Nat} (h : ds.sum < 433) (hl : ds.length ≤ 11) : ds.prod < 998244353000000000 := by
  have h1 := pr_bound ds h
  have h2 := all_bound ds.sum h
  have h3 : 15 ^ ds.length * 40 ^ ds.sum ≤ 15 ^ 11 * 40 ^ ds.sum := Nat.mul_le_mul_right _ (Nat.pow_le_pow_right (by omega) hl)
  have h4 : ds.prod * 39 ^ ds.sum < 998244353000000000 * 39 ^ ds.sum := by omega
  exact Nat.lt_of_mul_lt_mul_right h4
theorem pr_list {g : Int → Int} : ∀ ks : List Int, (∀ v ∈ ks, 0 ≤ g v) → pr (fun i => g (ks.getD i 0)) ks.length = (((ks.map fun v => (g v).toNat).prod : Nat) : Int) ∧ lsum g ks = (((ks.map fun v => (g v).toNat).sum : Nat) : Int)
  | [], _ => by simp [pr, lsum]
  | a :: ks, h => by
    have ih := pr_list (g := g) ks fun v hv => h v (List.mem_cons_of_mem _ hv)
    have ha := h a List.mem_cons_self
    have e : lsum g (a :: ks) = g a + lsum g ks := by simp [lsum]
    rw [List.length_cons, pr_head, List.map_cons, List.prod_cons, List.sum_cons, e, ih.2]
    refine ⟨?_, by omega⟩
    have e2 : (fun i => g ((a :: ks).getD (i + 1) 0)) = fun i => g (ks.getD i 0) := rfl
    rw [e2, ih.1, Int.natCast_mul, Int.toNat_of_nonneg ha]; rfl
/-- minors of the Laplacian: not negative, and below the product of the two primes. -/
theorem minor_bd {N : Gra} (hn : GraOk N) (om : List Int) (hl : (keep N.n.toNat om).length ≤ 11) : 0 ≤ dt (keep N.n.toNat om).length (sub (keep N.n.toNat om) (lapK N.edges N.edges.length)) ∧ dt (keep N.n.toNat om).length (sub (keep N.n.toNat om) (lapK N.edges N.edges.length)) < 998244353000000000 := by
  have h := dt_dom _ _ (minor_dom hn om)
  refine ⟨h.1, Int.lt_of_le_of_lt h.2 ?_⟩
  have hd := lap_diag hn _ (Nat.le_refl _)
  have hp := pr_list (g := fun v => lapK N.edges N.edges.length v v) (keep N.n.toNat om) fun v _ => hd.1 v
  have e : (fun i : Nat => sub (keep N.n.toNat om) (lapK N.edges N.edges.length) i i) = fun i => (fun v => lapK N.edges N.edges.length v v) ((keep N.n.toNat om).getD i 0) := by
    funext i; unfold sub; rw [Int.toNat_natCast]
  rw [e, hp.1]
  have hs := lsum_filter (fun v => -lapK N.edges N.edges.length v v) (fun v => !om.contains v) (iota N.n.toNat) fun v _ _ => by have := hd.1 v; omega
  rw [lsum_neg, lsum_neg, lsum_iota] at hs
  have h4 := hn.2.2.2
  have hp2 := hp.2
  have h5 := hd.2
  have := pr_small (ds := (keep N.n.toNat om).map fun v => (lapK N.edges N.edges.length v v).toNat) (by
    unfold keep at hp2 ⊢
    omega) (by rw [List.length_map]; exact hl)
  omega
/-- the Chinese rest. -/
theorem crt {D p q r : Int} (hp : 0 < p) (hq : 0 < q) (hr : p * r % q = 1) (h0 : 0 ≤ D) (h1 : D < q * p) : D % p + p * ((D % q - D % p) % q * r % q) = D := by
  have hd := Int.mul_ediv_add_emod D p
  have ht0 : 0 ≤ D / p := Int.ediv_nonneg h0 (by omega)
  have ht1 : D / p < q := Int.ediv_lt_of_lt_mul hp h1
  have e : (D % q - D % p) % q * r % q = D / p := by
    rw [mul_mod_l, ← mul_mod_l, Int.sub_emod, Int.emod_emod_of_dvd _ (Int.dvd_refl q), ← Int.sub_emod, mul_mod_l]
    rw [show D - D % p = p * (D / p) by omega, Int.mul_assoc, Int.mul_comm (D / p) r, ← Int.mul_assoc, ← mul_mod_l, hr, Int.one_mul]
    exact Int.emod_eq_of_lt ht0 ht1
  rw [e]; omega
/-- rows to be read. -/
def RowsS (G : GH) (B : Option Addr) (R C : Nat) (f : Int → Int → Int) : Prop := ∃ (A : Nat → Option Addr) (c : Nat → Nat), (∀ i, i < R → rd G (pa B i) = some (.slice (A i) C (c i))) ∧ ∀ i : Nat, i < R → IntS G (A i) (c i) (rowL C (f i))
theorem RowsS.sub {G G' : GH} {B : Option Addr} {R C : Nat} {f : Int → Int → Int} (h : RowsS G B R C f) (s : Sub G G') : RowsS G' B R C f := by
  obtain ⟨A, c, h1, h2⟩ := h
  exact ⟨A, c, fun i hi => rd_sub s (h1 i hi), fun i hi => (h2 i hi).sub s⟩
/-- rows that are being built, in a list of one's own. -/
def Bld (H G : GH) (B : Option Addr) (cb k C : Nat) (f : Int → Int → Int) : Prop := Sub H G ∧ Off H B ∧ ∃ (A : Nat → Option Addr) (c : Nat → Nat), Own G B cb (rowsC A c k C) 1 k ∧ ∀ i : Nat, i < k → IntS (wo G B) (A i) (c i) (rowL C (f i))
theorem Bld.nil (G : GH) (C : Nat) (f : Int → Int → Int) : Bld G G none 0 0 C f := ⟨Sub.refl _, Off.nil _, fun _ => none, fun _ => 0, Own.nil _ _, fun i hi => by omega⟩
theorem Bld.up {H G G' : GH} {B : Option Addr} {cb k C : Nat} {f : Int → Int → Int} (h : Bld H G B cb k C f) (s : Sub G G') : Bld H G' B cb k C f := by
  obtain ⟨h1, h2, A, c, h3, h4⟩ := h
  exact ⟨h1.trans s, h2, A, c, h3.sub s, fun i hi => (h4 i hi).sub (wo_mono s B)⟩
theorem New.wo {G G' : GH} {A Z : Option Addr} {c : Nat} {xs : List Int} (h : New G G' A c (xs.map I64) 1 xs.length) (hZ : ∀ a, Z = some a → ∃ e, G a.block = some e) : IntS (Gh.wo G' Z) A c xs := by
  have hi := h.ints
  rcases h with ⟨_, _, h0, _, _⟩ | ⟨x, r, rfl, hx, rfl, _⟩
  · exact ⟨hi.cap, fun i hlt => by omega⟩
  · have hnz : ∀ a, Z = some a → a.block ≠ x := fun a ha e' => by
      obtain ⟨e2, h2⟩ := hZ a ha
      rw [e', hx] at h2; cases h2
    refine ⟨hi.cap, fun i hlt => ?_⟩
    have := hi.rd i hlt
    simp only [pa_mk, rd] at this ⊢
    rw [wo_ne hnz]; exact this
theorem Bld.blk {H G : GH} {B : Option Addr} {cb k C : Nat} {f : Int → Int → Int} (h : Bld H G B cb k C f) : ∀ a, B = some a → ∃ e, G a.block = some e := fun a ha => by
  obtain ⟨_, _, A, c, h3, _⟩ := h
  rcases h3 with ⟨h0, _⟩ | ⟨x, r, h0, h1, _⟩
  · rw [h0] at ha; cases ha
  · rw [h0] at ha; cases ha; exact ⟨_, h1⟩
theorem rowsC_push (A : Nat → Option Addr) (c : Nat → Nat) (k C : Nat) (A' : Option Addr) (c' : Nat) : rowsC A c k C ++ [.slice A' C c'] = rowsC (fun i => if i = k then A' else A i) (fun i => if i = k then c' else c i) (k + 1) C := by
  unfold rowsC
  rw [List.range_succ, List.map_append, List.map_singleton]
  simp only [if_true]
  congr 1
  refine List.map_congr_left fun i hi => ?_
  have := List.mem_range.1 hi
  rw [if_neg (by omega), if_neg (by omega)]
theorem Bld.push {H G : GH} {B Bn A' : Option Addr} {cb k C c' dn : Nat} {f : Int → Int → Int} (h : Bld H G B cb k C f) (hrow : IntS (wo G B) A' c' (rowL C (f k))) (hn : Cells G Bn [.slice A' C c']) (hk : k < 2 ^ 20) {K : Value → GH → Prop}
    (hK : ∀ G' B' cb', Bld H G' B' cb' (k + 1) C f → K (.slice B' (k + 1) cb') G') : gAp 1 24 [.slice none 0 0] (.slice B k cb) (.slice Bn 1 dn) G K := by
  obtain ⟨h1, h2, A, c, h3, h4⟩ := h
  refine ap_own h3 hn rfl (by intro v hv; simp at hv; subst hv; rfl) rfl (by omega) (by omega) (by omega) fun G' B' cb' hO keep => hK G' B' cb' ?_
  obtain ⟨s, o⟩ := keep _ (Sub.wo _ _) (Off.wo _ _)
  have s0 : Sub H (wo G B) := fun x e hx => by
    rw [wo_ne fun a ha e' => by have := h2 a ha; rw [e', hx] at this; cases this]
    exact h1 _ _ hx
  have s1 : Sub (wo G B) (wo G' B') := fun x e hx => by
    rw [wo_ne fun a ha e' => by have := o a ha; rw [e', hx] at this; cases this]
    exact s _ _ hx
  refine ⟨s0.trans s, o.mono s0, _, _, hO.cast (rowsC_push A c k C A' c') rfl, fun i hi => ?_⟩
  by_cases e : i = k
  · subst e; simp only [if_true]; exact hrow.sub s1
  · simp only [if_neg e]; exact (h4 i (by omega)).sub s1
theorem Bld.rows {H G : GH} {B : Option Addr} {cb k C : Nat} {f : Int → Int → Int} (h : Bld H G B cb k C f) : RowsS G B k C f := by
  obtain ⟨_, _, A, c, h3, h4⟩ := h
  refine ⟨A, c, fun i hi => ?_, fun i hi => (h4 i hi).sub (Sub.wo _ _)⟩
  rcases h3 with ⟨_, _, h0, _⟩ | ⟨b, r, rfl, h1, _⟩
  · omega
  · rw [pa_mk, Nat.zero_add]
    simp only [rd, h1, Option.bind_some]
    rw [List.getElem?_append_left (by rw [rowsC_len]; exact hi), rowsC_get hi]
theorem Bld.rw' {H G : GH} {B : Option Addr} {cb k C : Nat} {f : Int → Int → Int} (h : Bld H G B cb k C f) (hk : 0 < k) : ∃ b A c rest, B = some ⟨b, 0, none⟩ ∧ k ≤ cb ∧ Rw H G b A c k C f rest none := by
  obtain ⟨h1, h2, A, c, h3, h4⟩ := h
  rcases h3 with ⟨_, _, h0, _⟩ | ⟨b, r, rfl, h5, _, _, h6⟩
  · omega
  · refine ⟨b, A, c, r, rfl, h6, h1, h2 _ rfl, h5, fun i hi => (h4 i hi).sub fun x e hx => ?_⟩
    unfold wo at hx
    split at hx
    · cases hx
    · rename_i hne
      have : x ≠ b := fun e' => hne (by rw [e']; rfl)
      rw [del_ne _ this]
      unfold wo; rw [if_neg (by simp)]; exact hx
theorem impl_elim0_ok {G : GH} {B : Option Addr} {cb : Nat} {p : Int} {K : Value → GH → Prop} (hk : K (.tuple [.slice none 0 0, .int .i64 1].toArray) G) : GC Try.prog 231 [.slice B 0 cb, .int .i64 0, .int .i64 p] G K := by
  refine c_impl_eliminate_i (by simp) ?_
  simp (maxSteps := 300000) (disch := omega) only [gs, gs2, gs3, gs4, ↓reduceIte, Nat.reduceEqDiff, Int.reduceToNat, Nat.reduceMul, Nat.reduceAdd, Nat.reduceBEq, isLd]
  refine gLoop_intro (fun m T G' => T 8 = .slice none 0 0 ∧ T 9 = .int .i64 1 ∧ T 16 = .int .i64 0 ∧ T 17 = .int .i64 0 ∧ G = G') 0 ⟨by simp (maxSteps := 300000) (disch := omega) only [gs, gs2, gs3, gs4, ↓reduceIte, Nat.reduceEqDiff, Int.reduceToNat, Nat.reduceMul, Nat.reduceAdd, Nat.reduceBEq, isLd], by simp (maxSteps := 300000) (disch := omega) only [gs, gs2, gs3, gs4, ↓reduceIte, Nat.reduceEqDiff, Int.reduceToNat, Nat.reduceMul, Nat.reduceAdd, Nat.reduceBEq, isLd], by simp (maxSteps := 300000) (disch := omega) only [gs, gs2, gs3, gs4, ↓reduceIte, Nat.reduceEqDiff, Int.reduceToNat, Nat.reduceMul, Nat.reduceAdd, Nat.reduceBEq, isLd], by simp (maxSteps := 300000) (disch := omega) only [gs, gs2, gs3, gs4, ↓reduceIte, Nat.reduceEqDiff, Int.reduceToNat, Nat.reduceMul, Nat.reduceAdd, Nat.reduceBEq, isLd], rfl⟩ ?_
  rintro m T G' ⟨e8, e9, e16, e17, rfl⟩
  simp (maxSteps := 300000) (disch := omega) only [gs, gs2, gs3, gs4, ↓reduceIte, Nat.reduceEqDiff, Int.reduceToNat, Nat.reduceMul, Nat.reduceAdd, Nat.reduceBEq, isLd, e8, e9, e16, e17, show ((0 : Int) < 0) = False from eq_false (by omega)]
  exact hk
theorem impl_modularDet_ok {G : GH} {B : Option Addr} {cb R : Nat} {f : Int → Int → Int} {p : Int} (h : RowsS G B R R f) (hcb : R ≤ cb) (hR : R < 2 ^ 10) (hp : 2 < p ∧ p ≤ 2 ^ 30) (hI : HasInv p) {K : Value → GH → Prop}
    (hk : K (.int .i64 (dt R f % p)) G) : GC Try.prog 235 [.slice B R cb, .int .i64 p] G K := by
  refine GC_drop (c_impl_modularDet_i (by simp) ?_)
  simp (maxSteps := 300000) (disch := omega) only [gs, gs2, gs3, gs4, ↓reduceIte, Nat.reduceEqDiff, Int.reduceToNat, Nat.reduceMul, Nat.reduceAdd, Nat.reduceBEq, isLd]
  refine gLoop_intro (fun m T G' => ∃ (i : Nat) (B5 : Option Addr) (c5 : Nat), T 0 = .slice B R cb ∧ T 1 = .int .i64 p ∧ T 5 = .slice B5 i c5 ∧ T 13 = .slice B R cb ∧ T 14 = .int .i64 R ∧ T 15 = .int .i64 i ∧ m + i = R ∧ i ≤ R ∧ Bld G G' B5 c5 i R (fun a b => f a b % p))
    R ⟨0, none, 0, by simp (maxSteps := 300000) (disch := omega) only [gs, gs2, gs3, gs4, ↓reduceIte, Nat.reduceEqDiff, Int.reduceToNat, Nat.reduceMul, Nat.reduceAdd, Nat.reduceBEq, isLd], by simp (maxSteps := 300000) (disch := omega) only [gs, gs2, gs3, gs4, ↓reduceIte, Nat.reduceEqDiff, Int.reduceToNat, Nat.reduceMul, Nat.reduceAdd, Nat.reduceBEq, isLd], by simp (maxSteps := 300000) (disch := omega) only [gs, gs2, gs3, gs4, ↓reduceIte, Nat.reduceEqDiff, Int.reduceToNat, Nat.reduceMul, Nat.reduceAdd, Nat.reduceBEq, isLd], by simp (maxSteps := 300000) (disch := omega) only [gs, gs2, gs3, gs4, ↓reduceIte, Nat.reduceEqDiff, Int.reduceToNat, Nat.reduceMul, Nat.reduceAdd, Nat.reduceBEq, isLd], by simp (maxSteps := 300000) (disch := omega) only [gs, gs2, gs3, gs4, ↓reduceIte, Nat.reduceEqDiff, Int.reduceToNat, Nat.reduceMul, Nat.reduceAdd, Nat.reduceBEq, isLd], by simp (maxSteps := 300000) (disch := omega) only [gs, gs2, gs3, gs4, ↓reduceIte, Nat.reduceEqDiff, Int.reduceToNat, Nat.reduceMul, Nat.reduceAdd, Nat.reduceBEq, isLd] <;> rfl, by omega, by omega, Bld.nil _ _ _⟩ ?_
  rintro m T G' ⟨i, B5, c5, e0, e1, e5, e13, e14, e15, hm, hi, hB⟩
  simp (maxSteps := 300000) (disch := omega) only [gs, gs2, gs3, gs4, ↓reduceIte, Nat.reduceEqDiff, Int.reduceToNat, Nat.reduceMul, Nat.reduceAdd, Nat.reduceBEq, isLd, e0, e1, e5, e13, e14, e15]
  by_cases hii : (i : Int) < R
  · obtain ⟨A, c, hr1, hr2⟩ := h.sub hB.1
    have hri := hr1 i (by omega)
    have hrow := hr2 i (by omega)
    have hsnB : 0 < sn B := by have := rd_some hri; rwa [sn_pa] at this
    simp (maxSteps := 300000) (disch := omega) only [gs, gs2, gs3, gs4, ↓reduceIte, Nat.reduceEqDiff, Int.reduceToNat, Nat.reduceMul, Nat.reduceAdd, Nat.reduceBEq, isLd, e0, e1, e5, e13, e14, e15, hii, hri]
    refine gLoop_intro (fun m' T' G2 => ∃ (j : Nat) (A8 : Option Addr) (c8 : Nat), T' 0 = .slice B R cb ∧ T' 1 = .int .i64 p ∧ T' 5 = .slice B5 i c5 ∧ T' 8 = .slice A8 j c8 ∧ T' 13 = .slice B R cb ∧ T' 14 = .int .i64 R ∧ T' 15 = .int .i64 i ∧ T' 19 = .slice (A i) R (c i) ∧ T' 20 = .int .i64 R ∧ T' 21 = .int .i64 j ∧ m' + j = R ∧ j ≤ R ∧ New G' G2 A8 c8 ((rowL j fun b => f i b % p).map I64) 1 j)
      R ⟨0, none, 0, by simp (maxSteps := 300000) (disch := omega) only [gs, gs2, gs3, gs4, ↓reduceIte, Nat.reduceEqDiff, Int.reduceToNat, Nat.reduceMul, Nat.reduceAdd, Nat.reduceBEq, isLd, e0], by simp (maxSteps := 300000) (disch := omega) only [gs, gs2, gs3, gs4, ↓reduceIte, Nat.reduceEqDiff, Int.reduceToNat, Nat.reduceMul, Nat.reduceAdd, Nat.reduceBEq, isLd, e1], by simp (maxSteps := 300000) (disch := omega) only [gs, gs2, gs3, gs4, ↓reduceIte, Nat.reduceEqDiff, Int.reduceToNat, Nat.reduceMul, Nat.reduceAdd, Nat.reduceBEq, isLd, e5], by simp (maxSteps := 300000) (disch := omega) only [gs, gs2, gs3, gs4, ↓reduceIte, Nat.reduceEqDiff, Int.reduceToNat, Nat.reduceMul, Nat.reduceAdd, Nat.reduceBEq, isLd], by simp (maxSteps := 300000) (disch := omega) only [gs, gs2, gs3, gs4, ↓reduceIte, Nat.reduceEqDiff, Int.reduceToNat, Nat.reduceMul, Nat.reduceAdd, Nat.reduceBEq, isLd, e13], by simp (maxSteps := 300000) (disch := omega) only [gs, gs2, gs3, gs4, ↓reduceIte, Nat.reduceEqDiff, Int.reduceToNat, Nat.reduceMul, Nat.reduceAdd, Nat.reduceBEq, isLd, e14], by simp (maxSteps := 300000) (disch := omega) only [gs, gs2, gs3, gs4, ↓reduceIte, Nat.reduceEqDiff, Int.reduceToNat, Nat.reduceMul, Nat.reduceAdd, Nat.reduceBEq, isLd, e15], by simp (maxSteps := 300000) (disch := omega) only [gs, gs2, gs3, gs4, ↓reduceIte, Nat.reduceEqDiff, Int.reduceToNat, Nat.reduceMul, Nat.reduceAdd, Nat.reduceBEq, isLd], by simp (maxSteps := 300000) (disch := omega) only [gs, gs2, gs3, gs4, ↓reduceIte, Nat.reduceEqDiff, Int.reduceToNat, Nat.reduceMul, Nat.reduceAdd, Nat.reduceBEq, isLd], by simp (maxSteps := 300000) (disch := omega) only [gs, gs2, gs3, gs4, ↓reduceIte, Nat.reduceEqDiff, Int.reduceToNat, Nat.reduceMul, Nat.reduceAdd, Nat.reduceBEq, isLd] <;> rfl, by omega, by omega, New.nil _ _⟩ ?_
    clear e0 e1 e5 e13 e14 e15
    rintro m' T' G2 ⟨j, A8, c8, e0, e1, e5, e8, e13, e14, e15, e19, e20, e21, hm', hj, hN⟩
    simp (maxSteps := 300000) (disch := omega) only [gs, gs2, gs3, gs4, ↓reduceIte, Nat.reduceEqDiff, Int.reduceToNat, Nat.reduceMul, Nat.reduceAdd, Nat.reduceBEq, isLd, e0, e1, e5, e8, e13, e14, e15, e19, e20, e21]
    by_cases hjj : (j : Int) < R
    · have hrj := (hrow.sub hN.sub).rd j (by rw [rowL_len]; omega)
      rw [rowL_get _ (by omega)] at hrj
      have hsA := hrow.sn (by rw [rowL_len]; omega)
      simp (maxSteps := 300000) (disch := omega) only [gs, gs2, gs3, gs4, ↓reduceIte, Nat.reduceEqDiff, Int.reduceToNat, Nat.reduceMul, Nat.reduceAdd, Nat.reduceBEq, isLd, e0, e1, e5, e8, e13, e14, e15, e19, e20, e21, hjj, hrj]
      refine impl_reduce_ok ⟨by omega, by omega⟩ ?_
      simp (maxSteps := 300000) (disch := omega) only [gs, gs2, gs3, gs4, ↓reduceIte, Nat.reduceEqDiff, Int.reduceToNat, Nat.reduceMul, Nat.reduceAdd, Nat.reduceBEq, isLd, e0, e1, e5, e8, e13, e14, e15, e19, e20, e21, gBs]
      refine ⟨by intro v hv; simp at hv; subst hv; rfl, fun b hb => ?_⟩
      refine ap_new hN (Sub.put hb _) (cells_one [.int .i64 (f i j % p)] true) (by rfl) (by intro v hv; simp at hv; subst hv; rfl) rfl (by omega) (by omega) (by omega) fun G3 A' c' hN' => ?_
      simp (maxSteps := 300000) (disch := omega) only [gs, gs2, gs3, gs4, ↓reduceIte, Nat.reduceEqDiff, Int.reduceToNat, Nat.reduceMul, Nat.reduceAdd, Nat.reduceBEq, isLd, e0, e1, e5, e8, e13, e14, e15, e19, e20, e21]
      exact ⟨m' - 1, by omega, _, Sub.refl _, j + 1, A', c', rfl, rfl, by omega, by omega, hN'.cast (by rw [rowL_succ]; simp [I64]) rfl⟩
    · simp (maxSteps := 300000) (disch := omega) only [gs, gs2, gs3, gs4, ↓reduceIte, Nat.reduceEqDiff, Int.reduceToNat, Nat.reduceMul, Nat.reduceAdd, Nat.reduceBEq, isLd, e0, e1, e5, e8, e13, e14, e15, e19, e20, e21, hjj, gBs]
      obtain rfl : j = R := by omega
      refine ⟨by intro v hv; simp at hv; subst hv; rfl, fun b hb => ?_⟩
      have hB2 := hB.up hN.sub
      have hrw := New.wo (xs := rowL j fun b => f i b % p) (hN.cast rfl (rowL_len _ _).symm) hB.blk
      refine (hB2.up (Sub.put hb _)).push (hrw.sub (wo_mono (Sub.put hb _) _)) (cells_one [.slice A8 j c8] true) (by omega) fun G4 B4 c4 hB4 => ?_
      simp (maxSteps := 300000) (disch := omega) only [gs, gs2, gs3, gs4, ↓reduceIte, Nat.reduceEqDiff, Int.reduceToNat, Nat.reduceMul, Nat.reduceAdd, Nat.reduceBEq, isLd, e0, e1, e5, e8, e13, e14, e15, e19, e20, e21]
      exact ⟨m - 1, by omega, _, Sub.refl _, i + 1, B4, c4, rfl, rfl, by omega, by omega, hB4⟩
  · simp (maxSteps := 300000) (disch := omega) only [gs, gs2, gs3, gs4, ↓reduceIte, Nat.reduceEqDiff, Int.reduceToNat, Nat.reduceMul, Nat.reduceAdd, Nat.reduceBEq, isLd, e0, e1, e5, e13, e14, e15, hii]
    refine c_impl_size_S_int64_i (by simp) ?_
    simp (maxSteps := 300000) (disch := omega) only [gs, gs2, gs3, gs4, ↓reduceIte, Nat.reduceEqDiff, Int.reduceToNat, Nat.reduceMul, Nat.reduceAdd, Nat.reduceBEq, isLd, e0, e1, e5, e13, e14, e15]
    obtain rfl : i = R := by omega
    have hrg : Rng (fun a b => f a b % p) p := fun a b => ⟨Int.emod_nonneg _ (by omega), Int.emod_lt_of_pos _ (by omega)⟩
    by_cases h0 : i = 0
    · subst h0
      refine impl_elim0_ok ?_
      simp (maxSteps := 300000) (disch := omega) only [gs, gs2, gs3, gs4, ↓reduceIte, Nat.reduceEqDiff, Int.reduceToNat, Nat.reduceMul, Nat.reduceAdd, Nat.reduceBEq, isLd]
      have e : dt 0 f % p = 1 := by show (1 : Int) % p = 1; exact Int.emod_eq_of_lt (by omega) (by omega)
      rw [e] at hk
      exact ⟨G, hB.1, hk⟩
    · obtain ⟨b, A, c, rest, rfl, hcap, hw⟩ := hB.rw' (by omega)
      refine impl_eliminate_ok hw hcap hR hR hrg ⟨by omega, hp.2⟩ fun G6 A6 c6 Ap6 cq6 hw6 _ => ?_
      simp (maxSteps := 300000) (disch := omega) only [gs, gs2, gs3, gs4, ↓reduceIte, Nat.reduceEqDiff, Int.reduceToNat, Nat.reduceMul, Nat.reduceAdd, Nat.reduceBEq, isLd]
      have e : (elF p i (fun a b => f a b % p) i).det = dt i f % p := by
        rw [elF_dt' (by omega) hI hrg]
        exact dt_mod i fun a b _ _ => Int.emod_emod_of_dvd _ (Int.dvd_refl p)
      rw [e]
      exact ⟨G, hw6.sub, hk⟩
theorem keep_succ (n : Nat) (om : List Int) : keep (n + 1) om = keep n om ++ if (n : Int) ∈ om then [] else [(n : Int)] := by
  unfold keep
  rw [iota_succ, List.filter_append]
  congr 1
  by_cases h : (n : Int) ∈ om <;> simp [h]
theorem keep_pre {om : List Int} {n : Nat} : ∀ d, ∃ r, keep (n + d) om = keep n om ++ r
  | 0 => ⟨[], by simp⟩
  | d + 1 => by
    obtain ⟨r, hr⟩ := keep_pre (om := om) (n := n) d
    exact ⟨_, by rw [← Nat.add_assoc, keep_succ, hr, List.append_assoc]⟩
/-- the node that is kept next. -/
theorem keep_at {om : List Int} {i n : Nat} (hi : i < n) (ho : ¬ (i : Int) ∈ om) : (keep n om).getD (keep i om).length 0 = i ∧ (keep i om).length < (keep n om).length := by
  obtain ⟨r, hr⟩ := keep_pre (om := om) (n := i + 1) (n - (i + 1))
  rw [show i + 1 + (n - (i + 1)) = n by omega, keep_succ, if_neg ho] at hr
  rw [hr]
  constructor
  · simp [List.getD]
  · simp
theorem keep_len (n : Nat) (om : List Int) : (keep n om).length ≤ n := Nat.le_trans (List.length_filter_le _ _) (by rw [iota_len]; exact Nat.le_refl _)
/-- the kept cells of a row. -/
theorem keep_row {om : List Int} {n : Nat} (g : Int → Int) : (keep n om).map g = rowL (keep n om).length (fun j => g ((keep n om).getD j.toNat 0)) := by
  unfold rowL
  apply List.ext_getElem
  · simp
  · intro k h1 h2
    simp only [List.length_map] at h1
    simp [List.getD, h1]
theorem keep_lt {n : Nat} {om : List Int} (h0 : ∃ v ∈ om, 0 ≤ v ∧ v < n) : (keep n om).length < n := by
  obtain ⟨v, hv, h1, h2⟩ := h0
  have hlt : (keep n om).length < (iota n).length := by
    unfold keep
    exact List.length_filter_lt_length_iff_exists.2 ⟨v, mem_iota.2 ⟨h1, h2⟩, by simp [hv]⟩
  rwa [iota_len] at hlt
theorem impl_minor_ok {G : GH} {N : Gra} {A O : Option Addr} {c co : Nat} {om : List Int} (h : T3S G A c N.edges) (hn : GraOk N) (hO : IntS G O co om) (hol : om.length < 2 ^ 20) (hlt : (keep N.n.toNat om).length ≤ 11) {K : Value → GH → Prop}
    (hk : K (.int .i64 (dt (keep N.n.toNat om).length (sub (keep N.n.toNat om) (lapK N.edges N.edges.length)))) G) : GC Try.prog 178 [graV N A c, .slice O om.length co] G K := by
  refine GC_drop (c_impl_minor_i (by simp) ?_)
  have hn1 := hn.1
  have hbd := minor_bd hn om hlt
  unfold graV graC
  simp (maxSteps := 300000) (disch := omega) only [gs, gs2, gs3, gs4, ↓reduceIte, Nat.reduceEqDiff, Int.reduceToNat, Nat.reduceMul, Nat.reduceAdd, Nat.reduceBEq, isLd]
  intro b2 hb2
  have s1 := Sub.put hb2 ⟨[.int .i64 N.n, .slice A N.edges.length c], true⟩
  have f0 : rd (put G b2 ⟨[.int .i64 N.n, .slice A N.edges.length c], true⟩) (some ⟨b2, 0, none⟩) = some (.int .i64 N.n) := rd_box _ _ _ 0 _ rfl
  have f1 : rd (put G b2 ⟨[.int .i64 N.n, .slice A N.edges.length c], true⟩) (some ⟨b2, 1, none⟩) = some (.slice A N.edges.length c) := rd_box _ _ _ 1 _ rfl
  revert s1 f0 f1
  generalize put G b2 ⟨[.int .i64 N.n, .slice A N.edges.length c], true⟩ = G1
  intro s1 f0 f1
  simp (maxSteps := 300000) (disch := omega) only [gs, gs2, gs3, gs4, ↓reduceIte, Nat.reduceEqDiff, Int.reduceToNat, Nat.reduceMul, Nat.reduceAdd, Nat.reduceBEq, isLd, f0, f1]
  refine impl_laplacian_ok (N := N) (h.sub s1) hn fun G2 bO Bm hM => ?_
  simp (maxSteps := 300000) (disch := omega) only [gs, gs2, gs3, gs4, ↓reduceIte, Nat.reduceEqDiff, Int.reduceToNat, Nat.reduceMul, Nat.reduceAdd, Nat.reduceBEq, isLd]
  have hO2 := (hO.sub s1).sub hM.sub
  have sG2 := s1.trans hM.sub
  have hrow : ∀ i : Nat, i < N.n.toNat → rd G2 (some ⟨bO, i, none⟩) = some (.slice (some ⟨Bm i, 0, none⟩) N.n.toNat N.n.toNat) := fun i hi => hM.row hi hi
  have hcell : ∀ i j : Nat, i < N.n.toNat → j < N.n.toNat → rd G2 (some ⟨Bm i, j, none⟩) = some (.int .i64 (lapK N.edges N.edges.length i j)) := fun i j hi hj => by
    have := hM.get (u := (i : Int)) (v := (j : Int)) (by omega) (by omega) (by omega) (by omega)
    rwa [Int.toNat_natCast, Int.toNat_natCast] at this
  clear hM
  generalize hL : lapK N.edges N.edges.length = L at *
  refine gLoop_intro (fun m T G' => ∃ (i : Nat) (B5 : Option Addr) (c5 : Nat), T 1 = .slice O om.length co ∧ T 5 = .slice B5 (keep i om).length c5 ∧ T 14 = .slice (some ⟨bO, 0, none⟩) N.n.toNat N.n.toNat ∧ T 15 = .int .i64 N.n.toNat ∧ T 16 = .int .i64 i ∧ m + i = N.n.toNat ∧ i ≤ N.n.toNat ∧ Bld G2 G' B5 c5 (keep i om).length (keep N.n.toNat om).length (sub (keep N.n.toNat om) L))
    N.n.toNat ⟨0, none, 0, by simp (maxSteps := 300000) (disch := omega) only [gs, gs2, gs3, gs4, ↓reduceIte, Nat.reduceEqDiff, Int.reduceToNat, Nat.reduceMul, Nat.reduceAdd, Nat.reduceBEq, isLd], by simp (maxSteps := 300000) (disch := omega) only [gs, gs2, gs3, gs4, ↓reduceIte, Nat.reduceEqDiff, Int.reduceToNat, Nat.reduceMul, Nat.reduceAdd, Nat.reduceBEq, isLd] <;> rfl, by simp (maxSteps := 300000) (disch := omega) only [gs, gs2, gs3, gs4, ↓reduceIte, Nat.reduceEqDiff, Int.reduceToNat, Nat.reduceMul, Nat.reduceAdd, Nat.reduceBEq, isLd], by simp (maxSteps := 300000) (disch := omega) only [gs, gs2, gs3, gs4, ↓reduceIte, Nat.reduceEqDiff, Int.reduceToNat, Nat.reduceMul, Nat.reduceAdd, Nat.reduceBEq, isLd], by simp (maxSteps := 300000) (disch := omega) only [gs, gs2, gs3, gs4, ↓reduceIte, Nat.reduceEqDiff, Int.reduceToNat, Nat.reduceMul, Nat.reduceAdd, Nat.reduceBEq, isLd] <;> rfl, by omega, by omega, Bld.nil _ _ _⟩ ?_
  rintro m T G' ⟨i, B5, c5, e1, e5, e14, e15, e16, hm, hi, hB⟩
  simp (maxSteps := 300000) (disch := omega) only [gs, gs2, gs3, gs4, ↓reduceIte, Nat.reduceEqDiff, Int.reduceToNat, Nat.reduceMul, Nat.reduceAdd, Nat.reduceBEq, isLd, e1, e5, e14, e15, e16]
  by_cases hii : (i : Int) < N.n.toNat
  · have hri := rd_sub hB.1 (hrow i (by omega))
    simp (maxSteps := 300000) (disch := omega) only [gs, gs2, gs3, gs4, ↓reduceIte, Nat.reduceEqDiff, Int.reduceToNat, Nat.reduceMul, Nat.reduceAdd, Nat.reduceBEq, isLd, e1, e5, e14, e15, e16, hii, hri]
    refine slices_Contains_ok (hO2.sub hB.1) (by omega) fun bb hbb => ?_
    cases bb
    rotate_left
    · have ho : (i : Int) ∈ om := hbb.1 rfl
      simp (maxSteps := 300000) (disch := omega) only [gs, gs2, gs3, gs4, ↓reduceIte, Nat.reduceEqDiff, Int.reduceToNat, Nat.reduceMul, Nat.reduceAdd, Nat.reduceBEq, isLd, e1, e5, e14, e15, e16]
      have e : keep (i + 1) om = keep i om := by rw [keep_succ, if_pos ho]; simp
      exact ⟨m - 1, by omega, G', Sub.refl _, i + 1, B5, c5, by rw [e], rfl, by omega, by omega, by rw [e]; exact hB⟩
    have ho : ¬ (i : Int) ∈ om := fun x => by have := hbb.2 x; cases this
    obtain ⟨ka, kb⟩ := keep_at (n := N.n.toNat) (by omega) ho
    simp (maxSteps := 300000) (disch := omega) only [gs, gs2, gs3, gs4, ↓reduceIte, Nat.reduceEqDiff, Int.reduceToNat, Nat.reduceMul, Nat.reduceAdd, Nat.reduceBEq, isLd, e1, e5, e14, e15, e16]
    refine gLoop_intro (fun m' T' G3 => ∃ (j : Nat) (A8 : Option Addr) (c8 : Nat), T' 1 = .slice O om.length co ∧ T' 5 = .slice B5 (keep i om).length c5 ∧ T' 8 = .slice A8 (keep j om).length c8 ∧ T' 14 = .slice (some ⟨bO, 0, none⟩) N.n.toNat N.n.toNat ∧ T' 15 = .int .i64 N.n.toNat ∧ T' 16 = .int .i64 i ∧ T' 24 = .slice (some ⟨Bm i, 0, none⟩) N.n.toNat N.n.toNat ∧ T' 25 = .int .i64 N.n.toNat ∧ T' 26 = .int .i64 j ∧ m' + j = N.n.toNat ∧ j ≤ N.n.toNat ∧ New G' G3 A8 c8 (((keep j om).map fun v => L i v).map I64) 1 (keep j om).length)
      N.n.toNat ⟨0, none, 0, by simp (maxSteps := 300000) (disch := omega) only [gs, gs2, gs3, gs4, ↓reduceIte, Nat.reduceEqDiff, Int.reduceToNat, Nat.reduceMul, Nat.reduceAdd, Nat.reduceBEq, isLd, e1], by simp (maxSteps := 300000) (disch := omega) only [gs, gs2, gs3, gs4, ↓reduceIte, Nat.reduceEqDiff, Int.reduceToNat, Nat.reduceMul, Nat.reduceAdd, Nat.reduceBEq, isLd, e5], by simp (maxSteps := 300000) (disch := omega) only [gs, gs2, gs3, gs4, ↓reduceIte, Nat.reduceEqDiff, Int.reduceToNat, Nat.reduceMul, Nat.reduceAdd, Nat.reduceBEq, isLd] <;> rfl, by simp (maxSteps := 300000) (disch := omega) only [gs, gs2, gs3, gs4, ↓reduceIte, Nat.reduceEqDiff, Int.reduceToNat, Nat.reduceMul, Nat.reduceAdd, Nat.reduceBEq, isLd, e14], by simp (maxSteps := 300000) (disch := omega) only [gs, gs2, gs3, gs4, ↓reduceIte, Nat.reduceEqDiff, Int.reduceToNat, Nat.reduceMul, Nat.reduceAdd, Nat.reduceBEq, isLd, e15], by simp (maxSteps := 300000) (disch := omega) only [gs, gs2, gs3, gs4, ↓reduceIte, Nat.reduceEqDiff, Int.reduceToNat, Nat.reduceMul, Nat.reduceAdd, Nat.reduceBEq, isLd, e16], by simp (maxSteps := 300000) (disch := omega) only [gs, gs2, gs3, gs4, ↓reduceIte, Nat.reduceEqDiff, Int.reduceToNat, Nat.reduceMul, Nat.reduceAdd, Nat.reduceBEq, isLd], by simp (maxSteps := 300000) (disch := omega) only [gs, gs2, gs3, gs4, ↓reduceIte, Nat.reduceEqDiff, Int.reduceToNat, Nat.reduceMul, Nat.reduceAdd, Nat.reduceBEq, isLd], by simp (maxSteps := 300000) (disch := omega) only [gs, gs2, gs3, gs4, ↓reduceIte, Nat.reduceEqDiff, Int.reduceToNat, Nat.reduceMul, Nat.reduceAdd, Nat.reduceBEq, isLd] <;> rfl, by omega, by omega, New.nil _ _⟩ ?_
    clear e1 e5 e14 e15 e16
    rintro m' T' G3 ⟨j, A8, c8, e1, e5, e8, e14, e15, e16, e24, e25, e26, hm', hj, hN⟩
    simp (maxSteps := 300000) (disch := omega) only [gs, gs2, gs3, gs4, ↓reduceIte, Nat.reduceEqDiff, Int.reduceToNat, Nat.reduceMul, Nat.reduceAdd, Nat.reduceBEq, isLd, e1, e5, e8, e14, e15, e16, e24, e25, e26]
    by_cases hjj : (j : Int) < N.n.toNat
    · have hcj := rd_sub (hB.1.trans hN.sub) (hcell i j (by omega) (by omega))
      simp (maxSteps := 300000) (disch := omega) only [gs, gs2, gs3, gs4, ↓reduceIte, Nat.reduceEqDiff, Int.reduceToNat, Nat.reduceMul, Nat.reduceAdd, Nat.reduceBEq, isLd, e1, e5, e8, e14, e15, e16, e24, e25, e26, hjj, hcj]
      refine slices_Contains_ok ((hO2.sub hB.1).sub hN.sub) (by omega) fun bb hbb => ?_
      have hjl := keep_len j om
      cases bb
      · have hoj : ¬ (j : Int) ∈ om := fun x => by have := hbb.2 x; cases this
        have e : keep (j + 1) om = keep j om ++ [(j : Int)] := by rw [keep_succ, if_neg hoj]
        simp (maxSteps := 300000) (disch := omega) only [gs, gs2, gs3, gs4, ↓reduceIte, Nat.reduceEqDiff, Int.reduceToNat, Nat.reduceMul, Nat.reduceAdd, Nat.reduceBEq, isLd, e1, e5, e8, e14, e15, e16, e24, e25, e26, gBs]
        refine ⟨by intro v hv; simp at hv; subst hv; rfl, fun b hb => ?_⟩
        refine ap_new hN (Sub.put hb _) (cells_one [.int .i64 (L i j)] true) (by rfl) (by intro v hv; simp at hv; subst hv; rfl) rfl (by omega) (by omega) (by omega) fun G4 A' c' hN' => ?_
        simp (maxSteps := 300000) (disch := omega) only [gs, gs2, gs3, gs4, ↓reduceIte, Nat.reduceEqDiff, Int.reduceToNat, Nat.reduceMul, Nat.reduceAdd, Nat.reduceBEq, isLd, e1, e5, e8, e14, e15, e16, e24, e25, e26]
        exact ⟨m' - 1, by omega, _, Sub.refl _, j + 1, A', c', by rw [e]; simp, rfl, by omega, by omega, hN'.cast (by rw [e]; simp [I64]) (by rw [e]; simp)⟩
      · have hoj : (j : Int) ∈ om := hbb.1 rfl
        have e : keep (j + 1) om = keep j om := by rw [keep_succ, if_pos hoj]; simp
        simp (maxSteps := 300000) (disch := omega) only [gs, gs2, gs3, gs4, ↓reduceIte, Nat.reduceEqDiff, Int.reduceToNat, Nat.reduceMul, Nat.reduceAdd, Nat.reduceBEq, isLd, e1, e5, e8, e14, e15, e16, e24, e25, e26]
        exact ⟨m' - 1, by omega, G3, Sub.refl _, j + 1, A8, c8, by rw [e], rfl, by omega, by omega, by rw [e]; exact hN⟩
    · simp (maxSteps := 300000) (disch := omega) only [gs, gs2, gs3, gs4, ↓reduceIte, Nat.reduceEqDiff, Int.reduceToNat, Nat.reduceMul, Nat.reduceAdd, Nat.reduceBEq, isLd, e1, e5, e8, e14, e15, e16, e24, e25, e26, hjj, gBs]
      obtain rfl : j = N.n.toNat := by omega
      refine ⟨by intro v hv; simp at hv; subst hv; rfl, fun b hb => ?_⟩
      have hB2 := hB.up hN.sub
      have hrl : (keep N.n.toNat om).map (fun v => L i v) = rowL (keep N.n.toNat om).length (sub (keep N.n.toNat om) L ((keep i om).length : Nat)) := by
        rw [keep_row]
        refine rowL_congr fun j _ => ?_
        unfold sub
        rw [Int.toNat_natCast, Int.toNat_natCast, ka]
      rw [hrl] at hN
      have hrw := New.wo (hN.cast rfl (rowL_len _ _).symm) hB.blk
      have hkl := keep_len i om
      refine (hB2.up (Sub.put hb _)).push (hrw.sub (wo_mono (Sub.put hb _) _)) (cells_one [.slice A8 (keep N.n.toNat om).length c8] true) (by omega) fun G4 B4 c4 hB4 => ?_
      have e : keep (i + 1) om = keep i om ++ [(i : Int)] := by rw [keep_succ, if_neg ho]
      have el : (keep (i + 1) om).length = (keep i om).length + 1 := by rw [e]; simp
      simp (maxSteps := 300000) (disch := omega) only [gs, gs2, gs3, gs4, ↓reduceIte, Nat.reduceEqDiff, Int.reduceToNat, Nat.reduceMul, Nat.reduceAdd, Nat.reduceBEq, isLd, e1, e5, e8, e14, e15, e16, e24, e25, e26]
      exact ⟨m - 1, by omega, _, Sub.refl _, i + 1, B4, c4, by rw [el], rfl, by omega, by omega, by rw [el]; exact hB4⟩
  · simp (maxSteps := 300000) (disch := omega) only [gs, gs2, gs3, gs4, ↓reduceIte, Nat.reduceEqDiff, Int.reduceToNat, Nat.reduceMul, Nat.reduceAdd, Nat.reduceBEq, isLd, e1, e5, e14, e15, e16, hii]
    obtain rfl : i = N.n.toNat := by omega
    have hRS := hB.rows
    have hcap : (keep N.n.toNat om).length ≤ c5 := by
      obtain ⟨_, _, A', c', h3, _⟩ := hB
      rcases h3 with ⟨_, _, h0, _⟩ | ⟨_, _, _, _, _, _, h6⟩
      · omega
      · exact h6
    refine impl_modularDet_ok hRS hcap (by omega) ⟨by omega, by omega⟩ hasInv_7 ?_
    simp (maxSteps := 300000) (disch := omega) only [gs, gs2, gs3, gs4, ↓reduceIte, Nat.reduceEqDiff, Int.reduceToNat, Nat.reduceMul, Nat.reduceAdd, Nat.reduceBEq, isLd, e1, e5, e14, e15, e16]
    refine impl_modularDet_ok hRS hcap (by omega) ⟨by omega, by omega⟩ hasInv_9 ?_
    simp (maxSteps := 300000) (disch := omega) only [gs, gs2, gs3, gs4, ↓reduceIte, Nat.reduceEqDiff, Int.reduceToNat, Nat.reduceMul, Nat.reduceAdd, Nat.reduceBEq, isLd, e1, e5, e14, e15, e16]
    generalize dt (keep N.n.toNat om).length (sub (keep N.n.toNat om) L) = D at *
    have d1 := Int.emod_nonneg D (show (1000000007 : Int) ≠ 0 by omega)
    have d2 := Int.emod_lt_of_pos D (show (0 : Int) < 1000000007 by omega)
    have d3 := Int.emod_nonneg D (show (1000000009 : Int) ≠ 0 by omega)
    have d4 := Int.emod_lt_of_pos D (show (0 : Int) < 1000000009 by omega)
    refine impl_reduce_ok ⟨by omega, by omega⟩ ?_
    simp (maxSteps := 300000) (disch := omega) only [gs, gs2, gs3, gs4, ↓reduceIte, Nat.reduceEqDiff, Int.reduceToNat, Nat.reduceMul, Nat.reduceAdd, Nat.reduceBEq, isLd]
    refine impl_inverseOf_ok ⟨by omega, by omega⟩ ⟨by omega, by omega⟩ ?_
    have hi0 := pw_rng (a := 1000000007) (p := 1000000009) (by omega) ((1000000009 : Int) - 2).toNat
    have hcrt := crt (D := D) (p := 1000000007) (q := 1000000009) (r := invF 1000000007 1000000009) (by omega) (by omega) (hasInv_9 1000000007 (by omega) (by omega)) hbd.1 (by omega)
    have hir : 0 ≤ invF 1000000007 1000000009 ∧ invF 1000000007 1000000009 < 1000000009 := hi0
    generalize invF 1000000007 1000000009 = r at *
    generalize D % 1000000007 = a at *
    have z1 := Int.emod_nonneg (D % 1000000009 - a) (show (1000000009 : Int) ≠ 0 by omega)
    have z2 := Int.emod_lt_of_pos (D % 1000000009 - a) (show (0 : Int) < 1000000009 by omega)
    generalize (D % 1000000009 - a) % 1000000009 = z at *
    have hmm := mulB (a := z) (b := r) (A := 2 ^ 30) (B := 2 ^ 30) (by omega) (by omega)
    have hnn : 0 ≤ z * r := Int.mul_nonneg z1 hir.1
    have w1 := w64 (z * r) (by omega) (by omega)
    have hrm : (z * r).tmod 1000000009 = z * r % 1000000009 := Int.tmod_eq_emod_of_nonneg hnn
    have y1 := Int.emod_nonneg (z * r) (show (1000000009 : Int) ≠ 0 by omega)
    have y2 := Int.emod_lt_of_pos (z * r) (show (0 : Int) < 1000000009 by omega)
    simp (maxSteps := 300000) (disch := omega) only [gs, gs2, gs3, gs4, ↓reduceIte, Nat.reduceEqDiff, Int.reduceToNat, Nat.reduceMul, Nat.reduceAdd, Nat.reduceBEq, isLd, w1, fun x : Int => bin_rem .i64 x 1000000009 (by omega), hrm]
    rw [hcrt]
    exact ⟨G, sG2.trans hB.1, hk⟩
open Classical in
/-- what CountTrees returns. -/
noncomputable def treesV (N : Gra) : Int × Int := if GraOk N then (dt (keep N.n.toNat [0]).length (sub (keep N.n.toNat [0]) (lapK N.edges N.edges.length)), 0) else (0, 1)
theorem keep0 {N : Gra} (hn : GraOk N) : (keep N.n.toNat [0]).length ≤ 11 := by
  have hn1 := hn.1
  have := keep_lt (n := N.n.toNat) (om := [0]) ⟨0, by simp, by omega, by omega⟩
  omega
theorem impl_CountTrees_ok {G : GH} {N : Gra} {A : Option Addr} {c : Nat} (h : T3S G A c N.edges) (hl : N.edges.length < 2 ^ 40) {K : Value → GH → Prop}
    (hk : K (pairV (treesV N)) G) : GC Try.prog 82 [graV N A c] G K := by
  refine GC_drop (c_impl_CountTrees_i (by simp) ?_)
  unfold graV graC
  simp (maxSteps := 300000) (disch := omega) only [gs, gs2, gs3, gs4, ↓reduceIte, Nat.reduceEqDiff, Int.reduceToNat, Nat.reduceMul, Nat.reduceAdd, Nat.reduceBEq, isLd]
  intro b1 hb1
  have s1 := Sub.put hb1 ⟨[.int .i64 N.n, .slice A N.edges.length c], true⟩
  have f0 : rd (put G b1 ⟨[.int .i64 N.n, .slice A N.edges.length c], true⟩) (some ⟨b1, 0, none⟩) = some (.int .i64 N.n) := rd_box _ _ _ 0 _ rfl
  have f1 : rd (put G b1 ⟨[.int .i64 N.n, .slice A N.edges.length c], true⟩) (some ⟨b1, 1, none⟩) = some (.slice A N.edges.length c) := rd_box _ _ _ 1 _ rfl
  revert s1 f0 f1
  generalize put G b1 ⟨[.int .i64 N.n, .slice A N.edges.length c], true⟩ = G1
  intro s1 f0 f1
  simp (maxSteps := 300000) (disch := omega) only [gs, gs2, gs3, gs4, ↓reduceIte, Nat.reduceEqDiff, Int.reduceToNat, Nat.reduceMul, Nat.reduceAdd, Nat.reduceBEq, isLd, f0, f1]
  refine impl_ValidGraph_ok (N := N) (h.sub s1) hl fun bb hbb => ?_
  cases bb
  · simp (maxSteps := 300000) (disch := omega) only [gs, gs2, gs3, gs4, ↓reduceIte, Nat.reduceEqDiff, Int.reduceToNat, Nat.reduceMul, Nat.reduceAdd, Nat.reduceBEq, isLd]
    have : treesV N = (0, 1) := by unfold treesV; rw [if_neg fun x => by have := hbb.2 x; cases this]
    rw [this] at hk
    exact ⟨G, s1, hk⟩
  · have hn := hbb.1 rfl
    simp (maxSteps := 300000) (disch := omega) only [gs, gs2, gs3, gs4, ↓reduceIte, Nat.reduceEqDiff, Int.reduceToNat, Nat.reduceMul, Nat.reduceAdd, Nat.reduceBEq, isLd, f0, f1, gBs]
    refine ⟨by intro v hv; simp at hv; subst hv; rfl, fun b8 hb8 => ?_⟩
    have s8 := Sub.put hb8 ⟨([0] : List Int).map I64, true⟩
    have hO : IntS (put G1 b8 ⟨([0] : List Int).map I64, true⟩) (some ⟨b8, 0, none⟩) 1 [0] := blk_ints (xs := [0]) (put_same _ _ _)
    refine impl_minor_ok (N := N) (om := [0]) ((h.sub s1).sub s8) hn hO (by simp) (keep0 hn) ?_
    simp (maxSteps := 300000) (disch := omega) only [gs, gs2, gs3, gs4, ↓reduceIte, Nat.reduceEqDiff, Int.reduceToNat, Nat.reduceMul, Nat.reduceAdd, Nat.reduceBEq, isLd]
    have : treesV N = (dt (keep N.n.toNat [0]).length (sub (keep N.n.toNat [0]) (lapK N.edges N.edges.length)), 0) := by unfold treesV; rw [if_pos hn]
    rw [this] at hk
    exact ⟨G, s1.trans s8, hk⟩
/-- the sum of the cells of a row at some places. -/
def smP (P : Nat → Bool) (g : Nat → Int) (n : Nat) : Int := sm (fun j => if P j then g j else 0) n
theorem smP_lin (P : Nat → Bool) (g h : Nat → Int) (a c : Int) (n : Nat) : smP P (fun j => a * g j - c * h j) n = a * smP P g n - c * smP P h n := by
  unfold smP
  rw [← sm_lin2]
  refine sm_congr n fun j _ => ?_
  split
  · rfl
  · simp
theorem smP_head (P : Nat → Bool) (g : Nat → Int) (n : Nat) : smP P g (n + 1) = (if P 0 then g 0 else 0) + smP (fun j => P (j + 1)) (fun j => g (j + 1)) n := by
  unfold smP; rw [sm_head]
/-- some row of each choice of places outweighs the rest. -/
def Good (n : Nat) (f : Int → Int → Int) : Prop := Dom n f ∧ ∀ P : Nat → Bool, (∃ i, i < n ∧ P i = true) → ∃ i, i < n ∧ P i = true ∧ 0 < smP P (fun j => f i j) n
theorem Dom.part {n : Nat} {f : Int → Int → Int} (h : Dom n f) {P : Nat → Bool} {i : Nat} (hi : i < n) (hp : P i = true) : sm (fun j => f i j) n ≤ smP P (fun j => f i j) n :=
  sm_le n fun j hj => by
    by_cases e : P j = true
    · rw [if_pos e]; exact Int.le_refl _
    · rw [if_neg e]
      exact (h i hi).1 j hj (fun x => e (by rw [x]; exact hp))
theorem Good.schur {n : Nat} {f : Int → Int → Int} (h : Good (n + 1) f) : 0 < f 0 0 ∧ Good n (Gh.schur f) := by
  obtain ⟨hD, hG⟩ := h
  have hpos : 0 < f 0 0 := by
    obtain ⟨i, hi, hp, hs⟩ := hG (fun j => decide (j = 0)) ⟨0, by omega, by simp⟩
    simp at hp
    subst hp
    rw [smP_head] at hs
    have e : smP (fun j => decide (j + 1 = 0)) (fun j => f ((0 : Nat) : Int) ((j + 1 : Nat) : Int)) n = 0 := by
      unfold smP
      exact (sm_congr n fun j _ => by simp).trans (sm_zero n)
    rw [e] at hs
    simpa using hs
  refine ⟨hpos, hD.schur, fun P hP => ?_⟩
  obtain ⟨i0, hi0, hp0⟩ := hP
  have hZ : ∀ Q : Nat → Bool, -f 0 0 ≤ smP Q (fun j => f 0 ((j : Int) + 1)) n := fun Q => by
    have h1 := hD.part (P := fun j => match j with | 0 => true | j + 1 => Q j) (i := 0) (by omega) rfl
    have h2 := (hD 0 (by omega)).2
    rw [smP_head] at h1
    simp only [if_true, Int.natCast_zero] at h1
    have e : smP (fun j => Q j) (fun j => f 0 ((j + 1 : Nat) : Int)) n = smP Q (fun j => f 0 ((j : Int) + 1)) n := rfl
    rw [e] at h1
    simp only [Int.natCast_zero] at h2
    omega
  have hB : ∀ i : Nat, smP P (fun j => Gh.schur f i j) n = f 0 0 * smP P (fun j => f ((i : Int) + 1) ((j : Int) + 1)) n - f ((i : Int) + 1) 0 * smP P (fun j => f 0 ((j : Int) + 1)) n := fun i => by
    rw [← smP_lin]; rfl
  have hc : ∀ i : Nat, i < n → f ((i : Int) + 1) 0 ≤ 0 := fun i hi => (hD (i + 1) (by omega)).1 0 (by omega) (by omega)
  -- the places with the first one
  obtain ⟨k, hk, hkp, hks⟩ := hG (fun j => match j with | 0 => true | j + 1 => P j) ⟨0, by omega, rfl⟩
  rw [smP_head] at hks
  simp only [if_true] at hks
  have eS : ∀ u : Int, smP (fun j => P j) (fun j => f u ((j + 1 : Nat) : Int)) n = smP P (fun j => f u ((j : Int) + 1)) n := fun u => rfl
  rw [eS] at hks
  cases k with
  | zero =>
    obtain ⟨m, hm, hmp, hms⟩ := hG (fun j => match j with | 0 => false | j + 1 => P j) ⟨i0 + 1, by omega, hp0⟩
    cases m with
    | zero => cases hmp
    | succ i =>
      refine ⟨i, by omega, hmp, ?_⟩
      rw [smP_head] at hms
      simp only [Bool.false_eq_true, if_false, Int.zero_add] at hms
      rw [eS] at hms
      have hd := hD.part (P := fun j => match j with | 0 => true | j + 1 => P j) (i := i + 1) (by omega) hmp
      have hd2 := (hD (i + 1) (by omega)).2
      rw [smP_head] at hd
      simp only [if_true] at hd
      rw [eS] at hd
      rw [hB]
      have hci := hc i (by omega)
      have hZi := hZ P
      simp only [Int.natCast_add, Int.natCast_one, Int.natCast_zero] at hms hd hks hd2
      generalize smP P (fun j => f ((i : Int) + 1) ((j : Int) + 1)) n = S at *
      generalize smP P (fun j => f 0 ((j : Int) + 1)) n = Z at *
      generalize f ((i : Int) + 1) 0 = c at *
      generalize f 0 0 = a at *
      have k1 : a * (-c) ≤ a * S := Int.mul_le_mul_of_nonneg_left (by omega) (by omega)
      by_cases e : S + c = 0
      · have k2 : 0 < (-c) * (Z + a) := Int.mul_pos (by omega) (by omega)
        have e2 : S = -c := by omega
        rw [e2, Int.mul_neg]
        rw [Int.mul_add, Int.neg_mul, Int.neg_mul, Int.mul_comm c a] at k2
        omega
      · have k2 : (-c) * (-a) ≤ (-c) * Z := Int.mul_le_mul_of_nonneg_left (by omega) (by omega)
        have k3 : 0 < a * (S + c) := Int.mul_pos (by omega) (by omega)
        rw [Int.mul_add] at k3
        rw [Int.neg_mul_neg, Int.neg_mul, Int.mul_comm c a] at k2
        omega
  | succ i =>
    refine ⟨i, by omega, hkp, ?_⟩
    rw [hB]
    have hci := hc i (by omega)
    have hZi := hZ P
    simp only [Int.natCast_add, Int.natCast_one, Int.natCast_zero] at hks
    generalize smP P (fun j => f ((i : Int) + 1) ((j : Int) + 1)) n = S at *
    generalize smP P (fun j => f 0 ((j : Int) + 1)) n = Z at *
    generalize f ((i : Int) + 1) 0 = c at *
    generalize f 0 0 = a at *
    have k2 : (-c) * (-a) ≤ (-c) * Z := Int.mul_le_mul_of_nonneg_left (by omega) (by omega)
    have k3 : 0 < a * (S + c) := Int.mul_pos (by omega) (by omega)
    rw [Int.mul_add] at k3
    rw [Int.neg_mul_neg, Int.neg_mul, Int.mul_comm c a] at k2
    omega
theorem Good.pos : ∀ (n : Nat) (f : Int → Int → Int), Good n f → 0 < dt n f
  | 0, f, _ => (by decide : (0 : Int) < 1)
  | n + 1, f, h => by
    obtain ⟨ha, hs⟩ := h.schur
    have ih := Good.pos n (Gh.schur f) hs
    have e := dt_schur n f
    have hp := pow_pos' ha n
    have : 0 < f 0 0 ^ n * dt (n + 1) f := by rw [e]; exact Int.mul_pos ha ih
    exact Int.pos_of_mul_pos_right this hp
/-- multiples of other rows are added to a row. -/
theorem dt_addm {n : Nat} (f : Int → Int → Int) {r : Nat} (hr : r < n) (P : Nat → Bool) : ∀ m, m ≤ n → dt n (setr f r (fun j => f r j + sm (fun s => if P s ∧ s ≠ r then f s j else 0) m)) = dt n f
  | 0, _ => by
    refine dt_congr n fun i j _ _ => ?_
    unfold setr
    by_cases e : (i : Int) = r
    · rw [if_pos e, e]; simp [sm]
    · rw [if_neg e]
  | m + 1, hm => by
    rw [← dt_addm f hr P m (by omega)]
    by_cases h : P m = true ∧ m ≠ r
    · rw [← dt_addr (setr f r (fun j => f r j + sm (fun s => if P s ∧ s ≠ r then f s j else 0) m)) (r := m) (s := r) (by omega) hr h.2 1]
      refine dt_congr n fun i j _ _ => ?_
      unfold setr
      by_cases e : (i : Int) = r
      · rw [if_pos e, if_pos e, if_neg (by omega), if_pos rfl]
        show f r j + (sm _ m + (if P m = true ∧ m ≠ r then f m j else 0)) = 1 * f m j + (f r j + sm _ m)
        rw [if_pos h]; omega
      · rw [if_neg e, if_neg e, if_neg e]
    · refine dt_congr n fun i j _ _ => ?_
      unfold setr
      by_cases e : (i : Int) = r
      · rw [if_pos e, if_pos e]
        show f r j + (sm _ m + (if P m = true ∧ m ≠ r then f m j else 0)) = f r j + sm _ m
        rw [if_neg h]; omega
      · rw [if_neg e, if_neg e]
theorem dt_zrow {n : Nat} {f : Int → Int → Int} {r : Nat} (hr : r < n) (h : ∀ j : Nat, j < n → f r j = 0) : dt n f = 0 := by
  have e := dt_scale f (r := r) hr 0
  rw [Int.zero_mul] at e
  rw [← e]
  refine dt_congr n fun i j hi hj => ?_
  unfold setr
  by_cases c : (i : Int) = r
  · rw [if_pos c, c, h j hj]; simp
  · rw [if_neg c]
/-- the rows at some places sum to nothing. -/
theorem dt_dep {n : Nat} {f : Int → Int → Int} {P : Nat → Bool} {r : Nat} (hr : r < n) (hp : P r = true) (h : ∀ j : Nat, j < n → smP P (fun s => f s j) n = 0) : dt n f = 0 := by
  rw [← dt_addm f hr P n (Nat.le_refl _)]
  refine dt_zrow hr fun j hj => ?_
  unfold setr
  rw [if_pos rfl]
  have e : ∀ m, sm (fun s => if P s ∧ s ≠ r then f s j else 0) m + (if r < m then f r j else 0) = smP P (fun s => f s j) m := by
    intro m
    induction m with
    | zero => simp [sm, smP]
    | succ m ih =>
      show sm _ m + (if P m ∧ m ≠ r then f m j else 0) + _ = smP P (fun s => f s j) m + (if P m then f m j else 0)
      rw [← ih]
      by_cases c1 : m = r
      · subst c1
        rw [if_neg (by omega), if_pos (by omega), if_neg (by omega), if_pos hp]; try omega
      · by_cases c2 : P m = true
        · rw [if_pos ⟨c2, c1⟩, if_pos c2]
          by_cases c3 : r < m
          · rw [if_pos c3, if_pos (by omega)]; omega
          · rw [if_neg c3, if_neg (by omega)]; omega
        · rw [if_neg (fun x => c2 x.1), if_neg c2]
          by_cases c3 : r < m
          · rw [if_pos c3, if_pos (by omega)]; try omega
          · rw [if_neg c3, if_neg (by omega)]; try omega
  have := e n
  rw [if_pos hr, h j hj] at this
  omega
theorem keep0_eq : ∀ m : Nat, keep (m + 1) [0] = (List.range m).map fun i : Nat => (i : Int) + 1
  | 0 => by rw [keep_succ]; simp [keep, iota]
  | m + 1 => by
    rw [keep_succ, keep0_eq m, if_neg (by simp; omega), List.range_succ, List.map_append]
    simp
theorem sumN_sm (g : Int → Int) : ∀ n : Nat, sumN g n = sm (fun i => g i) n
  | 0 => rfl
  | n + 1 => by show sumN g n + g n = _; rw [sumN_sm g n]; rfl
theorem lap_le {N : Gra} (hn : GraOk N) {i j : Int} (hij : i ≠ j) {m : Nat} (hm : ((N.edges.getD m z3).1 = i ∧ (N.edges.getD m z3).2.1 = j) ∨ ((N.edges.getD m z3).1 = j ∧ (N.edges.getD m z3).2.1 = i)) : ∀ k : Nat, k ≤ N.edges.length → m < k → lapK N.edges k i j < 0
  | 0, _, h => by omega
  | k + 1, hk, h => by
    obtain ⟨o1, o2, o3, o4⟩ := hn.2.1 k (by omega)
    rw [lapK_step hn.okE (by omega)]
    by_cases e : m = k
    · subst e
      have ih := lap_off hn hij m (by omega)
      (repeat' split) <;> omega
    · have ih := lap_le hn hij hm k (by omega) (by omega)
      (repeat' split) <;> omega
/-- the node that stands for a node lies where the node lies, if no edge leaves. -/
theorem cK_in {N : Gra} {S : Int → Prop} (hS : ∀ k, k < N.edges.length → (S (N.edges.getD k z3).1 ↔ S (N.edges.getD k z3).2.1)) {b : Int → Int} (hb : ∀ v, S v → S (b v)) : ∀ k : Nat, k ≤ N.edges.length → ∀ v, S v → S (cK N.edges b k v)
  | 0, _, v, hv => hb v hv
  | k + 1, hk, v, hv => by
    have ih := cK_in hS hb k (by omega)
    have he := hS k (by omega)
    show S (cMin (cK N.edges b k) (N.edges.getD k z3) v)
    unfold cMin
    have key : ∀ x y : Int, S x → S y → S (min x y) := fun x y hx hy => by
      rw [Int.min_def]; split
      · exact hx
      · exact hy
    split
    · rename_i h; rw [h] at hv
      exact key _ _ (ih _ (he.2 hv)) (ih _ hv)
    · split
      · rename_i h; rw [h] at hv
        exact key _ _ (ih _ hv) (ih _ (he.1 hv))
      · exact ih v hv
theorem cR_in {N : Gra} {S : Int → Prop} (hS : ∀ k, k < N.edges.length → (S (N.edges.getD k z3).1 ↔ S (N.edges.getD k z3).2.1)) : ∀ r : Nat, ∀ v, S v → S (cR N.edges r v)
  | 0, v, hv => hv
  | r + 1, v, hv => cK_in hS (cR_in hS r) _ (Nat.le_refl _) v hv
theorem cK_le2 {es : List T3} {b : Int → Int} (hb : ∀ v, b v ≤ v) : ∀ (k : Nat) (v : Int), cK es b k v ≤ b v
  | 0, v => Int.le_refl _
  | k + 1, v => by
    have ih := cK_le2 (es := es) hb k v
    show cMin (cK es b k) (es.getD k z3) v ≤ _
    unfold cMin
    split
    · rename_i h; rw [h] at ih ⊢; omega
    · split
      · rename_i h; rw [h] at ih ⊢; omega
      · exact ih
theorem cR_le (es : List T3) : ∀ (r : Nat) (v : Int), cR es r v ≤ v
  | 0, v => Int.le_refl _
  | r + 1, v => Int.le_trans (cK_le2 (cR_le es r) _ v) (cR_le es r v)
theorem node_shift (S : Nat → Bool) (g : Nat → Int) (h0 : S 0 = false) (m : Nat) : sm (fun v => if S v = true then g v else 0) (m + 1) = smP (fun i => S (i + 1)) (fun i => g (i + 1)) m := by
  rw [sm_head, h0]; simp [smP]
theorem sub0 {m : Nat} {L : Int → Int → Int} {i j : Nat} (hi : i < m) (hj : j < m) : sub (keep (m + 1) [0]) L i j = L ((i : Int) + 1) ((j : Int) + 1) := by
  unfold sub
  rw [keep0_eq, Int.toNat_natCast, Int.toNat_natCast]
  simp [List.getD, hi, hj]
def shP (P : Nat → Bool) : Nat → Bool
  | 0 => false
  | j + 1 => P j
theorem conn_iff {N : Gra} (hn : GraOk N) : (∀ v : Int, 0 ≤ v → v < N.n → cR N.edges N.n.toNat v = 0) ↔ dt (keep N.n.toNat [0]).length (sub (keep N.n.toNat [0]) (lapK N.edges N.edges.length)) ≠ 0 := by
  have hn1 := hn.1
  have hin : ∀ i, i < N.edges.length → 0 ≤ (N.edges.getD i z3).1 ∧ (N.edges.getD i z3).1 < (N.n.toNat : Nat) ∧ 0 ≤ (N.edges.getD i z3).2.1 ∧ (N.edges.getD i z3).2.1 < (N.n.toNat : Nat) := fun i hi => by
    have := hn.2.1 i hi; unfold okEdge at this; omega
  obtain ⟨m, hm⟩ : ∃ m, N.n.toNat = m + 1 := ⟨N.n.toNat - 1, by omega⟩
  have hlen : (keep N.n.toNat [0]).length = m := by rw [hm, keep0_eq]; simp
  have hD := minor_dom hn [0]
  rw [hlen] at hD ⊢
  generalize hL : lapK N.edges N.edges.length = L at *
  have hsub : ∀ i j : Nat, i < m → j < m → sub (keep N.n.toNat [0]) L i j = L ((i : Int) + 1) ((j : Int) + 1) := fun i j hi hj => by rw [hm]; exact sub0 hi hj
  constructor
  · intro hall
    have hG : Good m (sub (keep N.n.toNat [0]) L) := by
      refine ⟨hD, fun P hP => Classical.byContradiction fun hno => ?_⟩
      obtain ⟨i0, hi0, hp0⟩ := hP
      let S : Int → Prop := fun v => 1 ≤ v ∧ v < N.n ∧ P (v - 1).toNat = true
      have hleave : ∀ u w : Int, S u → ¬ S w → 0 ≤ w → w < N.n → L u w < 0 → False := fun u w hu hw h0 h1 hlt => by
        refine hno ⟨(u - 1).toNat, by have := hu.1; have := hu.2.1; omega, hu.2.2, ?_⟩
        obtain ⟨i, rfl⟩ : ∃ i : Nat, u = (i : Int) + 1 := ⟨(u - 1).toNat, by have := hu.1; omega⟩
        have hi : i < m := by have := hu.2.1; omega
        rw [show ((i : Int) + 1 - 1).toNat = i by omega]
        have hrow := lap_row hn ((i : Int) + 1) _ (Nat.le_refl _)
        rw [hL, sumN_sm, hm] at hrow
        have e1 : smP P (fun j => sub (keep N.n.toNat [0]) L i j) m = sm (fun v => if shP P v = true then L ((i : Int) + 1) v else 0) (m + 1) := by
          rw [node_shift (shP P) (fun v => L ((i : Int) + 1) v) rfl]
          unfold smP
          refine sm_congr m fun j hj => ?_
          show (if P j = true then sub (keep N.n.toNat [0]) L i j else 0) = (if P j = true then L ((i : Int) + 1) ((j + 1 : Nat) : Int) else 0)
          rw [hsub i j hi hj]; rfl
        rw [e1]
        -- what is left out holds w
        have e2 : sm (fun v => if shP P v = true then L ((i : Int) + 1) v else 0) (m + 1) = sm (fun v : Nat => L ((i : Int) + 1) v) (m + 1) - sm (fun v => if shP P v = true then 0 else L ((i : Int) + 1) v) (m + 1) := by
          have key : ∀ t, sm (fun v => if shP P v = true then L ((i : Int) + 1) v else 0) t = sm (fun v : Nat => L ((i : Int) + 1) v) t - sm (fun v => if shP P v = true then 0 else L ((i : Int) + 1) v) t := by
            intro t
            induction t with
            | zero => rfl
            | succ t ih =>
              show sm _ t + (if shP P t = true then L ((i : Int) + 1) t else 0) = (sm _ t + L ((i : Int) + 1) t) - (sm _ t + (if shP P t = true then 0 else L ((i : Int) + 1) t))
              rw [ih]
              split <;> omega
          exact key _
        rw [e2, hrow]
        have e3 := sm_le (g := fun v => if shP P v = true then 0 else L ((i : Int) + 1) v) (h := fun v => if v = w.toNat then L ((i : Int) + 1) w else 0) (m + 1) fun v hv => by
          by_cases ev : v = w.toNat
          · have hpw : ¬ shP P v = true := fun x => by
              cases v with
              | zero => cases x
              | succ j => exact hw ⟨by omega, h1, by rw [show (w - 1).toNat = j by omega]; exact x⟩
            simp only [if_neg hpw, if_pos ev]
            rw [ev, Int.toNat_of_nonneg h0]; exact Int.le_refl _
          · simp only [if_neg ev]
            split
            · exact Int.le_refl _
            · rename_i hpv
              by_cases e5 : (v : Int) = (i : Int) + 1
              · exfalso
                have : v = i + 1 := by omega
                subst this
                have hpi := hu.2.2
                rw [show ((i : Int) + 1 - 1).toNat = i by omega] at hpi
                exact hpv hpi
              · have := lap_off hn (i := (i : Int) + 1) (j := v) (fun x => e5 x.symm) _ (Nat.le_refl _)
                rw [hL] at this; exact this
        rw [sm_one (i := w.toNat) (fun j hj => if_neg hj) (m + 1), if_pos (by omega), if_pos rfl] at e3
        omega
      have hclosed : ∀ k, k < N.edges.length → (S (N.edges.getD k z3).1 ↔ S (N.edges.getD k z3).2.1) := fun k hk => by
        obtain ⟨o1, o2, o3, o4⟩ := hn.2.1 k hk
        have l1 := lap_le hn (i := (N.edges.getD k z3).1) (j := (N.edges.getD k z3).2.1) (by omega) (m := k) (.inl ⟨rfl, rfl⟩) _ (Nat.le_refl _) hk
        have l2 := lap_le hn (i := (N.edges.getD k z3).2.1) (j := (N.edges.getD k z3).1) (by omega) (m := k) (.inr ⟨rfl, rfl⟩) _ (Nat.le_refl _) hk
        rw [hL] at l1 l2
        constructor
        · intro h1
          exact Classical.byContradiction fun h2 => hleave _ _ h1 h2 (by omega) (by omega) l1
        · intro h1
          exact Classical.byContradiction fun h2 => hleave _ _ h1 h2 (by omega) (by omega) l2
      have h1 : S ((i0 : Int) + 1) := ⟨by omega, by omega, by rw [show ((i0 : Int) + 1 - 1).toNat = i0 by omega]; exact hp0⟩
      have h2 := cR_in hclosed N.n.toNat _ h1
      rw [hall _ (by omega) (by omega)] at h2
      have := h2.1; omega
    have := Good.pos m _ hG
    omega
  · intro hne v h0 h1
    refine Classical.byContradiction fun hv => hne ?_
    have hc0 : cR N.edges N.n.toNat 0 = 0 := by
      have a1 := cR_le N.edges N.n.toNat 0
      have a2 : 0 ≤ cR N.edges N.n.toNat 0 := by
        rw [show N.n.toNat = (N.n.toNat - 1) + 1 by omega]
        exact (cR_bd N.edges hin (N.n.toNat - 1) N.edges.length (Nat.le_refl _) 0 (by omega) (by omega)).1
      omega
    have hv1 : 1 ≤ v := by
      apply Classical.byContradiction; intro hx
      have : v = 0 := by omega
      rw [this] at hv; exact hv hc0
    have hcol : ∀ x : Int, ∀ k : Nat, k ≤ N.edges.length → sm (fun u : Nat => if decide (cR N.edges N.n.toNat u ≠ 0) = true then lapK N.edges k u x else 0) (m + 1) = 0 := by
      intro x k
      induction k with
      | zero =>
        intro _
        exact (sm_congr (m + 1) fun u _ => by simp only [lapK]; split <;> rfl).trans (sm_zero _)
      | succ k ih =>
        intro hk
        have ih := ih (by omega)
        obtain ⟨o1, o2, o3, o4⟩ := hn.2.1 k (by omega)
        have hpe := parts_edge (es := N.edges) (n := N.n.toNat) hin (i := k) (by omega)
        have hstep := fun i => lapK_step hn.okE (show k < N.edges.length by omega) i x
        have e : sm (fun u : Nat => if decide (cR N.edges N.n.toNat u ≠ 0) = true then lapK N.edges (k + 1) u x else 0) (m + 1) = sm (fun u : Nat => if decide (cR N.edges N.n.toNat u ≠ 0) = true then lapK N.edges k u x else 0) (m + 1) +
            (sm (fun u => if u = (N.edges.getD k z3).1.toNat then (if decide (cR N.edges N.n.toNat (N.edges.getD k z3).1 ≠ 0) = true then (if x = (N.edges.getD k z3).1 then (N.edges.getD k z3).2.2 else 0) + (if x = (N.edges.getD k z3).2.1 then -(N.edges.getD k z3).2.2 else 0) else 0) else 0) (m + 1) +
            sm (fun u => if u = (N.edges.getD k z3).2.1.toNat then (if decide (cR N.edges N.n.toNat (N.edges.getD k z3).2.1 ≠ 0) = true then (if x = (N.edges.getD k z3).2.1 then (N.edges.getD k z3).2.2 else 0) + (if x = (N.edges.getD k z3).1 then -(N.edges.getD k z3).2.2 else 0) else 0) else 0) (m + 1)) := by
          have key : ∀ t, sm (fun u : Nat => if decide (cR N.edges N.n.toNat u ≠ 0) = true then lapK N.edges (k + 1) u x else 0) t = sm (fun u : Nat => if decide (cR N.edges N.n.toNat u ≠ 0) = true then lapK N.edges k u x else 0) t +
            (sm (fun u => if u = (N.edges.getD k z3).1.toNat then (if decide (cR N.edges N.n.toNat (N.edges.getD k z3).1 ≠ 0) = true then (if x = (N.edges.getD k z3).1 then (N.edges.getD k z3).2.2 else 0) + (if x = (N.edges.getD k z3).2.1 then -(N.edges.getD k z3).2.2 else 0) else 0) else 0) t +
            sm (fun u => if u = (N.edges.getD k z3).2.1.toNat then (if decide (cR N.edges N.n.toNat (N.edges.getD k z3).2.1 ≠ 0) = true then (if x = (N.edges.getD k z3).2.1 then (N.edges.getD k z3).2.2 else 0) + (if x = (N.edges.getD k z3).1 then -(N.edges.getD k z3).2.2 else 0) else 0) else 0) t) := by
            intro t
            induction t with
            | zero => rfl
            | succ t iht =>
              show sm _ t + _ = (sm _ t + _) + ((sm _ t + _) + (sm _ t + _))
              rw [iht]
              dsimp only
              rw [hstep]
              have c1 : (t = (N.edges.getD k z3).1.toNat) ↔ ((t : Int) = (N.edges.getD k z3).1) := by omega
              have c2 : (t = (N.edges.getD k z3).2.1.toNat) ↔ ((t : Int) = (N.edges.getD k z3).2.1) := by omega
              simp only [c1, c2]
              by_cases d1 : (t : Int) = (N.edges.getD k z3).1
              · by_cases d2 : (t : Int) = (N.edges.getD k z3).2.1
                · omega
                · simp only [if_pos d1, if_neg d2, ← d1]
                  by_cases d3 : decide (cR N.edges N.n.toNat (t : Int) ≠ 0) = true
                  · simp only [if_pos d3]; omega
                  · simp only [if_neg d3]; omega
              · by_cases d2 : (t : Int) = (N.edges.getD k z3).2.1
                · simp only [if_neg d1, if_pos d2, ← d2]
                  by_cases d3 : decide (cR N.edges N.n.toNat (t : Int) ≠ 0) = true
                  · simp only [if_pos d3]; omega
                  · simp only [if_neg d3]; omega
                · simp only [if_neg d1, if_neg d2]
                  by_cases d3 : decide (cR N.edges N.n.toNat (t : Int) ≠ 0) = true
                  · simp only [if_pos d3]; omega
                  · simp only [if_neg d3]; omega
          exact key _
        rw [e, ih, sm_one (i := (N.edges.getD k z3).1.toNat) (fun j hj => if_neg hj), sm_one (i := (N.edges.getD k z3).2.1.toNat) (fun j hj => if_neg hj), if_pos (show (N.edges.getD k z3).1.toNat < m + 1 by omega), if_pos (show (N.edges.getD k z3).2.1.toNat < m + 1 by omega)]
        simp only [if_true]
        rw [hpe]
        by_cases d3 : decide (cR N.edges N.n.toNat (N.edges.getD k z3).2.1 ≠ 0) = true
        · simp only [if_pos d3]
          (repeat' split) <;> omega
        · simp only [if_neg d3]; omega
    refine dt_dep (P := fun i => decide (cR N.edges N.n.toNat ((i : Int) + 1) ≠ 0)) (r := (v - 1).toNat) (by omega) (by
      rw [show (((v - 1).toNat : Nat) : Int) + 1 = v by omega]; simpa using hv) fun j hj => ?_
    have h := hcol ((j : Int) + 1) _ (Nat.le_refl _)
    rw [hL, node_shift (fun u => decide (cR N.edges N.n.toNat (u : Nat) ≠ 0)) (fun u => L u ((j : Int) + 1)) (by simpa using hc0)] at h
    refine Eq.trans ?_ h
    unfold smP
    refine sm_congr m fun i hi => ?_
    show (if decide (cR N.edges N.n.toNat ((i : Int) + 1) ≠ 0) = true then sub (keep N.n.toNat [0]) L i j else 0) = (if decide (cR N.edges N.n.toNat ((i + 1 : Nat) : Int) ≠ 0) = true then L ((i + 1 : Nat) : Int) ((j : Int) + 1) else 0)
    rw [hsub i j hi hj]; rfl
def tr (f : Int → Int → Int) : Int → Int → Int := fun i j => f j i
theorem schur_tr (f : Int → Int → Int) : schur (tr f) = tr (schur f) := by
  funext i j
  show f 0 0 * f (j + 1) (i + 1) - f 0 (i + 1) * f (j + 1) 0 = f 0 0 * f (j + 1) (i + 1) - f (j + 1) 0 * f 0 (i + 1)
  rw [Int.mul_comm (f 0 (i + 1))]
def bmp (f : Int → Int → Int) : Int → Int → Int := fun i j => if i = 0 ∧ j = 0 then f 0 0 + 1 else f i j
theorem dt_bmp (n : Nat) (f : Int → Int → Int) : dt (n + 1) (bmp f) = dt (n + 1) f + dt n (dlr 0 f) := by
  show sm (fun i => sg i * bmp f i 0 * dt n (dlr i (bmp f))) (n + 1) = sm (fun i => sg i * f i 0 * dt n (dlr i f)) (n + 1) + _
  have e : ∀ i : Nat, dt n (dlr i (bmp f)) = dt n (dlr i f) := fun i => dt_congr n fun a b ha hb => by
    unfold dlr bmp; rw [if_neg (by omega)]
  rw [sm_head, sm_head, sm_congr (g := fun i : Nat => sg (i + 1) * bmp f ((i + 1 : Nat) : Int) 0 * dt n (dlr ((i + 1 : Nat) : Int) (bmp f))) (h := fun i : Nat => sg (i + 1) * f ((i + 1 : Nat) : Int) 0 * dt n (dlr ((i + 1 : Nat) : Int) f)) n fun i hi => by
    rw [e]
    have : bmp f ((i + 1 : Nat) : Int) 0 = f ((i + 1 : Nat) : Int) 0 := by unfold bmp; rw [if_neg (by omega)]
    rw [this]]
  rw [e]
  have : bmp f ((0 : Nat) : Int) 0 = f 0 0 + 1 := by unfold bmp; rw [if_pos ⟨rfl, rfl⟩]
  rw [this]
  have s0 : sg 0 = 1 := rfl
  rw [s0, Int.one_mul, Int.one_mul, Int.add_mul, Int.one_mul]
  show f 0 0 * dt n (dlr 0 f) + dt n (dlr 0 f) + _ = f 0 0 * dt n (dlr 0 f) + _ + dt n (dlr 0 f)
  omega
theorem pow_ne0 {a : Int} (h : a ≠ 0) : ∀ n : Nat, a ^ n ≠ 0
  | 0 => by rw [Int.pow_zero]; decide
  | n + 1 => by rw [Int.pow_succ]; exact Int.mul_ne_zero (pow_ne0 h n) h
/-- rows for columns. -/
theorem dt_tr : ∀ (n : Nat) (f : Int → Int → Int), dt n (tr f) = dt n f
  | 0, _ => rfl
  | n + 1, f => by
    have key : ∀ g : Int → Int → Int, g 0 0 ≠ 0 → dt (n + 1) (tr g) = dt (n + 1) g := fun g hg => by
      have h1 := dt_schur n g
      have h2 := dt_schur n (tr g)
      rw [schur_tr, dt_tr n] at h2
      exact Int.eq_of_mul_eq_mul_left (pow_ne0 hg n) ((show g 0 0 ^ n * dt (n + 1) (tr g) = g 0 0 * dt n (schur g) from h2).trans h1.symm)
    by_cases h : f 0 0 = 0
    · have a := key (bmp f) (by
        show bmp f 0 0 ≠ 0
        unfold bmp; rw [if_pos ⟨rfl, rfl⟩]; omega)
      have e : tr (bmp f) = bmp (tr f) := by
        funext i j
        show bmp f j i = bmp (tr f) i j
        unfold bmp tr
        by_cases c : i = 0 ∧ j = 0
        · rw [if_pos c, if_pos ⟨c.2, c.1⟩]
        · rw [if_neg c, if_neg fun x => c ⟨x.2, x.1⟩]
      rw [e, dt_bmp, dt_bmp] at a
      have e2 : dt n (dlr 0 (tr f)) = dt n (dlr 0 f) := by
        rw [← dt_tr n (dlr 0 f)]
        refine dt_congr n fun i j hi hj => ?_
        show f (j + 1) (if (i : Int) < 0 then (i : Int) else i + 1) = f (if (j : Int) < 0 then (j : Int) else j + 1) (i + 1)
        rw [if_neg (by omega), if_neg (by omega)]
      omega
    · exact key f h
/-- two places beside one another are exchanged. -/
theorem dt_sx (n : Nat) (f : Int → Int → Int) {r : Nat} (h : r + 1 < n) : dt n (fun i j => f (sx r ((r + 1 : Nat) : Int) i) (sx r ((r + 1 : Nat) : Int) j)) = dt n f := by
  have e : (fun i j => f (sx r ((r + 1 : Nat) : Int) i) (sx r ((r + 1 : Nat) : Int) j)) = swp (tr (swp (tr f) r ((r + 1 : Nat) : Int))) r ((r + 1 : Nat) : Int) := by
    funext i j
    rw [swp_eq]
    show _ = swp (tr f) r ((r + 1 : Nat) : Int) j (sx r ((r + 1 : Nat) : Int) i)
    rw [swp_eq]; rfl
  rw [e, dt_adj n _ r h, dt_tr, dt_adj n _ r h, dt_tr, Int.neg_neg]
/-- a place goes to the front. -/
def cy (r : Nat) (i : Int) : Int := if i = 0 then r else if i ≤ r then i - 1 else i
theorem dt_cy (n : Nat) : ∀ (r : Nat) (f : Int → Int → Int), r < n → dt n (fun i j => f (cy r i) (cy r j)) = dt n f
  | 0, f, h => dt_congr n fun i j _ _ => by
    have e : ∀ i : Nat, cy 0 i = i := fun i => by unfold cy; (repeat' split) <;> omega
    rw [e, e]
  | r + 1, f, h => by
    rw [← dt_sx n f (r := r) h, ← dt_cy n r (fun i j => f (sx r ((r + 1 : Nat) : Int) i) (sx r ((r + 1 : Nat) : Int) j)) (by omega)]
    refine dt_congr n fun i j _ _ => ?_
    have e : ∀ i : Nat, cy (r + 1) i = sx r ((r + 1 : Nat) : Int) (cy r i) := fun i => by unfold cy sx; (repeat' split) <;> omega
    rw [e, e]
def sk (r i : Int) : Int := if i < r then i else i + 1
/-- the minor without a row and its column. -/
def mi (n : Nat) (f : Int → Int → Int) (r : Int) : Int := dt n fun i j => f (sk r i) (sk r j)
theorem mi_congr {n : Nat} {f g : Int → Int → Int} {r : Nat} (h : ∀ i j : Nat, i < n + 1 → j < n + 1 → i ≠ r → j ≠ r → f i j = g i j) : mi n f r = mi n g r :=
  dt_congr n fun i j hi hj => by
    have e : ∀ i : Nat, ∃ k : Nat, sk r i = k ∧ k ≤ i + 1 ∧ k ≠ r := fun i => by
      by_cases c : i < r
      · exact ⟨i, by unfold sk; rw [if_pos (by omega)], by omega, by omega⟩
      · exact ⟨i + 1, by unfold sk; rw [if_neg (by omega)]; rfl, by omega, by omega⟩
    obtain ⟨a, ea, ha, na⟩ := e i
    obtain ⟨b, eb, hb, nb⟩ := e j
    rw [ea, eb]
    exact h a b (by omega) (by omega) na nb
/-- a row that holds only a one, on the diagonal. -/
theorem dt_unit {n : Nat} {f : Int → Int → Int} {r : Nat} (hr : r < n + 1) (h : ∀ j : Nat, j < n + 1 → f r j = if j = r then 1 else 0) : dt (n + 1) f = mi n f r := by
  rw [← dt_cy (n + 1) r f hr, ← dt_tr]
  have c0 : cy r ((0 : Nat) : Int) = r := by unfold cy; rw [if_pos (by omega)]
  have c1 : ∀ i : Nat, cy r ((i + 1 : Nat) : Int) = sk r i := fun i => by unfold cy sk; (repeat' split) <;> omega
  have hz : ∀ i : Nat, i < n + 1 → tr (fun i j => f (cy r i) (cy r j)) i 0 = if i = 0 then 1 else 0 := fun i hi => by
    show f (cy r ((0 : Nat) : Int)) (cy r i) = _
    rw [c0]
    cases i with
    | zero => rw [c0, h r hr, if_pos rfl, if_pos rfl]
    | succ i =>
      rw [c1, if_neg (by omega)]
      by_cases c : i < r
      · have : sk r i = i := by unfold sk; rw [if_pos (by omega)]
        rw [this, h i (by omega), if_neg (by omega)]
      · have : sk r i = ((i + 1 : Nat) : Int) := by unfold sk; rw [if_neg (by omega)]; rfl
        rw [this, h (i + 1) hi, if_neg (by omega)]
  have h0 := hz 0 (by omega)
  rw [if_pos rfl] at h0
  rw [dt_col fun i h1 hi => by rw [hz i hi, if_neg (by omega)]]
  rw [show tr (fun i j => f (cy r i) (cy r j)) 0 0 = 1 from h0, Int.one_mul, ← dt_tr]
  refine dt_congr n fun i j hi hj => ?_
  show (dlr 0 (tr fun i j => f (cy r i) (cy r j))) j i = _
  unfold dlr
  rw [if_neg (by omega)]
  show f (cy r ((i + 1 : Nat) : Int)) (cy r ((j + 1 : Nat) : Int)) = _
  rw [c1, c1]
/-- a row is exchanged for what completes the rows to nothing. -/
theorem dt_sumr {n : Nat} {g : Int → Int → Int} {s : Nat} (hs : s < n) {v : Int → Int} (h : ∀ j : Nat, j < n → sm (fun t => g t j) n = -v j) : dt n (setr g s v) = -dt n g := by
  have h1 := dt_addm g hs (fun _ => true) n (Nat.le_refl _)
  have h2 := dt_scale (setr g s v) hs (-1)
  have e : ∀ j : Int, ∀ m, sm (fun t => if (true = true) ∧ t ≠ s then g t j else 0) m + (if s < m then g s j else 0) = sm (fun t => g t j) m := by
    intro j m
    induction m with
    | zero => simp [sm]
    | succ m ih =>
      show sm _ m + (if (true = true) ∧ m ≠ s then g m j else 0) + _ = sm (fun t => g t j) m + g m j
      rw [← ih]
      by_cases c1 : m = s
      · subst c1
        rw [if_neg (by omega), if_pos (by omega), if_neg (by omega)]; try omega
      · rw [if_pos ⟨rfl, c1⟩]
        by_cases c3 : s < m
        · rw [if_pos c3, if_pos (by omega)]; omega
        · rw [if_neg c3, if_neg (by omega)]; omega
  have h3 : dt n (setr g s (fun j => g s j + sm (fun t => if (true = true) ∧ t ≠ s then g t j else 0) n)) = dt n (setr (setr g s v) s (fun j => -1 * setr g s v s j)) := dt_congr n fun i j hi hj => by
    unfold setr
    by_cases c : (i : Int) = s
    · rw [if_pos c, if_pos c]
      have := e j n
      rw [if_pos hs, h j hj] at this
      rw [if_pos rfl]; omega
    · rw [if_neg c, if_neg c, if_neg c]
  rw [h2] at h3
  have h4 : dt n g = -1 * dt n (setr g s v) := h1.symm.trans h3
  omega
/-- all minors of one kind are the same. -/
theorem mi_any {n : Nat} {f : Int → Int → Int} (hr : ∀ i : Nat, i < n + 1 → sm (fun j => f i j) (n + 1) = 0) (hc : ∀ j : Nat, j < n + 1 → sm (fun i => f i j) (n + 1) = 0) {s : Nat} (hs : s < n) : mi n f ((s + 1 : Nat) : Int) = mi n f 0 := by
  obtain ⟨g, hg⟩ : ∃ g : Int → Int → Int, g = fun i j => f (i + 1) (j + 1) := ⟨_, rfl⟩
  have e0 : mi n f 0 = dt n g := dt_congr n fun i j _ _ => by
    rw [hg]; unfold sk; rw [if_neg (by omega), if_neg (by omega)]
  have a1 := dt_sumr (g := g) hs (v := fun j => f 0 (j + 1)) fun j hj => by
    have := hc (j + 1) (by omega)
    rw [sm_head] at this
    rw [hg]
    show sm (fun t : Nat => f ((t : Int) + 1) ((j : Int) + 1)) n = -f 0 ((j : Int) + 1)
    have e : sm (fun t : Nat => f ((t : Int) + 1) ((j : Int) + 1)) n = sm (fun i : Nat => f ((i + 1 : Nat) : Int) ((j + 1 : Nat) : Int)) n := rfl
    have e2 : f 0 ((j : Int) + 1) = f ((0 : Nat) : Int) ((j + 1 : Nat) : Int) := rfl
    rw [e, e2]; omega
  have a2 := dt_sumr (g := tr (setr g s fun j => f 0 (j + 1))) hs (v := fun j => if j = (s : Int) then f 0 0 else f (j + 1) 0) fun j hj => by
    by_cases c : (j : Int) = s
    · have := hr 0 (by omega)
      rw [sm_head] at this
      rw [if_pos c]
      have e : sm (fun t : Nat => tr (setr g s fun j => f 0 (j + 1)) t j) n = sm (fun i : Nat => f ((0 : Nat) : Int) ((i + 1 : Nat) : Int)) n := sm_congr n fun t _ => by
        unfold tr setr; rw [if_pos c]; rfl
      rw [e]
      have e2 : f 0 0 = f ((0 : Nat) : Int) ((0 : Nat) : Int) := rfl
      rw [e2]; omega
    · have := hr (j + 1) (by omega)
      rw [sm_head] at this
      rw [if_neg c]
      have e : sm (fun t : Nat => tr (setr g s fun j => f 0 (j + 1)) t j) n = sm (fun i : Nat => f ((j + 1 : Nat) : Int) ((i + 1 : Nat) : Int)) n := sm_congr n fun t _ => by
        unfold tr setr; rw [if_neg c, hg]; rfl
      rw [e]
      have e2 : f ((j : Int) + 1) 0 = f ((j + 1 : Nat) : Int) ((0 : Nat) : Int) := rfl
      rw [e2]; omega
  rw [dt_tr, a1, Int.neg_neg] at a2
  rw [e0, ← a2, ← dt_tr, ← dt_cy n s _ hs]
  refine dt_congr n fun i j hi hj => ?_
  have ix : ∀ i : Nat, i < n → (cy s i = s ∧ sk ((s + 1 : Nat) : Int) i = 0) ∨ (cy s i ≠ s ∧ cy s i + 1 = sk ((s + 1 : Nat) : Int) i) := fun i hi => by
    unfold cy sk
    (repeat' split) <;> omega
  have hs1 : setr (tr (setr g s fun j => f 0 (j + 1))) s (fun j => if j = (s : Int) then f 0 0 else f (j + 1) 0) (cy s j) (cy s i) = if cy s j = s then (if cy s i = s then f 0 0 else f (cy s i + 1) 0) else if cy s i = s then f 0 (cy s j + 1) else g (cy s i) (cy s j) := by
    unfold setr
    by_cases c : cy s j = s
    · rw [if_pos c, if_pos c]
    · rw [if_neg c, if_neg c]
      show (if cy s i = s then (fun j => f 0 (j + 1)) else g (cy s i)) (cy s j) = _
      by_cases c2 : cy s i = s
      · rw [if_pos c2, if_pos c2]
      · rw [if_neg c2, if_neg c2]
  refine Eq.trans ?_ hs1.symm
  rcases ix i hi with ⟨i1, i2⟩ | ⟨i1, i2⟩
  · rcases ix j hj with ⟨j1, j2⟩ | ⟨j1, j2⟩
    · rw [if_pos j1, if_pos i1, i2, j2]
    · rw [if_neg j1, if_pos i1, i2, ← j2]
  · rcases ix j hj with ⟨j1, j2⟩ | ⟨j1, j2⟩
    · rw [if_pos j1, if_neg i1, ← i2, j2]
    · rw [if_neg j1, if_neg i1, ← i2, ← j2, hg]
def lo (a b n : Nat) : Nat := if n ≤ a then n else if n ≤ b then n - 1 else n - 2
theorem keep_two {a b : Nat} (hab : a < b) : ∀ n : Nat, keep n [(a : Int), (b : Int)] = (List.range (lo a b n)).map fun i : Nat => sk b (sk a i)
  | 0 => by
    have : lo a b 0 = 0 := by unfold lo; rw [if_pos (by omega)]
    rw [this]; rfl
  | n + 1 => by
    rw [keep_succ, keep_two hab n]
    by_cases c : n = a ∨ n = b
    · have : lo a b (n + 1) = lo a b n := by unfold lo; (repeat' split) <;> omega
      rw [if_pos (by rcases c with c | c <;> simp [c]), this, List.append_nil]
    · have h1 : lo a b (n + 1) = lo a b n + 1 := by unfold lo; (repeat' split) <;> omega
      have h2 : sk b (sk a (lo a b n : Nat)) = n := by unfold lo sk; (repeat' split) <;> omega
      rw [if_neg (by simp; omega), h1, List.range_succ, List.map_append]
      simp [h2]
theorem lap_sym {N : Gra} (hn : GraOk N) (i j : Int) : ∀ k : Nat, k ≤ N.edges.length → lapK N.edges k i j = lapK N.edges k j i
  | 0, _ => rfl
  | k + 1, hk => by
    rw [lapK_step hn.okE (by omega), lapK_step hn.okE (by omega), lap_sym hn i j k (by omega)]
    obtain ⟨o1, o2, o3, o4⟩ := hn.2.1 k (by omega)
    (repeat' split) <;> omega
theorem lapK_take {es fs : List T3} : ∀ k : Nat, (∀ i, i < k → es.getD i z3 = fs.getD i z3) → lapK es k = lapK fs k
  | 0, _ => rfl
  | k + 1, h => by simp only [lapK]; rw [lapK_take k fun i hi => h i (by omega), h k (by omega)]
theorem dt0_mi {m : Nat} (L : Int → Int → Int) : dt (keep (m + 1) [0]).length (sub (keep (m + 1) [0]) L) = mi m L 0 := by
  have hl : (keep (m + 1) [0]).length = m := by rw [keep0_eq]; simp
  rw [hl]
  refine dt_congr m fun i j hi hj => ?_
  rw [sub0 hi hj]
  unfold sk; rw [if_neg (by omega), if_neg (by omega)]
theorem dt2_mi {m a b : Nat} (hab : a < b) (hb : b < m + 2) (L : Int → Int → Int) : dt (keep (m + 2) [(a : Int), (b : Int)]).length (sub (keep (m + 2) [(a : Int), (b : Int)]) L) = mi m (fun i j => L (sk b i) (sk b j)) a := by
  have h0 : lo a b (m + 2) = m := by unfold lo; (repeat' split) <;> omega
  have hl : (keep (m + 2) [(a : Int), (b : Int)]).length = m := by rw [keep_two hab, h0]; simp
  rw [hl]
  refine dt_congr m fun i j hi hj => ?_
  have e : ∀ i : Nat, i < m → (keep (m + 2) [(a : Int), (b : Int)]).getD i 0 = sk b (sk a i) := fun i hi => by
    rw [keep_two hab, h0]; simp [List.getD, hi]
  unfold sub
  rw [Int.toNat_natCast, Int.toNat_natCast, e i hi, e j hj]
/-- all nodes may be left out alike. -/
theorem lap_mi {N : Gra} (hn : GraOk N) {k : Nat} (hk : k ≤ N.edges.length) {m s : Nat} (hm : N.n.toNat = m + 1) (hs : s < m) : mi m (lapK N.edges k) ((s + 1 : Nat) : Int) = mi m (lapK N.edges k) 0 := by
  have hr : ∀ i : Int, sm (fun j : Nat => lapK N.edges k i j) (m + 1) = 0 := fun i => by
    have := lap_row hn i k hk
    rwa [sumN_sm, hm] at this
  exact mi_any (fun i _ => hr i) (fun j _ => (sm_congr (m + 1) fun i _ => lap_sym hn i j k hk).trans (hr j)) hs
theorem tree_gap {N : Gra} (hn : GraOk N) {k : Nat} (hk : N.edges.length = k + 1) :
    dt (keep N.n.toNat [0]).length (sub (keep N.n.toNat [0]) (lapK N.edges (k + 1))) = (N.edges.getD k z3).2.2 * dt (keep N.n.toNat [(N.edges.getD k z3).1, (N.edges.getD k z3).2.1]).length (sub (keep N.n.toNat [(N.edges.getD k z3).1, (N.edges.getD k z3).2.1]) (lapK N.edges (k + 1)))
      + dt (keep N.n.toNat [0]).length (sub (keep N.n.toNat [0]) (lapK N.edges k)) := by
  obtain ⟨o1, o2, o3, o4⟩ := hn.2.1 k (by omega)
  have hstep := lapK_step hn.okE (show k < N.edges.length by omega)
  generalize N.edges.getD k z3 = e at *
  obtain ⟨u, v, w⟩ := e
  dsimp only at *
  obtain ⟨a, rfl⟩ : ∃ a : Nat, u = a := ⟨u.toNat, by omega⟩
  obtain ⟨b, rfl⟩ : ∃ b : Nat, v = b := ⟨v.toNat, by omega⟩
  have hn1 := hn.1
  obtain ⟨m, hm⟩ : ∃ m, N.n.toNat = m + 2 := ⟨N.n.toNat - 2, by omega⟩
  obtain ⟨s, rfl⟩ : ∃ s, b = s + 1 := ⟨b - 1, by omega⟩
  have l1 := lap_mi hn (k := k + 1) (by omega) (m := m + 1) hm (s := s) (by omega)
  have l2 := lap_mi hn (k := k) (by omega) (m := m + 1) hm (s := s) (by omega)
  rw [hm, dt0_mi, dt0_mi, ← l1, ← l2, dt2_mi (by omega) (by omega)]
  generalize lapK N.edges (k + 1) = L at *
  generalize lapK N.edges k = L' at *
  have hM : ∀ i j : Nat, L (sk ((s + 1 : Nat) : Int) i) (sk ((s + 1 : Nat) : Int) j) = (if i = a then w * (if j = a then 1 else 0) else 0) + L' (sk ((s + 1 : Nat) : Int) i) (sk ((s + 1 : Nat) : Int) j) := fun i j => by
    have c : ∀ i : Nat, sk ((s + 1 : Nat) : Int) i ≠ ((s + 1 : Nat) : Int) ∧ (sk ((s + 1 : Nat) : Int) i = a ↔ i = a) := fun i => by
      unfold sk; split <;> omega
    rw [hstep, if_neg (c i).1]
    by_cases ci : i = a
    · rw [if_pos ((c i).2.2 ci), if_pos ci, if_neg (c j).1]
      by_cases cj : j = a
      · rw [if_pos ((c j).2.2 cj), if_pos cj]; omega
      · rw [if_neg (fun x => cj ((c j).2.1 x)), if_neg cj]; omega
    · rw [if_neg (fun x => ci ((c i).2.1 x)), if_neg ci]; omega
  have e1 : mi (m + 1) L ((s + 1 : Nat) : Int) = dt (m + 1) (setr (fun i j => L' (sk ((s + 1 : Nat) : Int) i) (sk ((s + 1 : Nat) : Int) j)) a (fun j => w * (if j = (a : Int) then 1 else 0) + L' (sk ((s + 1 : Nat) : Int) a) (sk ((s + 1 : Nat) : Int) j))) := dt_congr (m + 1) fun i j hi hj => by
    rw [hM]
    unfold setr
    by_cases ci : i = a
    · subst ci
      rw [if_pos rfl, if_pos rfl]
      by_cases cj : j = i
      · subst cj; rw [if_pos rfl, if_pos rfl]
      · rw [if_neg cj, if_neg (show ¬ (j : Int) = i by omega)]
    · rw [if_neg ci, if_neg (by omega), Int.zero_add]
  rw [e1, dt_lin (m + 1) _ a w (fun j => if j = (a : Int) then 1 else 0) (fun j => L' (sk ((s + 1 : Nat) : Int) a) (sk ((s + 1 : Nat) : Int) j)) (by omega)]
  have e2 : dt (m + 1) (setr (fun i j => L' (sk ((s + 1 : Nat) : Int) i) (sk ((s + 1 : Nat) : Int) j)) a (fun j => L' (sk ((s + 1 : Nat) : Int) a) (sk ((s + 1 : Nat) : Int) j))) = mi (m + 1) L' ((s + 1 : Nat) : Int) :=
    congrArg (dt (m + 1)) (setr_self (fun i j => L' (sk ((s + 1 : Nat) : Int) i) (sk ((s + 1 : Nat) : Int) j)) a)
  rw [e2, dt_unit (r := a) (by omega) fun j hj => by
    unfold setr; rw [if_pos rfl]
    by_cases cj : j = a
    · rw [if_pos (by omega), if_pos cj]
    · rw [if_neg (by omega), if_neg cj]]
  congr 2
  refine mi_congr fun i j hi hj ni nj => ?_
  unfold setr
  rw [if_neg (by omega), hM, if_neg ni, Int.zero_add]
theorem gcd_step {a b : Int} (ha : 0 ≤ a) (hb : 0 < b) : Nat.gcd b.toNat (a % b).toNat = Nat.gcd a.toNat b.toNat := by
  have e : (a % b).toNat = a.toNat % b.toNat := by
    obtain ⟨x, rfl⟩ : ∃ x : Nat, a = x := ⟨a.toNat, by omega⟩
    obtain ⟨y, rfl⟩ : ∃ y : Nat, b = y := ⟨b.toNat, by omega⟩
    rfl
  rw [e, Nat.gcd_comm, ← Nat.gcd_rec, Nat.gcd_comm]
theorem impl_gcd_ok {a b : Int} (ha : 0 ≤ a ∧ a < 2 ^ 62) (hb : 0 ≤ b ∧ b < 2 ^ 62) {G : GH} {K : Value → GH → Prop} (hk : K (.int .i64 (Nat.gcd a.toNat b.toNat : Nat)) G) : GC Try.prog 182 [.int .i64 a, .int .i64 b] G K := by
  refine c_impl_gcd_i (by simp) ?_
  simp (maxSteps := 300000) (disch := omega) only [gs, gs2, gs3, gs4, ↓reduceIte, Nat.reduceEqDiff, Int.reduceToNat, Nat.reduceMul, Nat.reduceAdd, Nat.reduceBEq, isLd]
  refine gLoop_intro (fun m T G' => ∃ x y : Int, T 0 = .int .i64 x ∧ T 1 = .int .i64 y ∧ m = y.toNat ∧ (0 ≤ x ∧ x < 2 ^ 62) ∧ (0 ≤ y ∧ y < 2 ^ 62) ∧ G = G' ∧ Nat.gcd x.toNat y.toNat = Nat.gcd a.toNat b.toNat)
    b.toNat ⟨a, b, by simp (maxSteps := 300000) (disch := omega) only [gs, gs2, gs3, gs4, ↓reduceIte, Nat.reduceEqDiff, Int.reduceToNat, Nat.reduceMul, Nat.reduceAdd, Nat.reduceBEq, isLd], by simp (maxSteps := 300000) (disch := omega) only [gs, gs2, gs3, gs4, ↓reduceIte, Nat.reduceEqDiff, Int.reduceToNat, Nat.reduceMul, Nat.reduceAdd, Nat.reduceBEq, isLd], rfl, ha, hb, rfl, rfl⟩ ?_
  rintro m T G' ⟨x, y, e0, e1, rfl, hx, hy, rfl, hg⟩
  simp (maxSteps := 300000) (disch := omega) only [gs, gs2, gs3, gs4, ↓reduceIte, Nat.reduceEqDiff, Int.reduceToNat, Nat.reduceMul, Nat.reduceAdd, Nat.reduceBEq, isLd, e0, e1]
  by_cases hy0 : y = 0
  · simp (maxSteps := 300000) (disch := omega) only [gs, gs2, gs3, gs4, ↓reduceIte, Nat.reduceEqDiff, Int.reduceToNat, Nat.reduceMul, Nat.reduceAdd, Nat.reduceBEq, isLd, e0, e1, eq_true hy0]
    subst hy0
    have e : x = (Nat.gcd a.toNat b.toNat : Nat) := by rw [← hg]; simp; omega
    rw [e]; exact hk
  · have q1 := Int.emod_nonneg x (show y ≠ 0 by omega)
    have q2 := Int.emod_lt_of_pos x (show 0 < y by omega)
    have hrm : x.tmod y = x % y := Int.tmod_eq_emod_of_nonneg hx.1
    simp (maxSteps := 300000) (disch := omega) only [gs, gs2, gs3, gs4, ↓reduceIte, Nat.reduceEqDiff, Int.reduceToNat, Nat.reduceMul, Nat.reduceAdd, Nat.reduceBEq, isLd, e0, e1, eq_false hy0, bin_rem .i64 x y hy0, hrm]
    exact ⟨(x % y).toNat, by omega, G, Sub.refl _, y, x % y, rfl, rfl, rfl, hy, ⟨q1, by omega⟩, rfl, by rw [gcd_step hx.1 (by omega)]; exact hg⟩
theorem impl_isConnected_ok {G : GH} {N : Gra} {A : Option Addr} {c : Nat} (h : T3S G A c N.edges) (hn : GraOk N) {K : Value → GH → Prop}
    (hk : ∀ b : Bool, (b = true ↔ ∀ v : Int, 0 ≤ v → v < N.n → cR N.edges N.n.toNat v = 0) → K (.bool b) G) : GC Try.prog 181 [graV N A c] G K := by
  refine GC_drop (c_impl_isConnected_i (by simp) ?_)
  have hn1 := hn.1
  unfold graV graC
  simp (maxSteps := 300000) (disch := omega) only [gs, gs2, gs3, gs4, ↓reduceIte, Nat.reduceEqDiff, Int.reduceToNat, Nat.reduceMul, Nat.reduceAdd, Nat.reduceBEq, isLd]
  intro b1 hb1
  have s1 := Sub.put hb1 ⟨[.int .i64 N.n, .slice A N.edges.length c], true⟩
  have f0 : rd (put G b1 ⟨[.int .i64 N.n, .slice A N.edges.length c], true⟩) (some ⟨b1, 0, none⟩) = some (.int .i64 N.n) := rd_box _ _ _ 0 _ rfl
  have f1 : rd (put G b1 ⟨[.int .i64 N.n, .slice A N.edges.length c], true⟩) (some ⟨b1, 1, none⟩) = some (.slice A N.edges.length c) := rd_box _ _ _ 1 _ rfl
  revert s1 f0 f1
  generalize put G b1 ⟨[.int .i64 N.n, .slice A N.edges.length c], true⟩ = G1
  intro s1 f0 f1
  simp (maxSteps := 300000) (disch := omega) only [gs, gs2, gs3, gs4, ↓reduceIte, Nat.reduceEqDiff, Int.reduceToNat, Nat.reduceMul, Nat.reduceAdd, Nat.reduceBEq, isLd, f0, f1]
  refine impl_components_ok (N := N) (h.sub s1) hn1 hn.2.2.2 (fun i hi => by have := hn.2.1 i hi; unfold okEdge at this; omega) fun G2 A2 c2 hN => ?_
  simp (maxSteps := 300000) (disch := omega) only [gs, gs2, gs3, gs4, ↓reduceIte, Nat.reduceEqDiff, Int.reduceToNat, Nat.reduceMul, Nat.reduceAdd, Nat.reduceBEq, isLd]
  refine c_impl_isZero_i (by simp) ?_
  simp (maxSteps := 300000) (disch := omega) only [gs, gs2, gs3, gs4, ↓reduceIte, Nat.reduceEqDiff, Int.reduceToNat, Nat.reduceMul, Nat.reduceAdd, Nat.reduceBEq, isLd]
  have hpl := parts_len N.n.toNat N.edges
  have hI := hN.ints' hpl.symm
  rw [show Value.slice A2 N.n.toNat c2 = .slice A2 (parts N.n.toNat N.edges).length c2 by rw [hpl]]
  refine slices_ContainsFunc_ok (fun n => n != 0) hI (by omega) (fun i hi K' hK' => ?_) ?_
  · simp (maxSteps := 300000) (disch := omega) only [gs, gs2, gs3, gs4, ↓reduceIte, Nat.reduceEqDiff, Int.reduceToNat, Nat.reduceMul, Nat.reduceAdd, Nat.reduceBEq, isLd]
    refine c_impl_isZero_fn1_i (by simp) ?_
    simp (maxSteps := 300000) (disch := omega) only [gs, gs2, gs3, gs4, ↓reduceIte, Nat.reduceEqDiff, Int.reduceToNat, Nat.reduceMul, Nat.reduceAdd, Nat.reduceBEq, isLd]
    have e : ∀ y : Int, (decide ¬ y = 0) = (y != 0) := fun y => by by_cases h : y = 0 <;> simp [h]
    rw [e]; exact hK'
  · simp (maxSteps := 300000) (disch := omega) only [gs, gs2, gs3, gs4, ↓reduceIte, Nat.reduceEqDiff, Int.reduceToNat, Nat.reduceMul, Nat.reduceAdd, Nat.reduceBEq, isLd]
    refine ⟨G, s1.trans hN.sub, hk _ ?_⟩
    simp only [parts, Bool.not_eq_true', List.any_eq_false, List.mem_map, List.mem_range, forall_exists_index, and_imp, bne_iff_ne, ne_eq, Classical.not_not]
    constructor
    · intro hh v h0 h1
      have := hh _ v.toNat (by omega) rfl
      rwa [Int.toNat_of_nonneg h0] at this
    · intro hh x v hv hx
      rw [← hx]; exact hh v (by omega) (by omega)
open Classical in
/-- what ResistanceOf returns. -/
noncomputable def ohmV (N : Gra) (a b : Int) : Int × Int × Int :=
  if ¬ GraOk N then (0, 0, 1) else if ¬ ((0 ≤ a ∧ a < N.n) ∧ 0 ≤ b ∧ b < N.n) then (0, 0, 2)
  else if dt (keep N.n.toNat [0]).length (sub (keep N.n.toNat [0]) (lapK N.edges N.edges.length)) = 0 then (0, 0, 6) else if a = b then (0, 1, 0)
  else (dt (keep N.n.toNat [a, b]).length (sub (keep N.n.toNat [a, b]) (lapK N.edges N.edges.length)) / (Nat.gcd (dt (keep N.n.toNat [a, b]).length (sub (keep N.n.toNat [a, b]) (lapK N.edges N.edges.length))).toNat (dt (keep N.n.toNat [0]).length (sub (keep N.n.toNat [0]) (lapK N.edges N.edges.length))).toNat : Nat),
    dt (keep N.n.toNat [0]).length (sub (keep N.n.toNat [0]) (lapK N.edges N.edges.length)) / (Nat.gcd (dt (keep N.n.toNat [a, b]).length (sub (keep N.n.toNat [a, b]) (lapK N.edges N.edges.length))).toNat (dt (keep N.n.toNat [0]).length (sub (keep N.n.toNat [0]) (lapK N.edges N.edges.length))).toNat : Nat), 0)
def tripV (p : Int × Int × Int) : Value := .tuple [.int .i64 p.1, .int .i64 p.2.1, .int .i64 p.2.2].toArray
theorem keep2 {N : Gra} (hn : GraOk N) {a b : Int} (ha : 0 ≤ a ∧ a < N.n) : (keep N.n.toNat [a, b]).length ≤ 11 := by
  have hn1 := hn.1
  have := keep_lt (n := N.n.toNat) (om := [a, b]) ⟨a, by simp, by omega, by omega⟩
  omega
theorem quo_ok {x g : Int} (hx : 0 ≤ x ∧ x < 2 ^ 62) (hg : 0 < g) : binV .quo (.int .i64 x) (.int .i64 g) = some (.int .i64 (x / g)) := by
  have h1 : 0 ≤ x / g := Int.ediv_nonneg hx.1 (by omega)
  have h2 : x / g ≤ x := Int.ediv_le_self _ hx.1
  rw [bin_quo _ _ _ (by omega), Int.tdiv_eq_ediv_of_nonneg hx.1, w64 _ (by omega) (by omega)]
theorem impl_ResistanceOf_ok {G : GH} {N : Gra} {A : Option Addr} {c : Nat} {a b : Int} (h : T3S G A c N.edges) (hl : N.edges.length < 2 ^ 40) {K : Value → GH → Prop}
    (hk : K (tripV (ohmV N a b)) G) : GC Try.prog 84 [graV N A c, .int .i64 a, .int .i64 b] G K := by
  refine GC_drop (c_impl_ResistanceOf_i (by simp) ?_)
  unfold graV graC
  simp (maxSteps := 300000) (disch := omega) only [gs, gs2, gs3, gs4, ↓reduceIte, Nat.reduceEqDiff, Int.reduceToNat, Nat.reduceMul, Nat.reduceAdd, Nat.reduceBEq, isLd]
  intro b1 hb1
  have s1 := Sub.put hb1 ⟨[.int .i64 N.n, .slice A N.edges.length c], true⟩
  have f0 : rd (put G b1 ⟨[.int .i64 N.n, .slice A N.edges.length c], true⟩) (some ⟨b1, 0, none⟩) = some (.int .i64 N.n) := rd_box _ _ _ 0 _ rfl
  have f1 : rd (put G b1 ⟨[.int .i64 N.n, .slice A N.edges.length c], true⟩) (some ⟨b1, 1, none⟩) = some (.slice A N.edges.length c) := rd_box _ _ _ 1 _ rfl
  revert s1 f0 f1
  generalize put G b1 ⟨[.int .i64 N.n, .slice A N.edges.length c], true⟩ = G1
  intro s1 f0 f1
  simp (maxSteps := 300000) (disch := omega) only [gs, gs2, gs3, gs4, ↓reduceIte, Nat.reduceEqDiff, Int.reduceToNat, Nat.reduceMul, Nat.reduceAdd, Nat.reduceBEq, isLd, f0, f1]
  refine impl_ValidGraph_ok (N := N) (h.sub s1) hl fun bb hbb => ?_
  cases bb
  · simp (maxSteps := 300000) (disch := omega) only [gs, gs2, gs3, gs4, ↓reduceIte, Nat.reduceEqDiff, Int.reduceToNat, Nat.reduceMul, Nat.reduceAdd, Nat.reduceBEq, isLd]
    have : ohmV N a b = (0, 0, 1) := by unfold ohmV; rw [if_pos fun x => by have := hbb.2 x; cases this]
    rw [this] at hk
    exact ⟨G, s1, hk⟩
  have hn := hbb.1 rfl
  have hn1 := hn.1
  have hwr := w64 (N.n - 1) (by omega) (by omega)
  simp (maxSteps := 300000) (disch := omega) only [gs, gs2, gs3, gs4, ↓reduceIte, Nat.reduceEqDiff, Int.reduceToNat, Nat.reduceMul, Nat.reduceAdd, Nat.reduceBEq, isLd, f0, f1]
  refine impl_isElement_ok _ _ ?_
  rw [hwr]
  simp (maxSteps := 300000) (disch := omega) only [gs, gs2, gs3, gs4, ↓reduceIte, Nat.reduceEqDiff, Int.reduceToNat, Nat.reduceMul, Nat.reduceAdd, Nat.reduceBEq, isLd, f0, f1]
  by_cases ga : 0 ≤ a ∧ a ≤ N.n - 1
  rotate_left
  · rw [decide_eq_false ga]
    simp (maxSteps := 300000) (disch := omega) only [gs, gs2, gs3, gs4, ↓reduceIte, Nat.reduceEqDiff, Int.reduceToNat, Nat.reduceMul, Nat.reduceAdd, Nat.reduceBEq, isLd, f0, f1]
    have : ohmV N a b = (0, 0, 2) := by unfold ohmV; rw [if_neg (fun x => x hn), if_pos (by omega)]
    rw [this] at hk
    exact ⟨G, s1, hk⟩
  rw [decide_eq_true ga]
  simp (maxSteps := 300000) (disch := omega) only [gs, gs2, gs3, gs4, ↓reduceIte, Nat.reduceEqDiff, Int.reduceToNat, Nat.reduceMul, Nat.reduceAdd, Nat.reduceBEq, isLd, f0, f1]
  refine impl_isElement_ok _ _ ?_
  rw [hwr]
  simp (maxSteps := 300000) (disch := omega) only [gs, gs2, gs3, gs4, ↓reduceIte, Nat.reduceEqDiff, Int.reduceToNat, Nat.reduceMul, Nat.reduceAdd, Nat.reduceBEq, isLd, f0, f1]
  by_cases gb : 0 ≤ b ∧ b ≤ N.n - 1
  rotate_left
  · rw [decide_eq_false gb]
    simp (maxSteps := 300000) (disch := omega) only [gs, gs2, gs3, gs4, ↓reduceIte, Nat.reduceEqDiff, Int.reduceToNat, Nat.reduceMul, Nat.reduceAdd, Nat.reduceBEq, isLd, f0, f1]
    have : ohmV N a b = (0, 0, 2) := by unfold ohmV; rw [if_neg (fun x => x hn), if_pos (by omega)]
    rw [this] at hk
    exact ⟨G, s1, hk⟩
  rw [decide_eq_true gb]
  simp (maxSteps := 300000) (disch := omega) only [gs, gs2, gs3, gs4, ↓reduceIte, Nat.reduceEqDiff, Int.reduceToNat, Nat.reduceMul, Nat.reduceAdd, Nat.reduceBEq, isLd, f0, f1]
  refine impl_isConnected_ok (N := N) (h.sub s1) hn fun bc hbc => ?_
  rw [conn_iff hn] at hbc
  have e0 : ohmV N a b = if dt (keep N.n.toNat [0]).length (sub (keep N.n.toNat [0]) (lapK N.edges N.edges.length)) = 0 then (0, 0, 6) else if a = b then (0, 1, 0)
    else (dt (keep N.n.toNat [a, b]).length (sub (keep N.n.toNat [a, b]) (lapK N.edges N.edges.length)) / (Nat.gcd (dt (keep N.n.toNat [a, b]).length (sub (keep N.n.toNat [a, b]) (lapK N.edges N.edges.length))).toNat (dt (keep N.n.toNat [0]).length (sub (keep N.n.toNat [0]) (lapK N.edges N.edges.length))).toNat : Nat),
    dt (keep N.n.toNat [0]).length (sub (keep N.n.toNat [0]) (lapK N.edges N.edges.length)) / (Nat.gcd (dt (keep N.n.toNat [a, b]).length (sub (keep N.n.toNat [a, b]) (lapK N.edges N.edges.length))).toNat (dt (keep N.n.toNat [0]).length (sub (keep N.n.toNat [0]) (lapK N.edges N.edges.length))).toNat : Nat), 0) := by
    unfold ohmV; rw [if_neg (fun x => x hn), if_neg (by omega)]
  cases bc
  · simp (maxSteps := 300000) (disch := omega) only [gs, gs2, gs3, gs4, ↓reduceIte, Nat.reduceEqDiff, Int.reduceToNat, Nat.reduceMul, Nat.reduceAdd, Nat.reduceBEq, isLd, f0, f1]
    have hz : dt (keep N.n.toNat [0]).length (sub (keep N.n.toNat [0]) (lapK N.edges N.edges.length)) = 0 := Classical.byContradiction fun x => by have := hbc.2 x; cases this
    rw [e0, if_pos hz] at hk
    exact ⟨G, s1, hk⟩
  have hz := hbc.1 rfl
  rw [if_neg hz] at e0
  simp (maxSteps := 300000) (disch := omega) only [gs, gs2, gs3, gs4, ↓reduceIte, Nat.reduceEqDiff, Int.reduceToNat, Nat.reduceMul, Nat.reduceAdd, Nat.reduceBEq, isLd, f0, f1]
  by_cases gab : a = b
  · simp (maxSteps := 300000) (disch := omega) only [gs, gs2, gs3, gs4, ↓reduceIte, Nat.reduceEqDiff, Int.reduceToNat, Nat.reduceMul, Nat.reduceAdd, Nat.reduceBEq, isLd, eq_true gab]
    rw [e0, if_pos gab] at hk
    exact ⟨G, s1, hk⟩
  rw [if_neg gab] at e0
  have hd0 := minor_bd hn [0] (keep0 hn)
  have hdn := minor_bd hn [a, b] (keep2 hn (a := a) (b := b) (by omega))
  obtain ⟨x, hx⟩ : ∃ x, x = dt (keep N.n.toNat [a, b]).length (sub (keep N.n.toNat [a, b]) (lapK N.edges N.edges.length)) := ⟨_, rfl⟩
  obtain ⟨y, hy⟩ : ∃ y, y = dt (keep N.n.toNat [0]).length (sub (keep N.n.toNat [0]) (lapK N.edges N.edges.length)) := ⟨_, rfl⟩
  rw [← hx, ← hy] at e0
  rw [← hx] at hdn
  rw [← hy] at hd0 hz
  rw [e0] at hk
  have minAB : ∀ {GX : GH}, Sub G1 GX → ∀ {bx : Nat}, GX bx = some ⟨([a, b] : List Int).map I64, true⟩ → ∀ {K' : Value → GH → Prop}, K' (.int .i64 x) GX → GC Try.prog 178 [.agg #[.int .i64 N.n, .slice A N.edges.length c], .slice (some ⟨bx, 0, none⟩) 2 2] GX K' := by
    intro GX sX bx hbx K' hK'
    refine impl_minor_ok (N := N) (om := [a, b]) ((h.sub s1).sub sX) hn (blk_ints (xs := [a, b]) hbx) (by simp) (keep2 hn (a := a) (b := b) (by omega)) ?_
    rw [← hx]; exact hK'
  have min0 : ∀ {GX : GH}, Sub G1 GX → ∀ {bx : Nat}, GX bx = some ⟨([0] : List Int).map I64, true⟩ → ∀ {K' : Value → GH → Prop}, K' (.int .i64 y) GX → GC Try.prog 178 [.agg #[.int .i64 N.n, .slice A N.edges.length c], .slice (some ⟨bx, 0, none⟩) 1 1] GX K' := by
    intro GX sX bx hbx K' hK'
    refine impl_minor_ok (N := N) (om := [0]) ((h.sub s1).sub sX) hn (blk_ints (xs := [0]) hbx) (by simp) (keep0 hn) ?_
    rw [← hy]; exact hK'
  have ld2 : ∀ {GX : GH}, Sub G1 GX → Option.map (fun l : List Value => Value.agg l.toArray) ((rd GX (some ⟨b1, 0, none⟩)).bind fun v => Option.map (fun x => v :: x) ((rd GX (some ⟨b1, 1, none⟩)).bind fun v => some [v])) = some (Value.agg #[Value.int .i64 N.n, Value.slice A N.edges.length c]) := fun s => by rw [rd_sub s f0, rd_sub s f1]; rfl
  have hgp : 0 < Nat.gcd x.toNat y.toNat := Nat.gcd_pos_of_pos_right _ (by omega)
  have q1 := quo_ok (x := x) (g := (Nat.gcd x.toNat y.toNat : Nat)) ⟨by omega, by omega⟩ (by omega)
  have q2 := quo_ok (x := y) (g := (Nat.gcd x.toNat y.toNat : Nat)) ⟨by omega, by omega⟩ (by omega)
  simp (maxSteps := 300000) (disch := omega) only [gs, gs2, gs3, gs4, ↓reduceIte, Nat.reduceEqDiff, Int.reduceToNat, Nat.reduceMul, Nat.reduceAdd, Nat.reduceBEq, isLd, eq_false gab, f0, f1, gBs]
  refine ⟨⟨by intro v hv; simp at hv; rcases hv with rfl | rfl <;> rfl, fun bA hbA => ⟨⟨ld2 (Sub.put hbA _), ld2 (Sub.put hbA _)⟩, ?_, by intro v hv; simp at hv; subst hv; rfl, fun b0 hb0 => ?_⟩⟩, by intro v hv; simp at hv; subst hv; rfl, fun b0 hb0 => ?_⟩
  · have sA := Sub.put hbA ⟨([a, b] : List Int).map I64, true⟩
    refine minAB sA (put_same _ _ _) ?_
    simp (maxSteps := 300000) (disch := omega) only [gs, gs2, gs3, gs4, ↓reduceIte, Nat.reduceEqDiff, Int.reduceToNat, Nat.reduceMul, Nat.reduceAdd, Nat.reduceBEq, isLd, rd_sub sA f0, rd_sub sA f1]
    refine ⟨ld2 sA, by intro v hv; simp at hv; subst hv; rfl, fun b0 hb0 => ?_⟩
    have s0 := sA.trans (Sub.put hb0 ⟨([0] : List Int).map I64, true⟩)
    refine ⟨⟨ld2 s0, ld2 s0⟩, ?_⟩
    refine min0 s0 (put_same _ _ _) ?_
    simp (maxSteps := 300000) (disch := omega) only [gs, gs2, gs3, gs4, ↓reduceIte, Nat.reduceEqDiff, Int.reduceToNat, Nat.reduceMul, Nat.reduceAdd, Nat.reduceBEq, isLd, rd_sub s0 f0, rd_sub s0 f1]
    refine ⟨ld2 s0, ?_⟩
    refine impl_gcd_ok ⟨by omega, by omega⟩ ⟨by omega, by omega⟩ ?_
    simp (maxSteps := 300000) (disch := omega) only [gs, gs2, gs3, gs4, ↓reduceIte, Nat.reduceEqDiff, Int.reduceToNat, Nat.reduceMul, Nat.reduceAdd, Nat.reduceBEq, isLd, q1, q2]
    exact ⟨G, s1.trans s0, hk⟩
  · have sA := Sub.put hbA ⟨([a, b] : List Int).map I64, true⟩
    have s0 := sA.trans (Sub.put hb0 ⟨([0] : List Int).map I64, true⟩)
    refine ⟨⟨ld2 s0, ld2 s0⟩, ?_⟩
    refine minAB s0 (Sub.put hb0 _ _ _ (put_same _ _ _)) ?_
    simp (maxSteps := 300000) (disch := omega) only [gs, gs2, gs3, gs4, ↓reduceIte, Nat.reduceEqDiff, Int.reduceToNat, Nat.reduceMul, Nat.reduceAdd, Nat.reduceBEq, isLd, rd_sub s0 f0, rd_sub s0 f1]
    refine ⟨ld2 s0, ?_⟩
    refine min0 s0 (put_same _ _ _) ?_
    simp (maxSteps := 300000) (disch := omega) only [gs, gs2, gs3, gs4, ↓reduceIte, Nat.reduceEqDiff, Int.reduceToNat, Nat.reduceMul, Nat.reduceAdd, Nat.reduceBEq, isLd, rd_sub s0 f0, rd_sub s0 f1]
    refine ⟨ld2 s0, ?_⟩
    refine impl_gcd_ok ⟨by omega, by omega⟩ ⟨by omega, by omega⟩ ?_
    simp (maxSteps := 300000) (disch := omega) only [gs, gs2, gs3, gs4, ↓reduceIte, Nat.reduceEqDiff, Int.reduceToNat, Nat.reduceMul, Nat.reduceAdd, Nat.reduceBEq, isLd, q1, q2]
    exact ⟨G, s1.trans s0, hk⟩
  · have sA := Sub.put hb0 ⟨([0] : List Int).map I64, true⟩
    refine ⟨⟨ld2 sA, ld2 sA⟩, by intro v hv; simp at hv; rcases hv with rfl | rfl <;> rfl, fun bA hbA => ?_⟩
    have s0 := sA.trans (Sub.put hbA ⟨([a, b] : List Int).map I64, true⟩)
    refine ⟨⟨ld2 s0, ld2 s0⟩, ?_⟩
    refine minAB s0 (put_same _ _ _) ?_
    simp (maxSteps := 300000) (disch := omega) only [gs, gs2, gs3, gs4, ↓reduceIte, Nat.reduceEqDiff, Int.reduceToNat, Nat.reduceMul, Nat.reduceAdd, Nat.reduceBEq, isLd, rd_sub s0 f0, rd_sub s0 f1]
    refine ⟨ld2 s0, ?_⟩
    refine min0 s0 (Sub.put hbA _ _ _ (put_same _ _ _)) ?_
    simp (maxSteps := 300000) (disch := omega) only [gs, gs2, gs3, gs4, ↓reduceIte, Nat.reduceEqDiff, Int.reduceToNat, Nat.reduceMul, Nat.reduceAdd, Nat.reduceBEq, isLd, rd_sub s0 f0, rd_sub s0 f1]
    refine ⟨ld2 s0, ?_⟩
    refine impl_gcd_ok ⟨by omega, by omega⟩ ⟨by omega, by omega⟩ ?_
    simp (maxSteps := 300000) (disch := omega) only [gs, gs2, gs3, gs4, ↓reduceIte, Nat.reduceEqDiff, Int.reduceToNat, Nat.reduceMul, Nat.reduceAdd, Nat.reduceBEq, isLd, q1, q2]
    exact ⟨G, s1.trans s0, hk⟩
/-- a symmetric matrix whose diagonal outweighs the rest, with a determinant. -/
theorem sym_good {n : Nat} {f : Int → Int → Int} (hD : Dom n f) (hs : ∀ i j : Nat, i < n → j < n → f i j = f j i) (h : dt n f ≠ 0) : Good n f := by
  refine ⟨hD, fun P hP => Classical.byContradiction fun hno => h ?_⟩
  obtain ⟨i0, hi0, hp0⟩ := hP
  have hz : ∀ i : Nat, i < n → P i = true → smP P (fun j => f i j) n = 0 := fun i hi hp => by
    have h1 : ¬ 0 < smP P (fun j => f i j) n := fun x => hno ⟨i, hi, hp, x⟩
    have h2 := hD.part hi hp
    have h3 := (hD i hi).2
    omega
  refine dt_dep hi0 hp0 fun j hj => ?_
  by_cases hpj : P j = true
  · rw [← hz j hj hpj]
    unfold smP
    refine sm_congr n fun s hs' => ?_
    show (if P s = true then f s j else 0) = if P s = true then f j s else 0
    rw [hs s j hs' hj]
  · unfold smP
    refine (sm_congr n fun s hs' => ?_).trans (sm_zero n)
    by_cases hps : P s = true
    · rw [if_pos hps]
      have a1 := hz s hs' hps
      have a2 := (hD s hs').2
      have key : ∀ t, sm (fun v : Nat => f s v) t = smP P (fun v : Nat => f s v) t + sm (fun v => if P v = true then 0 else f s v) t := by
        intro t
        induction t with
        | zero => rfl
        | succ t ih =>
          show sm _ t + f s t = (sm _ t + (if P t = true then f s t else 0)) + (sm _ t + (if P t = true then 0 else f s t))
          rw [ih]; unfold smP
          split <;> omega
      have a3 := key n
      have a4 := sm_le (g := fun v => if P v = true then 0 else f s v) (h := fun v => if v = j then f s j else 0) n fun v hv => by
        by_cases ev : v = j
        · subst ev
          simp only [if_neg hpj, if_true]; exact Int.le_refl _
        · simp only [if_neg ev]
          split
          · exact Int.le_refl _
          · rename_i hpv
            exact (hD s hs').1 v hv fun x => hpv (by rw [x]; exact hps)
      rw [sm_one (i := j) (fun j hj => if_neg hj) n, if_pos hj, if_pos rfl] at a4
      have a5 := (hD s hs').1 j hj fun x => hpj (by rw [x]; exact hps)
      show f s j = 0
      omega
    · rw [if_neg hps]
def skn (a j : Nat) : Nat := if j < a then j else j + 1
theorem skn_eq (a j : Nat) : sk a j = (skn a j : Nat) := by unfold sk skn; split <;> split <;> omega
theorem skn_ne (a j : Nat) : skn a j ≠ a := by unfold skn; split <;> omega
theorem skn_lt {a j m : Nat} (h : j < m) : skn a j < m + 1 := by unfold skn; split <;> omega
theorem skn_inj {a i j : Nat} (h : skn a i = skn a j) : i = j := by unfold skn at h; split at h <;> split at h <;> omega
theorem sm_sk (g : Nat → Int) (a : Nat) : ∀ m, (m ≤ a → sm (fun j => g (skn a j)) m = sm g m) ∧ (a ≤ m → sm (fun j => g (skn a j)) m + g a = sm g (m + 1))
  | 0 => ⟨fun _ => rfl, fun h => by
    have : a = 0 := by omega
    subst this; rfl⟩
  | m + 1 => by
    have ih := sm_sk g a m
    refine ⟨fun h => ?_, fun h => ?_⟩
    · show sm _ m + g (skn a m) = sm g m + g m
      rw [ih.1 (by omega)]; unfold skn; rw [if_pos (by omega)]
    · by_cases e : m + 1 = a
      · subst e
        have e2 : sm (fun j => g (skn (m + 1) j)) (m + 1) = sm g (m + 1) := by
          show sm _ m + g (skn (m + 1) m) = sm g m + g m
          rw [ih.1 (by omega)]; unfold skn; rw [if_pos (by omega)]
        rw [e2]; rfl
      · have i2 := ih.2 (by omega)
        show sm _ m + g (skn a m) + g a = sm g (m + 1) + g (m + 1)
        rw [← i2]; unfold skn; rw [if_neg (show ¬ m < a by omega)]; omega
theorem Dom.sub {m a : Nat} {f : Int → Int → Int} (h : Dom (m + 1) f) (ha : a < m + 1) : Dom m (fun i j => f (sk a i) (sk a j)) := fun i hi => by
  obtain ⟨h1, h2⟩ := h (skn a i) (skn_lt hi)
  refine ⟨fun j hj hne => ?_, ?_⟩
  · show f (sk a i) (sk a j) ≤ 0
    rw [skn_eq, skn_eq]; exact h1 _ (skn_lt hj) fun x => hne (skn_inj x)
  · have := (sm_sk (fun j : Nat => f (skn a i : Nat) j) a m).2 (by omega)
    have h3 := h1 a ha fun x => skn_ne a i x.symm
    dsimp only
    simp only [skn_eq]
    omega
theorem Good.sub {m a : Nat} {f : Int → Int → Int} (h : Good (m + 1) f) (ha : a < m + 1) : Good m (fun i j => f (sk a i) (sk a j)) := by
  refine ⟨h.1.sub ha, fun P hP => ?_⟩
  obtain ⟨i0, hi0, hp0⟩ := hP
  have hq : ∀ j, (decide (skn a j ≠ a) && P (if skn a j < a then skn a j else skn a j - 1)) = P j := fun j => by
    rw [decide_eq_true (skn_ne a j), Bool.true_and]
    congr 1
    unfold skn; split
    · rename_i c; simp only [if_pos c]
    · rw [if_neg (by omega)]; omega
  obtain ⟨i, hi, hp, hpos⟩ := h.2 (fun v => decide (v ≠ a) && P (if v < a then v else v - 1)) ⟨skn a i0, skn_lt hi0, by rw [hq]; exact hp0⟩
  have hia : i ≠ a := fun x => by simp [x] at hp
  obtain ⟨i', hi', rfl⟩ : ∃ i', i' < m ∧ i = skn a i' := by
    by_cases c : i < a
    · exact ⟨i, by omega, by unfold skn; rw [if_pos c]⟩
    · exact ⟨i - 1, by omega, by unfold skn; rw [if_neg (by omega)]; omega⟩
  rw [hq] at hp
  refine ⟨i', hi', hp, ?_⟩
  refine Int.lt_of_lt_of_le hpos (Int.le_of_eq ?_)
  unfold smP
  have e := (sm_sk (fun v : Nat => if (decide (v ≠ a) && P (if v < a then v else v - 1)) = true then f (skn a i' : Nat) v else 0) a m).2 (by omega)
  rw [← e]
  simp only [hq, skn_eq, ne_eq, not_true_eq_false, decide_false, Bool.false_and, Bool.false_eq_true, if_false, Int.add_zero]
/-- two nodes of a graph that is connected: the minor without both is positive. -/
theorem two_pos {N : Gra} (hn : GraOk N) {a b : Nat} (hab : a < b) (hb : (b : Int) < N.n) (h0 : dt (keep N.n.toNat [0]).length (sub (keep N.n.toNat [0]) (lapK N.edges N.edges.length)) ≠ 0) :
    0 < dt (keep N.n.toNat [(a : Int), (b : Int)]).length (sub (keep N.n.toNat [(a : Int), (b : Int)]) (lapK N.edges N.edges.length)) := by
  have hn1 := hn.1
  obtain ⟨m, hm⟩ : ∃ m, N.n.toNat = m + 2 := ⟨N.n.toNat - 2, by omega⟩
  obtain ⟨s, rfl⟩ : ∃ s, b = s + 1 := ⟨b - 1, by omega⟩
  have l1 := lap_mi hn (k := N.edges.length) (Nat.le_refl _) (m := m + 1) hm (s := s) (by omega)
  have hD : Dom (m + 2) (lapK N.edges N.edges.length) := fun i hi => ⟨fun j hj hne => lap_off hn (by omega) _ (Nat.le_refl _), by
    have := lap_row hn i _ (Nat.le_refl N.edges.length)
    rw [sumN_sm, hm] at this
    omega⟩
  rw [hm, dt0_mi, ← l1] at h0
  rw [hm, dt2_mi hab (by omega)]
  have hM := hD.sub (a := s + 1) (by omega)
  have hG := sym_good hM (fun i j _ _ => lap_sym hn _ _ _ (Nat.le_refl _)) h0
  exact Good.pos _ _ (hG.sub (a := a) (by omega))
theorem keep_comm (n : Nat) (a b : Int) : keep n [a, b] = keep n [b, a] := by
  unfold keep
  refine List.filter_congr fun x _ => ?_
  simp only [List.contains_cons, List.contains_nil, Bool.or_false]
  rw [Bool.or_comm]
theorem ohm_sym (N : Gra) (a b : Int) : ohmV N a b = ohmV N b a := by
  have e : (a = b) = (b = a) := propext eq_comm
  have e2 : ((0 ≤ a ∧ a < N.n) ∧ 0 ≤ b ∧ b < N.n) = ((0 ≤ b ∧ b < N.n) ∧ 0 ≤ a ∧ a < N.n) := propext And.comm
  unfold ohmV
  simp only [keep_comm N.n.toNat a b, e, e2]
/-- the parts of a quotient in lowest terms. -/
theorem low_terms {F D : Int} (hF : 0 ≤ F) (hD : 0 < D) : ∃ g u v : Int, g = (Nat.gcd F.toNat D.toNat : Nat) ∧ 0 < g ∧ F = g * u ∧ D = g * v ∧ F / g = u ∧ D / g = v ∧ 0 < v ∧ 0 ≤ u := by
  obtain ⟨x, hx⟩ := Nat.gcd_dvd_left F.toNat D.toNat
  obtain ⟨y, hy⟩ := Nat.gcd_dvd_right F.toNat D.toNat
  have hg : 0 < Nat.gcd F.toNat D.toNat := Nat.gcd_pos_of_pos_right _ (by omega)
  generalize Nat.gcd F.toNat D.toNat = g at *
  have e1 : F = (g : Int) * x := by rw [← Int.natCast_mul, ← hx]; omega
  have e2 : D = (g : Int) * y := by rw [← Int.natCast_mul, ← hy]; omega
  have hy0 : 0 < (y : Int) := by
    apply Classical.byContradiction; intro c
    have : (y : Int) = 0 := by omega
    rw [this, Int.mul_zero] at e2; omega
  refine ⟨g, x, y, rfl, by omega, e1, e2, ?_, ?_, hy0, by omega⟩
  · rw [e1]; exact Int.mul_ediv_cancel_left _ (by omega)
  · rw [e2]; exact Int.mul_ediv_cancel_left _ (by omega)
theorem ohm_ok {N : Gra} {a b : Int} (h : (ohmV N a b).2.2 = 0) : 1 ≤ (ohmV N a b).2.1 ∧ ((ohmV N a b).1 = 0 ↔ a = b) := by
  have key : ∀ {a b : Int}, a ≤ b → (ohmV N a b).2.2 = 0 → 1 ≤ (ohmV N a b).2.1 ∧ ((ohmV N a b).1 = 0 ↔ a = b) := by
    intro a b hab h
    unfold ohmV at h ⊢
    by_cases h1 : GraOk N
    rotate_left
    · rw [if_pos h1] at h; exact absurd h (by decide)
    rw [if_neg (fun x => x h1)] at h ⊢
    by_cases h2 : (0 ≤ a ∧ a < N.n) ∧ 0 ≤ b ∧ b < N.n
    rotate_left
    · rw [if_pos h2] at h; exact absurd h (by decide)
    rw [if_neg (fun x => x h2)] at h ⊢
    by_cases h3 : dt (keep N.n.toNat [0]).length (sub (keep N.n.toNat [0]) (lapK N.edges N.edges.length)) = 0
    · rw [if_pos h3] at h; exact absurd h (by decide)
    rw [if_neg h3]
    by_cases h4 : a = b
    · rw [if_pos h4]; exact ⟨by decide, fun _ => h4, fun _ => rfl⟩
    rw [if_neg h4]
    obtain ⟨x, rfl⟩ : ∃ x : Nat, a = x := ⟨a.toNat, by omega⟩
    obtain ⟨y, rfl⟩ : ∃ y : Nat, b = y := ⟨b.toNat, by omega⟩
    have hp := two_pos h1 (show x < y by omega) h2.2.2 h3
    have hd := minor_bd h1 [0] (keep0 h1)
    obtain ⟨g, u, v, hg, g0, f1, f2, f3, f4, f5, f6⟩ := low_terms (Int.le_of_lt hp) (show 0 < dt (keep N.n.toNat [0]).length (sub (keep N.n.toNat [0]) (lapK N.edges N.edges.length)) by omega)
    rw [← hg, f3, f4]
    refine ⟨f5, fun x => ?_, fun x => absurd x h4⟩
    dsimp only at x
    rw [x, Int.mul_zero] at f1; omega
  by_cases hab : a ≤ b
  · exact key hab h
  · rw [ohm_sym] at h ⊢
    have := key (show b ≤ a by omega) h
    exact ⟨this.1, this.2.trans eq_comm⟩
theorem take_gra {N : Gra} (hn : GraOk N) {k : Nat} (hk : N.edges.length = k + 1) : GraOk ⟨N.n, N.edges.take k⟩ := by
  obtain ⟨a1, a2, a3, a4⟩ := hn
  have hl : (N.edges.take k).length = k := by rw [List.length_take]; omega
  have hg : ∀ i, i < k → (N.edges.take k).getD i z3 = N.edges.getD i z3 := fun i hi => by simp [List.getD, List.getElem?_take, hi]
  refine ⟨a1, fun i hi => ?_, fun i hi => ?_, by dsimp only; omega⟩
  · dsimp only at hi ⊢; rw [hl] at hi; rw [hg i hi]; exact a2 i (by omega)
  · dsimp only at hi ⊢; rw [hl] at hi; rw [hg i (by omega), hg (i + 1) hi]; exact a3 i (by omega)
theorem trees_law {N : Gra} (hn : GraOk N) {k : Nat} (hk : N.edges.length = k + 1) : ∃ D E F g u v : Int, treesV N = (D, 0) ∧ treesV ⟨N.n, N.edges.take k⟩ = (E, 0) ∧ 0 ≤ E ∧ 0 ≤ F ∧ D = (N.edges.getD k z3).2.2 * F + E ∧ D < 998244353000000000 ∧
    ((D = 0 ∧ ohmV N (N.edges.getD k z3).1 (N.edges.getD k z3).2.1 = (0, 0, 6)) ∨ (0 < D ∧ ohmV N (N.edges.getD k z3).1 (N.edges.getD k z3).2.1 = (u, v, 0) ∧ 0 < g ∧ 0 < u ∧ 0 < v ∧ F = g * u ∧ D = g * v)) := by
  have hm := take_gra hn hk
  have hgap := tree_gap hn hk
  have b0 := minor_bd hn [0] (keep0 hn)
  have b1 := minor_bd hm [0] (keep0 hm)
  obtain ⟨o1, o2, o3, o4⟩ := hn.2.1 k (by omega)
  have b2 := minor_bd hn [(N.edges.getD k z3).1, (N.edges.getD k z3).2.1] (keep2 hn (by omega))
  have e1 : treesV N = (dt (keep N.n.toNat [0]).length (sub (keep N.n.toNat [0]) (lapK N.edges N.edges.length)), 0) := if_pos hn
  have e2 : treesV ⟨N.n, N.edges.take k⟩ = (dt (keep N.n.toNat [0]).length (sub (keep N.n.toNat [0]) (lapK (N.edges.take k) (N.edges.take k).length)), 0) := if_pos hm
  have hl : (N.edges.take k).length = k := by rw [List.length_take]; omega
  have hg : ∀ i, i < k → (N.edges.take k).getD i z3 = N.edges.getD i z3 := fun i hi => by simp [List.getD, List.getElem?_take, hi]
  have hL : lapK (N.edges.take k) (N.edges.take k).length = lapK N.edges k := by rw [hl]; exact lapK_take k hg
  dsimp only at b1
  rw [hL] at e2 b1
  have e3 : ohmV N (N.edges.getD k z3).1 (N.edges.getD k z3).2.1 = _ := (if_neg (fun x => x hn)).trans (if_neg (fun x => x ⟨⟨o1, by omega⟩, by omega, o3⟩))
  rw [if_neg (show ¬ (N.edges.getD k z3).1 = (N.edges.getD k z3).2.1 by omega)] at e3
  have hpos : dt (keep N.n.toNat [0]).length (sub (keep N.n.toNat [0]) (lapK N.edges N.edges.length)) ≠ 0 → 0 < dt (keep N.n.toNat [(N.edges.getD k z3).1, (N.edges.getD k z3).2.1]).length (sub (keep N.n.toNat [(N.edges.getD k z3).1, (N.edges.getD k z3).2.1]) (lapK N.edges N.edges.length)) := fun h0 => by
    have := two_pos hn (a := (N.edges.getD k z3).1.toNat) (b := (N.edges.getD k z3).2.1.toNat) (by omega) (by omega) h0
    rwa [Int.toNat_of_nonneg o1, Int.toNat_of_nonneg (by omega)] at this
  rw [hk] at b0 b2 e1 e3 hpos
  generalize dt (keep N.n.toNat [0]).length (sub (keep N.n.toNat [0]) (lapK N.edges (k + 1))) = D at *
  generalize dt (keep N.n.toNat [0]).length (sub (keep N.n.toNat [0]) (lapK N.edges k)) = E at *
  generalize dt (keep N.n.toNat [(N.edges.getD k z3).1, (N.edges.getD k z3).2.1]).length (sub (keep N.n.toNat [(N.edges.getD k z3).1, (N.edges.getD k z3).2.1]) (lapK N.edges (k + 1))) = F at *
  by_cases h0 : D = 0
  · rw [if_pos h0] at e3
    exact ⟨D, E, F, 0, 0, 0, e1, e2, b1.1, b2.1, hgap, b0.2, .inl ⟨h0, e3⟩⟩
  · rw [if_neg h0] at e3
    have hF := hpos h0
    obtain ⟨g, u, v, hgg, g0, f1, f2, f3, f4, f5, f6⟩ := low_terms b2.1 (show 0 < D by omega)
    rw [← hgg, f3, f4] at e3
    have hu : 0 < u := by
      apply Classical.byContradiction; intro c
      have : u = 0 := by omega
      rw [this, Int.mul_zero] at f1; omega
    exact ⟨D, E, F, g, u, v, e1, e2, b1.1, b2.1, hgap, b0.2, .inr ⟨by omega, e3, g0, hu, f5, f1, f2⟩⟩
theorem blk_step {G G' : GH} {b x : Nat} {e : Ent} (s : Sub (del G b) G') (hx : x ≠ b) (h : G x = some e) : G' x = some e := s _ _ (by rw [del_ne _ hx]; exact h)
theorem Own.stp {G G' : GH} {b : Nat} {A : Option Addr} {c sz n : Nat} {cs : List Value} (h : Own G A c cs sz n) (s : Sub (Gh.del G b) G') (hb : ∀ a, A = some a → a.block ≠ b) : Own G' A c cs sz n := (h.del hb).sub s
theorem spec_DrawCountTrees_ok {G : GH} {A : Option Addr} {L c : Nat} (h : BytS G A L c) {K : Value → GH → Prop}
    (hk : ∀ G' N Ap cp, GSm N → Own G' Ap cp (flat3 N.edges) 3 N.edges.length → Off G Ap → Sub G G' → K (graV N Ap cp) G') : GC Try.prog 85 [.slice A L c] G K := by
  refine GC_drop (c_spec_DrawCountTrees_i (by simp) ?_)
  simp (maxSteps := 300000) (disch := omega) only [gs, gs2, gs3, gs4, ↓reduceIte, Nat.reduceEqDiff, Int.reduceToNat, Nat.reduceMul, Nat.reduceAdd, Nat.reduceBEq, isLd]
  intro b2 hb2
  simp (maxSteps := 300000) (disch := omega) only [gs, gs2, gs3, gs4, ↓reduceIte, Nat.reduceEqDiff, Int.reduceToNat, Nat.reduceMul, Nat.reduceAdd, Nat.reduceBEq, isLd]
  refine c_spec_l00From_i (by simp) ?_
  have hbl : bldV [.slice none 0 0, .int .i64 0, .int .u64 0] [(0, 1, .slice A L c)] = some [.slice A L c, .int .i64 0, .int .u64 0] := rfl
  simp (maxSteps := 300000) (disch := omega) only [gs, gs2, gs3, gs4, ↓reduceIte, Nat.reduceEqDiff, Int.reduceToNat, Nat.reduceMul, Nat.reduceAdd, Nat.reduceBEq, isLd, hbl]
  intro b5 hb5
  simp (maxSteps := 300000) (disch := omega) only [gs, gs2, gs3, gs4, ↓reduceIte, Nat.reduceEqDiff, Int.reduceToNat, Nat.reduceMul, Nat.reduceAdd, Nat.reduceBEq, isLd]
  have s2 := Sub.put hb2 ⟨z2, true⟩
  have hS : Src (put G b2 ⟨z2, true⟩) (put (put G b2 ⟨z2, true⟩) b5 ⟨[.slice A L c, .int .i64 0, .int .u64 0], true⟩) b5 A L c 0 := ⟨Sub.put hb5 _, hb5, h.sub s2, 0, 0, Nat.le_refl _, put_same _ _ _⟩
  refine spec_l16Draw_ok hS (by omega) fun G1 N Ap cp hA hO hOff hab s1 => ?_
  have e2 : G1 b2 = some ⟨z2, true⟩ := s1.sub _ _ (put_same _ _ _)
  have hA2 : ∀ a, Ap = some a → a.block ≠ b2 := fun a ha e => by have := hOff a ha; rw [e, put_same] at this; cases this
  have hAG := hOff.mono s2
  have n25 : b2 ≠ b5 := (put_none.1 hb5).1.symm
  have hn := hA.n
  unfold graV
  simp (maxSteps := 300000) (disch := omega) only [gs, gs2, gs3, gs4, ↓reduceIte, Nat.reduceEqDiff, Int.reduceToNat, Nat.reduceMul, Nat.reduceAdd, Nat.reduceBEq, isLd]
  refine st_grab (n := N.n) (es := N.edges) (A := Ap) (c := cp) e2 fun q0 q1 => ?_
  simp (maxSteps := 300000) (disch := omega) only [gs, gs2, gs3, gs4, ↓reduceIte, Nat.reduceEqDiff, Int.reduceToNat, Nat.reduceMul, Nat.reduceAdd, Nat.reduceBEq, isLd, q0, q1]
  exact ⟨_, Sub.refl _, hk _ _ _ _ hA (hO.away hA2 _) hAG ((s2.trans s1.sub).skip hb2)⟩
theorem spec_l16DrawNode_ok {H0 G : GH} {b : Nat} {A q : Option Addr} {L c p : Nat} {n : Int} (h : Src H0 G b A L c p) (hp : p ≤ 5000) (hg : rd H0 q = some (.int .i64 n)) (hn : 0 ≤ n ∧ n ≤ 20) {K : Value → GH → Prop}
    (hk : ∀ (w : Int) G', Src H0 G' b A L c (p + 4) → K (.int .i64 w) G') : GC Try.prog 183 [.pointer (some ⟨b, 0, none⟩), .pointer q] G K := by
  refine c_spec_l16DrawNode_i (by simp) ?_
  have hq := rd_some hg
  have hD : VD H0 G b A L c p [] none 0 := ⟨h, Own.nil _ _, Off.nil _, fun a ha => by cases ha⟩
  simp (maxSteps := 300000) (disch := omega) only [gs, gs2, gs3, gs4, ↓reduceIte, Nat.reduceEqDiff, Int.reduceToNat, Nat.reduceMul, Nat.reduceAdd, Nat.reduceBEq, isLd]
  refine spec_one_ok hD.src.all (by omega) (n := 10) (by omega) fun v G5 s5 => ?_
  have hD := hD.step s5
  have f0 := rd_sub hD.src.sub hg
  cases v
  · simp (maxSteps := 300000) (disch := omega) only [gs, gs2, gs3, gs4, ↓reduceIte, Nat.reduceEqDiff, Int.reduceToNat, Nat.reduceMul, Nat.reduceAdd, Nat.reduceBEq, isLd, f0]
    refine spec_l00Max_ok _ _ ?_
    simp (maxSteps := 300000) (disch := omega) only [gs, gs2, gs3, gs4, ↓reduceIte, Nat.reduceEqDiff, Int.reduceToNat, Nat.reduceMul, Nat.reduceAdd, Nat.reduceBEq, isLd, f0]
    refine spec_pick_ok hD.src.all (by omega) (by omega) fun w G6 w0 w1 w2 s6 => ?_
    have hD := hD.step s6
    simp (maxSteps := 300000) (disch := omega) only [gs, gs2, gs3, gs4, ↓reduceIte, Nat.reduceEqDiff, Int.reduceToNat, Nat.reduceMul, Nat.reduceAdd, Nat.reduceBEq, isLd]
    exact hk _ _ (hD.src.le (by omega))
  · simp (maxSteps := 300000) (disch := omega) only [gs, gs2, gs3, gs4, ↓reduceIte, Nat.reduceEqDiff, Int.reduceToNat, Nat.reduceMul, Nat.reduceAdd, Nat.reduceBEq, isLd, f0, gBs]
    refine ⟨by intro v hv; simp at hv; rcases hv with rfl | rfl <;> rfl, fun bx hbx => ?_⟩
    have hDx := hD.box hbx ⟨([(-1), n] : List Int).map I64, true⟩
    have hbb : bx ≠ b := hD.src.ne hbx
    have hxl : IntS (del (put G5 bx ⟨([(-1), n] : List Int).map I64, true⟩) b) (some ⟨bx, 0, none⟩) 2 [(-1), n] := blk_ints (xs := [(-1), n]) (by rw [del_ne _ hbb]; exact put_same _ _ _)
    refine spec_among_ok (xs := [(-1), n]) hDx.src.all (by omega) hxl (by simp) (by simp) fun w G6 hw sw => ?_
    have hD := hDx.step sw
    simp (maxSteps := 300000) (disch := omega) only [gs, gs2, gs3, gs4, ↓reduceIte, Nat.reduceEqDiff, Int.reduceToNat, Nat.reduceMul, Nat.reduceAdd, Nat.reduceBEq, isLd]
    exact hk _ _ (hD.src.le (by omega))
theorem spec_DrawResistanceOf_ok {G : GH} {A : Option Addr} {L c : Nat} (h : BytS G A L c) {K : Value → GH → Prop}
    (hk : ∀ G' N Ap cp a b, GSm N → Own G' Ap cp (flat3 N.edges) 3 N.edges.length → Off G Ap → Sub G G' → K (.tuple [graV N Ap cp, .int .i64 a, .int .i64 b].toArray) G') : GC Try.prog 86 [.slice A L c] G K := by
  refine GC_drop (c_spec_DrawResistanceOf_i (by simp) ?_)
  simp (maxSteps := 300000) (disch := omega) only [gs, gs2, gs3, gs4, ↓reduceIte, Nat.reduceEqDiff, Int.reduceToNat, Nat.reduceMul, Nat.reduceAdd, Nat.reduceBEq, isLd]
  intro b2 hb2
  simp (maxSteps := 300000) (disch := omega) only [gs, gs2, gs3, gs4, ↓reduceIte, Nat.reduceEqDiff, Int.reduceToNat, Nat.reduceMul, Nat.reduceAdd, Nat.reduceBEq, isLd]
  refine c_spec_l00From_i (by simp) ?_
  have hbl : bldV [.slice none 0 0, .int .i64 0, .int .u64 0] [(0, 1, .slice A L c)] = some [.slice A L c, .int .i64 0, .int .u64 0] := rfl
  simp (maxSteps := 300000) (disch := omega) only [gs, gs2, gs3, gs4, ↓reduceIte, Nat.reduceEqDiff, Int.reduceToNat, Nat.reduceMul, Nat.reduceAdd, Nat.reduceBEq, isLd, hbl]
  intro b5 hb5
  simp (maxSteps := 300000) (disch := omega) only [gs, gs2, gs3, gs4, ↓reduceIte, Nat.reduceEqDiff, Int.reduceToNat, Nat.reduceMul, Nat.reduceAdd, Nat.reduceBEq, isLd]
  have s2 := Sub.put hb2 ⟨z2, true⟩
  have hS : Src (put G b2 ⟨z2, true⟩) (put (put G b2 ⟨z2, true⟩) b5 ⟨[.slice A L c, .int .i64 0, .int .u64 0], true⟩) b5 A L c 0 := ⟨Sub.put hb5 _, hb5, h.sub s2, 0, 0, Nat.le_refl _, put_same _ _ _⟩
  refine spec_l16Draw_ok hS (by omega) fun G1 N Ap cp hA hO hOff hab s1 => ?_
  have e2 : G1 b2 = some ⟨z2, true⟩ := s1.sub _ _ (put_same _ _ _)
  have hA2 : ∀ a, Ap = some a → a.block ≠ b2 := fun a ha e => by have := hOff a ha; rw [e, put_same] at this; cases this
  have hAG := hOff.mono s2
  have n25 : b2 ≠ b5 := (put_none.1 hb5).1.symm
  have n5 : G b5 = none := (put_none.1 hb5).2
  have hn := hA.n
  unfold graV
  simp (maxSteps := 300000) (disch := omega) only [gs, gs2, gs3, gs4, ↓reduceIte, Nat.reduceEqDiff, Int.reduceToNat, Nat.reduceMul, Nat.reduceAdd, Nat.reduceBEq, isLd]
  intro b6 hb6
  simp (maxSteps := 300000) (disch := omega) only [gs, gs2, gs3, gs4, ↓reduceIte, Nat.reduceEqDiff, Int.reduceToNat, Nat.reduceMul, Nat.reduceAdd, Nat.reduceBEq, isLd]
  refine st_fresh (vs := graC N Ap cp) rfl rfl rfl (by intro v hv; simp [graC] at hv; rcases hv with rfl | rfl <;> rfl) ?_
  have n65 : b6 ≠ b5 := s1.ne hb6
  have n26 : b6 ≠ b2 := (blk_ne e2 hb6).symm
  have sG := (s2.trans s1.sub).trans (Sub.put hb6 ⟨graC N Ap cp, true⟩)
  have s3 := s1.box hb6 ⟨graC N Ap cp, true⟩
  have hO3 := hO.sub (Sub.put hb6 ⟨graC N Ap cp, true⟩)
  have e23 := (Sub.put hb6 ⟨graC N Ap cp, true⟩) _ _ e2
  have e6 := put_same G1 b6 ⟨graC N Ap cp, true⟩
  revert s3 hO3 e23 e6 sG
  generalize put G1 b6 ⟨graC N Ap cp, true⟩ = G2
  intro sG s3 hO3 e23 e6
  have g0 : rd (del G2 b5) (some ⟨b6, 0, none⟩) = some (.int .i64 N.n) := by simp only [rd, del_ne _ n65, e6]; rfl
  simp (maxSteps := 300000) (disch := omega) only [gs, gs2, gs3, gs4, ↓reduceIte, Nat.reduceEqDiff, Int.reduceToNat, Nat.reduceMul, Nat.reduceAdd, Nat.reduceBEq, isLd]
  refine spec_l16DrawNode_ok s3.all (by omega) g0 hn fun a G3 hD => ?_
  have e24 := blk_step hD.sub n25 e23
  have e64 := blk_step hD.sub n65 e6
  have hO4 := hO3.stp hD.sub hab
  have sG3 := (sG.in_del n5).trans hD.sub
  have g0' : rd (del G3 b5) (some ⟨b6, 0, none⟩) = some (.int .i64 N.n) := by simp only [rd, del_ne _ n65, e64]; rfl
  have k0 : rd G3 (some ⟨b6, 0, none⟩) = some (.int .i64 N.n) := by simp only [rd, e64]; rfl
  have k1 : rd G3 (some ⟨b6, 1, none⟩) = some (.slice Ap N.edges.length cp) := by simp only [rd, e64]; rfl
  simp (maxSteps := 300000) (disch := omega) only [gs, gs2, gs3, gs4, ↓reduceIte, Nat.reduceEqDiff, Int.reduceToNat, Nat.reduceMul, Nat.reduceAdd, Nat.reduceBEq, isLd, k0, k1]
  refine spec_l16DrawNode_ok hD.all (by omega) g0' hn fun b G4 hD4 => ?_
  have e25 := blk_step hD4.sub n25 e24
  have e65 := blk_step hD4.sub n65 e64
  have hO5 := hO4.stp hD4.sub hab
  have sG4 := (sG3.in_del n5).trans hD4.sub
  have l0 : rd G4 (some ⟨b6, 0, none⟩) = some (.int .i64 N.n) := by simp only [rd, e65]; rfl
  have l1 : rd G4 (some ⟨b6, 1, none⟩) = some (.slice Ap N.edges.length cp) := by simp only [rd, e65]; rfl
  simp (maxSteps := 300000) (disch := omega) only [gs, gs2, gs3, gs4, ↓reduceIte, Nat.reduceEqDiff, Int.reduceToNat, Nat.reduceMul, Nat.reduceAdd, Nat.reduceBEq, isLd, l0, l1]
  refine st_grab (n := N.n) (es := N.edges) (A := Ap) (c := cp) e25 fun q0 q1 => ?_
  have l0' : rd (put G4 b2 ⟨graC ⟨N.n, N.edges⟩ Ap cp, true⟩) (some ⟨b6, 0, none⟩) = some (.int .i64 N.n) := by rw [rd_put_ne _ _ _ _ _ n26]; exact l0
  have l1' : rd (put G4 b2 ⟨graC ⟨N.n, N.edges⟩ Ap cp, true⟩) (some ⟨b6, 1, none⟩) = some (.slice Ap N.edges.length cp) := by rw [rd_put_ne _ _ _ _ _ n26]; exact l1
  simp (maxSteps := 300000) (disch := omega) only [gs, gs2, gs3, gs4, ↓reduceIte, Nat.reduceEqDiff, Int.reduceToNat, Nat.reduceMul, Nat.reduceAdd, Nat.reduceBEq, isLd, l0', l1', q0, q1]
  exact ⟨_, Sub.refl _, hk _ _ _ _ _ _ hA (hO5.away hA2 _) hAG (sG4.skip hb2)⟩
/-- bytes that came in. -/
def BytesV (G : GH) (v : Value) (L : Nat) : Prop := ∃ A c, v = .slice A L c ∧ BytS G A L c ∧ L ≤ 2 ^ 63 - 1
theorem open_bytes' {H : Type} {enc : TypeId × Value → H} {P : Program} {W : World} {t e : TypeId} (ht : P.underlying t = some (.slice e)) (he : P.underlying e = some (.int .u8)) (hs : P.cellsOf e = 1) {v : Value} {d : DataW H} {ps : List MemPlace} {r : Reach} {base : Nat}
    (hv : Value.okWide P W r base t v) (h : DataW.Trod enc P W 0 (fun _ => true) true t v d ps) : ∃ L, BytesV (G0 W) v L := by
  obtain ⟨A, n, c, rfl⟩ := Go.WideShapes.okWide_slice ht hv
  obtain ⟨fuel, hf⟩ := h
  obtain ⟨hc, hc2, hx⟩ := trod_sl ht hf
  rw [hs] at hx
  refine ⟨n, A, c, rfl, ⟨hc, fun i hi => ?_⟩, by omega⟩
  obtain ⟨cs, f', x', h1, h2, h3⟩ := hx i hi
  obtain ⟨z, rfl, _, hwf⟩ := DataW.trod_int he h3
  simp only [Lit.wf, Bool.and_eq_true, decide_eq_true_eq, IntKind.min, IntKind.max, IntKind.signed, IntKind.bits] at hwf
  have hb : 0 ≤ z ∧ z ≤ 255 := by simpa using hwf
  exact ⟨z, hb.1, hb.2, by simpa using h2 0 _ rfl⟩
theorem b10Long_ok {G : GH} {A : Option Addr} {L c : Nat} {K : Value → GH → Prop} (hk : K (.bool (decide ((1048576 : Int) < L))) G) : GC Try.prog 56 [.slice A L c] G K := by
  refine c_laws_b10Long_i (by simp) ?_
  simp (maxSteps := 300000) (disch := omega) only [gs, gs2, gs3, gs4, ↓reduceIte, Nat.reduceEqDiff, Int.reduceToNat, Nat.reduceMul, Nat.reduceAdd, Nat.reduceBEq, isLd]
  exact hk
abbrev trIf : GCode := .seq (.reg c_laws_FnTrees_5) (.cond (tt 44) (.seq (.reg c_laws_FnTrees_6) (.seq (.dtree c_laws_FnTrees_7) (.seq (.reg c_laws_FnTrees_8) (.seq (.reg c_laws_FnTrees_9) (.seq (.seq (.reg c_laws_FnTrees_10) (.cond (tt 97) (.seq (.reg c_laws_FnTrees_11) (.ret)) (.skip))) (.seq (.dreg c_laws_FnTrees_12) (.cond (tt 127) (.seq (.reg c_laws_FnTrees_13) (.ret)) (.skip)))))))) (.skip))
abbrev trRest : GCode := .seq (.reg c_laws_FnTrees_14) (.seq (.reg c_laws_FnTrees_15) (.seq (.reg c_laws_FnTrees_16) (.seq (.reg c_laws_FnTrees_17) (.ret))))
theorem tr_h {G : GH} {v0 v1 : Value} {x0 x1 : Nat} {X : GCode} (h0 : BytesV G v0 x0) (h1 : BytesV G v1 x1)
    (hX : ∀ (T' : Nat → Value) (H : GH) (N : Gra) (A1 Ap : Option Addr) (c1 cp b5 : Nat), T' 1 = .slice A1 x1 c1 → BytS H A1 x1 c1 → T' 5 = .pointer (some ⟨b5, 0, none⟩) → T' 6 = .int .i64 (treesV N).1 → T' 7 = .int .i64 (treesV N).2 →
      rd H (some ⟨b5, 0, none⟩) = some (.int .i64 N.n) → rd H (some ⟨b5, 1, none⟩) = some (.slice Ap N.edges.length cp) → T3S H Ap cp N.edges → N.edges.length ≤ 64 → gW Try.prog X (RetK [RV.t 4] fun v _ => v = .bool true) T' H) :
    gW Try.prog (.seq (.reg c_laws_FnTrees_0) (.seq (.seq (.reg c_laws_FnTrees_1) (.cond (tt 29) (.seq (.reg c_laws_FnTrees_2) (.ret)) (.skip))) (.seq (.reg c_laws_FnTrees_3) (.seq (.reg c_laws_FnTrees_4) X)))) (RetK [RV.t 4] fun v _ => v = .bool true) (T0 [v0, v1]) G := by
  obtain ⟨A0, c0, rfl, h0, l0⟩ := h0
  obtain ⟨A1, c1, rfl, h1, l1⟩ := h1
  simp (maxSteps := 300000) (disch := omega) only [gs, gs2, gs3, gs4, ↓reduceIte, Nat.reduceEqDiff, Int.reduceToNat, Nat.reduceMul, Nat.reduceAdd, Nat.reduceBEq, isLd]
  refine b10Long_ok ?_
  by_cases g0 : (1048576 : Int) < x0
  · simp (maxSteps := 300000) (disch := omega) only [gs, gs2, gs3, gs4, ↓reduceIte, Nat.reduceEqDiff, Int.reduceToNat, Nat.reduceMul, Nat.reduceAdd, Nat.reduceBEq, isLd, g0]
  simp (maxSteps := 300000) (disch := omega) only [gs, gs2, gs3, gs4, ↓reduceIte, Nat.reduceEqDiff, Int.reduceToNat, Nat.reduceMul, Nat.reduceAdd, Nat.reduceBEq, isLd, g0]
  refine b10Long_ok ?_
  by_cases g1 : (1048576 : Int) < x1
  · simp (maxSteps := 300000) (disch := omega) only [gs, gs2, gs3, gs4, ↓reduceIte, Nat.reduceEqDiff, Int.reduceToNat, Nat.reduceMul, Nat.reduceAdd, Nat.reduceBEq, isLd, g1]
  simp (maxSteps := 300000) (disch := omega) only [gs, gs2, gs3, gs4, ↓reduceIte, Nat.reduceEqDiff, Int.reduceToNat, Nat.reduceMul, Nat.reduceAdd, Nat.reduceBEq, isLd, g1]
  refine spec_DrawCountTrees_ok h0 fun G1 N Ap cp hA hO _ s1 => ?_
  have hT := hO.t3
  have hnl := hA.len
  have hB := h1.sub s1
  clear hO
  unfold graV graC
  simp (maxSteps := 300000) (disch := omega) only [gs, gs2, gs3, gs4, ↓reduceIte, Nat.reduceEqDiff, Int.reduceToNat, Nat.reduceMul, Nat.reduceAdd, Nat.reduceBEq, isLd]
  intro b5 hb5
  simp (maxSteps := 300000) (disch := omega) only [gs, gs2, gs3, gs4, ↓reduceIte, Nat.reduceEqDiff, Int.reduceToNat, Nat.reduceMul, Nat.reduceAdd, Nat.reduceBEq, isLd]
  refine st_fresh (vs := graC N Ap cp) rfl rfl rfl (by intro v hv; simp [graC] at hv; rcases hv with rfl | rfl <;> rfl) ?_
  have s5 := Sub.put hb5 ⟨graC N Ap cp, true⟩
  have k0 : rd (put G1 b5 ⟨graC N Ap cp, true⟩) (some ⟨b5, 0, none⟩) = some (.int .i64 N.n) := rd_box _ _ _ 0 _ rfl
  have k1 : rd (put G1 b5 ⟨graC N Ap cp, true⟩) (some ⟨b5, 1, none⟩) = some (.slice Ap N.edges.length cp) := rd_box _ _ _ 1 _ rfl
  have hT := hT.sub s5
  have hB := hB.sub s5
  revert k0 k1 hT hB
  generalize put G1 b5 ⟨graC N Ap cp, true⟩ = H
  intro k0 k1 hT hB
  clear s5 s1 hb5 h0 h1
  simp (maxSteps := 300000) (disch := omega) only [gs, gs2, gs3, gs4, ↓reduceIte, Nat.reduceEqDiff, Int.reduceToNat, Nat.reduceMul, Nat.reduceAdd, Nat.reduceBEq, isLd, k0, k1]
  refine impl_CountTrees_ok (N := N) hT (by omega) ?_
  unfold pairV
  simp (maxSteps := 300000) (disch := omega) only [gs, gs2, gs3, gs4, ↓reduceIte, Nat.reduceEqDiff, Int.reduceToNat, Nat.reduceMul, Nat.reduceAdd, Nat.reduceBEq, isLd]
  exact hX _ H N A1 Ap c1 cp b5 (by simp (maxSteps := 300000) (disch := omega) only [gs, gs2, gs3, gs4, ↓reduceIte, Nat.reduceEqDiff, Int.reduceToNat, Nat.reduceMul, Nat.reduceAdd, Nat.reduceBEq, isLd]) hB (by simp (maxSteps := 300000) (disch := omega) only [gs, gs2, gs3, gs4, ↓reduceIte, Nat.reduceEqDiff, Int.reduceToNat, Nat.reduceMul, Nat.reduceAdd, Nat.reduceBEq, isLd]) (by simp (maxSteps := 300000) (disch := omega) only [gs, gs2, gs3, gs4, ↓reduceIte, Nat.reduceEqDiff, Int.reduceToNat, Nat.reduceMul, Nat.reduceAdd, Nat.reduceBEq, isLd]) (by simp (maxSteps := 300000) (disch := omega) only [gs, gs2, gs3, gs4, ↓reduceIte, Nat.reduceEqDiff, Int.reduceToNat, Nat.reduceMul, Nat.reduceAdd, Nat.reduceBEq, isLd]) k0 k1 hT (by omega)
theorem tr_rest {G : GH} {A1 : Option Addr} {x1 c1 : Nat} {T : Nat → Value} (e1 : T 1 = .slice A1 x1 c1) (hB : BytS G A1 x1 c1) : gW Try.prog trRest (RetK [RV.t 4] fun v _ => v = .bool true) T G := by
  simp (maxSteps := 300000) (disch := omega) only [gs, gs2, gs3, gs4, ↓reduceIte, Nat.reduceEqDiff, Int.reduceToNat, Nat.reduceMul, Nat.reduceAdd, Nat.reduceBEq, isLd, e1]
  refine spec_DrawResistanceOf_ok hB fun G1 N Ap cp a b hA hO _ s1 => ?_
  have hT := hO.t3
  have hnl := hA.len
  clear hO
  unfold graV graC
  simp (maxSteps := 300000) (disch := omega) only [gs, gs2, gs3, gs4, ↓reduceIte, Nat.reduceEqDiff, Int.reduceToNat, Nat.reduceMul, Nat.reduceAdd, Nat.reduceBEq, isLd]
  intro b5 hb5
  simp (maxSteps := 300000) (disch := omega) only [gs, gs2, gs3, gs4, ↓reduceIte, Nat.reduceEqDiff, Int.reduceToNat, Nat.reduceMul, Nat.reduceAdd, Nat.reduceBEq, isLd]
  refine st_fresh (vs := graC N Ap cp) rfl rfl rfl (by intro v hv; simp [graC] at hv; rcases hv with rfl | rfl <;> rfl) ?_
  have s5 := Sub.put hb5 ⟨graC N Ap cp, true⟩
  have k0 : rd (put G1 b5 ⟨graC N Ap cp, true⟩) (some ⟨b5, 0, none⟩) = some (.int .i64 N.n) := rd_box _ _ _ 0 _ rfl
  have k1 : rd (put G1 b5 ⟨graC N Ap cp, true⟩) (some ⟨b5, 1, none⟩) = some (.slice Ap N.edges.length cp) := rd_box _ _ _ 1 _ rfl
  have hT := hT.sub s5
  revert k0 k1 hT
  generalize put G1 b5 ⟨graC N Ap cp, true⟩ = H
  intro k0 k1 hT
  clear s5 s1 hb5
  simp (maxSteps := 300000) (disch := omega) only [gs, gs2, gs3, gs4, ↓reduceIte, Nat.reduceEqDiff, Int.reduceToNat, Nat.reduceMul, Nat.reduceAdd, Nat.reduceBEq, isLd, k0, k1]
  refine impl_ResistanceOf_ok (N := N) hT (by omega) ?_
  unfold tripV
  simp (maxSteps := 300000) (disch := omega) only [gs, gs2, gs3, gs4, ↓reduceIte, Nat.reduceEqDiff, Int.reduceToNat, Nat.reduceMul, Nat.reduceAdd, Nat.reduceBEq, isLd, k0, k1]
  refine impl_ResistanceOf_ok (N := N) hT (by omega) ?_
  rw [← ohm_sym N a b]
  unfold tripV
  have hok := ohm_ok (N := N) (a := a) (b := b)
  generalize ohmV N a b = V at *
  obtain ⟨u, v, w⟩ := V
  dsimp only at *
  by_cases gw : w = 0
  · obtain ⟨hv, hu⟩ := hok gw
    by_cases gu : u = 0
    · have gab := hu.1 gu
      simp (maxSteps := 300000) (disch := omega) only [gs, gs2, gs3, gs4, ↓reduceIte, Nat.reduceEqDiff, Int.reduceToNat, Nat.reduceMul, Nat.reduceAdd, Nat.reduceBEq, isLd, eq_true (show u = u from rfl), eq_true (show v = v from rfl), eq_true (show w = w from rfl), eq_true gw, eq_true hv, eq_true gu, eq_true gab]
    · have gab : ¬ a = b := fun x => gu (hu.2 x)
      simp (maxSteps := 300000) (disch := omega) only [gs, gs2, gs3, gs4, ↓reduceIte, Nat.reduceEqDiff, Int.reduceToNat, Nat.reduceMul, Nat.reduceAdd, Nat.reduceBEq, isLd, eq_true (show u = u from rfl), eq_true (show v = v from rfl), eq_true (show w = w from rfl), eq_true gw, eq_true hv, eq_false gu, eq_false gab]
  · simp (maxSteps := 300000) (disch := omega) only [gs, gs2, gs3, gs4, ↓reduceIte, Nat.reduceEqDiff, Int.reduceToNat, Nat.reduceMul, Nat.reduceAdd, Nat.reduceBEq, isLd, eq_true (show u = u from rfl), eq_true (show v = v from rfl), eq_true (show w = w from rfl), eq_false gw]
theorem sl3_pop {A : Option Addr} {n c : Nat} (h : n + 1 ≤ c) : slV 3 (.slice A (n + 1) c) none (some (.int .i64 (((n + 1 : Nat) : Int) - 1))) = some (.slice A n c) := by
  have e : (((n + 1 : Nat) : Int) - 1).toNat = n := by omega
  simp only [slV, onSl, bndV, onInt]
  rw [if_pos ⟨by omega, by omega⟩, e]
  simp [pa_zero]
theorem T3S.take {G : GH} {A : Option Addr} {c : Nat} {es : List T3} (h : T3S G A c es) (k : Nat) : T3S G A c (es.take k) := by
  have hl : (es.take k).length ≤ es.length := by rw [List.length_take]; omega
  have hg : ∀ i, i < (es.take k).length → (es.take k).getD i z3 = es.getD i z3 := fun i hi => by
    rw [List.length_take] at hi
    simp [List.getD, List.getElem?_take, show i < k by omega]
  exact ⟨Nat.le_trans hl h.cap, fun i hi => by rw [hg i hi]; exact h.r0 i (by omega), fun i hi => by rw [hg i hi]; exact h.r1 i (by omega), fun i hi => by rw [hg i hi]; exact h.r2 i (by omega)⟩
theorem tr_cut {G : GH} {Ap : Option Addr} {cp b5 k : Nat} {n : Int} {es : List T3} {T : Nat → Value} {K : (Nat → Value) → GH → Prop} (e5 : T 5 = .pointer (some ⟨b5, 0, none⟩)) (k0 : rd G (some ⟨b5, 0, none⟩) = some (.int .i64 n)) (k1 : rd G (some ⟨b5, 1, none⟩) = some (.slice Ap (k + 1) cp))
    (hT : T3S G Ap cp es) (hk : es.length = k + 1) (hk2 : k < 64)
    (hK : ∀ T' G' b9 A9 c9, Sub G G' → (∀ i, i < 9 → T' i = T i) → T' 9 = .pointer (some ⟨b9, 0, none⟩) → rd G' (some ⟨b9, 0, none⟩) = some (.int .i64 n) → rd G' (some ⟨b9, 1, none⟩) = some (.slice A9 k c9) → T3S G' A9 c9 (es.take k) → K T' G') :
    gT Try.prog c_laws_FnTrees_7 [] K T G := by
  have hcap := hT.cap
  rw [hk] at hcap
  have htl : (es.take k).length = k := by rw [List.length_take]; omega
  have hC : ∀ {H : GH}, Sub G H → Cells H Ap (flat3 (es.take k)) := fun s => ((hT.take k).sub s).cells
  have hlen : (flat3 (es.take k)).length = k * 3 := by rw [flat3_len, htl]
  have h1 : ∀ v ∈ flat3 (es.take k), oneB v = true := flat3_one _
  have hbl : ∀ A c, bldV [Value.int IntKind.i64 0, Value.slice none 0 0] [(0, 1, Value.int IntKind.i64 n), (1, 1, Value.slice A k c)] = some [Value.int IntKind.i64 n, .slice A k c] := fun A c => rfl
  have hT9 : ∀ {H : GH} {A : Option Addr} {c : Nat}, Own H A c (flat3 (es.take k)) 3 k → T3S H A c (es.take k) := fun h => Own.t3 (h.cast rfl htl.symm)
  have own0 : ∀ {H : GH} {bz : Nat}, H bz = none → Own (put H bz ⟨[], true⟩) (some ⟨bz, 0, none⟩) 0 [] 3 0 := fun h => .inr ⟨_, [], rfl, put_same _ _ _, rfl, rfl, Nat.le_refl _⟩
  have off0 : ∀ {H : GH} {bz : Nat}, H bz = none → Off H (some ⟨bz, 0, none⟩) := fun h a ha => by cases ha; exact h
  have hz1 : ∀ v ∈ [Value.int IntKind.i64 n], oneB v = true := fun v hv => by simp at hv; subst hv; rfl
  simp (maxSteps := 300000) (disch := omega) only [gs, gs2, gs3, gs4, ↓reduceIte, Nat.reduceEqDiff, Int.reduceToNat, Nat.reduceMul, Nat.reduceAdd, Nat.reduceBEq, isLd, e5, k0, k1, sl3_pop hcap, Option.map_none]
  refine ⟨?_, ?_⟩
  · refine ⟨by intro v hv; simp at hv, fun bz hbz => ?_⟩
    have sz := Sub.put hbz ⟨[], true⟩
    refine ⟨⟨rd_sub sz k1, rd_sub sz k1, rd_sub sz k0, trivial⟩, ?_, ?_⟩
    · refine ap_own (own0 hbz) (hC sz) hlen h1 rfl (by omega) (by omega) (by first | omega | (simp; omega)) fun G2 A2 c2 hO keep => ?_
      obtain ⟨s2, o2⟩ := keep G sz (off0 hbz)
      simp (maxSteps := 300000) (disch := omega) only [gs, gs2, gs3, gs4, ↓reduceIte, Nat.reduceEqDiff, Int.reduceToNat, Nat.reduceMul, Nat.reduceAdd, Nat.reduceBEq, isLd, rd_sub s2 k0, rd_sub s2 k1, hbl]
      intro b9 hb9
      have s9 := Sub.put hb9 ⟨[.int .i64 0, .slice none 0 0], true⟩
      refine ⟨⟨rd_sub s9 (rd_sub s2 k1), rd_sub s9 (rd_sub s2 k1), rd_sub s9 (rd_sub s2 k0), trivial⟩, ?_⟩
      refine st_fresh (vs := [.int .i64 n, .slice A2 k c2]) rfl rfl rfl (by intro v hv; simp at hv; rcases hv with rfl | rfl <;> rfl) ?_
      simp (maxSteps := 300000) (disch := omega) only [gs, gs2, gs3, gs4, ↓reduceIte, Nat.reduceEqDiff, Int.reduceToNat, Nat.reduceMul, Nat.reduceAdd, Nat.reduceBEq, isLd]
      have s9' := Sub.put hb9 ⟨[.int .i64 n, .slice A2 k c2], true⟩
      exact hK _ _ b9 A2 c2 (s2.trans s9') (fun i hi => by repeat rw [upd_app, if_neg (by omega)]) (by simp (maxSteps := 300000) (disch := omega) only [gs, gs2, gs3, gs4, ↓reduceIte, Nat.reduceEqDiff, Int.reduceToNat, Nat.reduceMul, Nat.reduceAdd, Nat.reduceBEq, isLd]) (rd_box _ _ _ 0 _ rfl) (rd_box _ _ _ 1 _ rfl) ((hT9 (hO.cast rfl (Nat.zero_add k))).sub s9')
    · intro b9 hb9
      have s9 := Sub.put hb9 ⟨[.int .i64 0, .slice none 0 0], true⟩
      have sz9 := sz.trans s9
      refine ⟨⟨rd_sub sz9 k1, rd_sub sz9 k1, rd_sub sz9 k0, trivial⟩, ?_⟩
      refine ap_own ((own0 hbz).sub s9) (hC sz9) hlen h1 rfl (by omega) (by omega) (by first | omega | (simp; omega)) fun G2 A2 c2 hO keep => ?_
      have n9 : b9 ≠ bz := (put_none.1 hb9).1
      have g9 : G b9 = none := (put_none.1 hb9).2
      obtain ⟨s2, o2⟩ := keep (put G b9 ⟨[.int .i64 0, .slice none 0 0], true⟩) (fun x e hx => by
        by_cases e9 : x = b9
        · subst e9; rw [put_same] at hx ⊢; exact hx
        · rw [put_ne _ _ e9] at hx ⊢; exact sz _ _ hx) (fun a ha => by cases ha; rw [put_ne _ _ n9.symm]; exact hbz)
      have sG := (Sub.put g9 _).trans s2
      simp (maxSteps := 300000) (disch := omega) only [gs, gs2, gs3, gs4, ↓reduceIte, Nat.reduceEqDiff, Int.reduceToNat, Nat.reduceMul, Nat.reduceAdd, Nat.reduceBEq, isLd, rd_sub sG k0, rd_sub sG k1, hbl]
      refine st_many (vs := [.int .i64 n, .slice A2 k c2]) rfl (s2 _ _ (put_same _ _ _)) rfl (by simp) (by intro v hv; simp at hv; rcases hv with rfl | rfl <;> rfl) ?_
      simp (maxSteps := 300000) (disch := omega) only [gs, gs2, gs3, gs4, ↓reduceIte, Nat.reduceEqDiff, Int.reduceToNat, Nat.reduceMul, Nat.reduceAdd, Nat.reduceBEq, isLd, over]
      have nA : ∀ a, A2 = some a → a.block ≠ b9 := fun a ha x => by have := o2 a ha; rw [x, put_same] at this; cases this
      exact hK _ _ b9 A2 c2 (sG.skip g9) (fun i hi => by repeat rw [upd_app, if_neg (by omega)]) (by simp (maxSteps := 300000) (disch := omega) only [gs, gs2, gs3, gs4, ↓reduceIte, Nat.reduceEqDiff, Int.reduceToNat, Nat.reduceMul, Nat.reduceAdd, Nat.reduceBEq, isLd]) (rd_box _ _ _ 0 _ rfl) (rd_box _ _ _ 1 _ rfl) (hT9 ((hO.cast rfl (Nat.zero_add k)).put nA _))
  · intro b9 hb9
    have s9 := Sub.put hb9 ⟨[.int .i64 0, .slice none 0 0], true⟩
    refine ⟨⟨rd_sub s9 k1, rd_sub s9 k1, rd_sub s9 k0, trivial⟩, ?_⟩
    refine ⟨by intro v hv; simp at hv, fun bz hbz => ?_⟩
    have sz := Sub.put hbz ⟨[], true⟩
    have sz9 := s9.trans sz
    refine ⟨⟨rd_sub sz9 k1, rd_sub sz9 k1, rd_sub sz9 k0, trivial⟩, ?_⟩
    refine ap_own (own0 hbz) (hC sz9) hlen h1 rfl (by omega) (by omega) (by first | omega | (simp; omega)) fun G2 A2 c2 hO keep => ?_
    obtain ⟨s2, o2⟩ := keep _ sz (off0 hbz)
    have sG := s9.trans s2
    simp (maxSteps := 300000) (disch := omega) only [gs, gs2, gs3, gs4, ↓reduceIte, Nat.reduceEqDiff, Int.reduceToNat, Nat.reduceMul, Nat.reduceAdd, Nat.reduceBEq, isLd, rd_sub sG k0, rd_sub sG k1, hbl]
    refine st_many (vs := [.int .i64 n, .slice A2 k c2]) rfl (s2 _ _ (put_same _ _ _)) rfl (by simp) (by intro v hv; simp at hv; rcases hv with rfl | rfl <;> rfl) ?_
    simp (maxSteps := 300000) (disch := omega) only [gs, gs2, gs3, gs4, ↓reduceIte, Nat.reduceEqDiff, Int.reduceToNat, Nat.reduceMul, Nat.reduceAdd, Nat.reduceBEq, isLd, over]
    have nA : ∀ a, A2 = some a → a.block ≠ b9 := fun a ha x => by have := o2 a ha; rw [x, put_same] at this; cases this
    exact hK _ _ b9 A2 c2 (sG.skip hb9) (fun i hi => by repeat rw [upd_app, if_neg (by omega)]) (by simp (maxSteps := 300000) (disch := omega) only [gs, gs2, gs3, gs4, ↓reduceIte, Nat.reduceEqDiff, Int.reduceToNat, Nat.reduceMul, Nat.reduceAdd, Nat.reduceBEq, isLd]) (rd_box _ _ _ 0 _ rfl) (rd_box _ _ _ 1 _ rfl) (hT9 ((hO.cast rfl (Nat.zero_add k)).put nA _))
theorem tr_if {G : GH} {A1 Ap : Option Addr} {x1 c1 cp b5 : Nat} {N : Gra} {T : Nat → Value} {X : GCode} (e1 : T 1 = .slice A1 x1 c1) (hB : BytS G A1 x1 c1) (e5 : T 5 = .pointer (some ⟨b5, 0, none⟩)) (e6 : T 6 = .int .i64 (treesV N).1) (e7 : T 7 = .int .i64 (treesV N).2)
    (k0 : rd G (some ⟨b5, 0, none⟩) = some (.int .i64 N.n)) (k1 : rd G (some ⟨b5, 1, none⟩) = some (.slice Ap N.edges.length cp)) (hT : T3S G Ap cp N.edges) (hl : N.edges.length ≤ 64)
    (hX : ∀ T' G', T' 1 = .slice A1 x1 c1 → BytS G' A1 x1 c1 → gW Try.prog X (RetK [RV.t 4] fun v _ => v = .bool true) T' G') : gW Try.prog (.seq trIf X) (RetK [RV.t 4] fun v _ => v = .bool true) T G := by
  simp (maxSteps := 300000) (disch := omega) only [gs, gs2, gs3, gs4, ↓reduceIte, Nat.reduceEqDiff, Int.reduceToNat, Nat.reduceMul, Nat.reduceAdd, Nat.reduceBEq, isLd, e7]
  by_cases gz : (treesV N).2 = 0
  rotate_left
  · simp (maxSteps := 300000) (disch := omega) only [gs, gs2, gs3, gs4, ↓reduceIte, Nat.reduceEqDiff, Int.reduceToNat, Nat.reduceMul, Nat.reduceAdd, Nat.reduceBEq, isLd, eq_false gz]
    exact hX _ _ (by simp (maxSteps := 300000) (disch := omega) only [gs, gs2, gs3, gs4, ↓reduceIte, Nat.reduceEqDiff, Int.reduceToNat, Nat.reduceMul, Nat.reduceAdd, Nat.reduceBEq, isLd, e1]) hB
  simp (maxSteps := 300000) (disch := omega) only [gs, gs2, gs3, gs4, ↓reduceIte, Nat.reduceEqDiff, Int.reduceToNat, Nat.reduceMul, Nat.reduceAdd, Nat.reduceBEq, isLd, eq_true gz, e5, k0, k1]
  by_cases gl : (0 : Int) < N.edges.length
  rotate_left
  · simp (maxSteps := 300000) (disch := omega) only [gs, gs2, gs3, gs4, ↓reduceIte, Nat.reduceEqDiff, Int.reduceToNat, Nat.reduceMul, Nat.reduceAdd, Nat.reduceBEq, isLd, gl]
    exact hX _ _ (by simp (maxSteps := 300000) (disch := omega) only [gs, gs2, gs3, gs4, ↓reduceIte, Nat.reduceEqDiff, Int.reduceToNat, Nat.reduceMul, Nat.reduceAdd, Nat.reduceBEq, isLd, e1]) hB
  have hn : GraOk N := Classical.byContradiction fun x => by
    have : (treesV N).2 = 1 := by unfold treesV; rw [if_neg x]
    omega
  obtain ⟨k, hk⟩ : ∃ k, N.edges.length = k + 1 := ⟨N.edges.length - 1, by omega⟩
  have hcap := hT.cap
  obtain ⟨D, E, F, g, u, v, t1, t2, hE, hF, hD, hDl, hcase⟩ := trees_law hn hk
  rw [t1] at e6
  have hw : IntKind.i64.wrap (((N.edges.length : Nat) : Int) - 1) = (k : Int) := by rw [w64 _ (by omega) (by omega)]; omega
  have hkl : (k : Int) < N.edges.length := by omega
  have r0 := hT.r0 k (by omega)
  have r1 := hT.r1 k (by omega)
  have r2 := hT.r2 k (by omega)
  have hsn := hT.sn (by omega)
  simp (maxSteps := 300000) (disch := omega) only [gs, gs2, gs3, gs4, ↓reduceIte, Nat.reduceEqDiff, Int.reduceToNat, Nat.reduceMul, Nat.reduceAdd, Nat.reduceBEq, isLd, gl, e5, k0, k1, hw, hkl, r0, r1, r2]
  intro b8 hb8
  simp (maxSteps := 300000) (disch := omega) only [gs, gs2, gs3, gs4, ↓reduceIte, Nat.reduceEqDiff, Int.reduceToNat, Nat.reduceMul, Nat.reduceAdd, Nat.reduceBEq, isLd]
  refine st_fresh (vs := c3 (N.edges.getD k z3)) rfl rfl rfl (c3_one _) ?_
  have s8 := Sub.put hb8 ⟨c3 (N.edges.getD k z3), true⟩
  have m0 : rd (put G b8 ⟨c3 (N.edges.getD k z3), true⟩) (some ⟨b8, 0, none⟩) = some (.int .i64 (N.edges.getD k z3).1) := rd_box _ _ _ 0 _ rfl
  have m1 : rd (put G b8 ⟨c3 (N.edges.getD k z3), true⟩) (some ⟨b8, 1, none⟩) = some (.int .i64 (N.edges.getD k z3).2.1) := rd_box _ _ _ 1 _ rfl
  have m2 : rd (put G b8 ⟨c3 (N.edges.getD k z3), true⟩) (some ⟨b8, 2, none⟩) = some (.int .i64 (N.edges.getD k z3).2.2) := rd_box _ _ _ 2 _ rfl
  have k0 := rd_sub s8 k0
  have k1 := rd_sub s8 k1
  have hT := hT.sub s8
  have hB := hB.sub s8
  revert m0 m1 m2 k0 k1 hT hB
  generalize put G b8 ⟨c3 (N.edges.getD k z3), true⟩ = H
  intro m0 m1 m2 k0 k1 hT hB
  clear s8 hb8 r0 r1 r2
  rw [hk] at k1
  simp only [HK_app, gL_some, gO_nil, SeqK_nrm, gW_seq, gW_dtree]
  refine tr_cut (es := N.edges) (n := N.n) (by simp (maxSteps := 300000) (disch := omega) only [gs, gs2, gs3, gs4, ↓reduceIte, Nat.reduceEqDiff, Int.reduceToNat, Nat.reduceMul, Nat.reduceAdd, Nat.reduceBEq, isLd, e5]) k0 k1 hT hk (by omega) fun T' G' b9 A9 c9 s9 hT' e9 q0 q1 hT9 => ?_
  have f1 : T' 1 = .slice A1 x1 c1 := (hT' 1 (by omega)).trans (by simp (maxSteps := 300000) (disch := omega) only [gs, gs2, gs3, gs4, ↓reduceIte, Nat.reduceEqDiff, Int.reduceToNat, Nat.reduceMul, Nat.reduceAdd, Nat.reduceBEq, isLd, e1])
  have f5 : T' 5 = .pointer (some ⟨b5, 0, none⟩) := (hT' 5 (by omega)).trans (by simp (maxSteps := 300000) (disch := omega) only [gs, gs2, gs3, gs4, ↓reduceIte, Nat.reduceEqDiff, Int.reduceToNat, Nat.reduceMul, Nat.reduceAdd, Nat.reduceBEq, isLd, e5])
  have f6 : T' 6 = .int .i64 D := (hT' 6 (by omega)).trans (by simp (maxSteps := 300000) (disch := omega) only [gs, gs2, gs3, gs4, ↓reduceIte, Nat.reduceEqDiff, Int.reduceToNat, Nat.reduceMul, Nat.reduceAdd, Nat.reduceBEq, isLd, e6])
  have f8 : T' 8 = .pointer (some ⟨b8, 0, none⟩) := (hT' 8 (by omega)).trans (by simp (maxSteps := 300000) (disch := omega) only [gs, gs2, gs3, gs4, ↓reduceIte, Nat.reduceEqDiff, Int.reduceToNat, Nat.reduceMul, Nat.reduceAdd, Nat.reduceBEq, isLd])
  have htl : (N.edges.take k).length = k := by rw [List.length_take]; omega
  have k0 := rd_sub s9 k0
  have k1 := rd_sub s9 k1
  have m0 := rd_sub s9 m0
  have m1 := rd_sub s9 m1
  have m2 := rd_sub s9 m2
  have hT := hT.sub s9
  have hB := hB.sub s9
  clear s9 hT' e1 e5 e6 e7
  rw [← htl] at q1
  rw [← hk] at k1
  simp (maxSteps := 300000) (disch := omega) only [gs, gs2, gs3, gs4, ↓reduceIte, Nat.reduceEqDiff, Int.reduceToNat, Nat.reduceMul, Nat.reduceAdd, Nat.reduceBEq, isLd, f1, f5, f6, f8, e9, q0, q1]
  refine impl_CountTrees_ok (N := ⟨N.n, N.edges.take k⟩) hT9 (by dsimp only; omega) ?_
  rw [t2]
  unfold pairV
  simp (maxSteps := 300000) (disch := omega) only [gs, gs2, gs3, gs4, ↓reduceIte, Nat.reduceEqDiff, Int.reduceToNat, Nat.reduceMul, Nat.reduceAdd, Nat.reduceBEq, isLd, f1, f5, f6, f8, e9, k0, k1, m0, m1]
  refine impl_ResistanceOf_ok (N := N) hT (by omega) ?_
  rcases hcase with ⟨hD0, ho⟩ | ⟨hD0, ho, hg, hu, hv, hFu, hDv⟩
  · rw [ho]
    have hwF : 0 ≤ (N.edges.getD k z3).2.2 * F := Int.mul_nonneg (by have := hn.2.1 k (by omega); unfold okEdge at this; omega) hF
    have l1 : (E < 0) = False := eq_false (by omega)
    have l2 : (D < E) = False := eq_false (by omega)
    have l3 : ((6 : Int) = 0) = False := eq_false (by decide)
    unfold tripV
    simp (maxSteps := 300000) (disch := omega) only [gs, gs2, gs3, gs4, ↓reduceIte, Nat.reduceEqDiff, Int.reduceToNat, Nat.reduceMul, Nat.reduceAdd, Nat.reduceBEq, isLd, f1, f5, f6, f8, e9, l1, l2, l3, eq_true hD0, eq_true (show (0 : Int) = 0 from rfl)]
    exact hX _ _ (by simp (maxSteps := 300000) (disch := omega) only [gs, gs2, gs3, gs4, ↓reduceIte, Nat.reduceEqDiff, Int.reduceToNat, Nat.reduceMul, Nat.reduceAdd, Nat.reduceBEq, isLd, f1]) hB
  · rw [ho]
    obtain ⟨o1, o2, o3, o4⟩ := hn.2.1 k (by omega)
    have hw0 : 0 ≤ (N.edges.getD k z3).2.2 * F := Int.mul_nonneg (by omega) hF
    have l1 : (E < 0) = False := eq_false (by omega)
    have l2 : (D < E) = False := eq_false (by omega)
    have l3 : (D = 0) = False := eq_false (by omega)
    have l4 : (v < 1) = False := eq_false (by omega)
    have l5 : (u < 1) = False := eq_false (by omega)
    have hrem : binV .rem (.int .i64 D) (.int .i64 v) = some (.int .i64 0) := by
      rw [bin_rem _ _ _ (by omega), Int.tmod_eq_emod_of_nonneg (by omega), hDv, Int.mul_emod_left]
    have hquo : binV .quo (.int .i64 D) (.int .i64 v) = some (.int .i64 g) := by
      rw [quo_ok ⟨by omega, by omega⟩ hv, hDv, Int.mul_ediv_cancel _ (by omega)]
    have hFD : F ≤ D := by
      have : 1 * F ≤ (N.edges.getD k z3).2.2 * F := Int.mul_le_mul_of_nonneg_right (by omega) hF
      omega
    have w1 : IntKind.i64.wrap (g * u) = F := by rw [← hFu]; exact w64 _ (by omega) (by omega)
    have w2 : IntKind.i64.wrap (F * (N.edges.getD k z3).2.2) = D - E := by
      rw [Int.mul_comm, w64 _ (by omega) (by omega)]; omega
    have w3 : IntKind.i64.wrap (D - E) = D - E := w64 _ (by omega) (by omega)
    unfold tripV
    simp (maxSteps := 300000) (disch := omega) only [gs, gs2, gs3, gs4, ↓reduceIte, Nat.reduceEqDiff, Int.reduceToNat, Nat.reduceMul, Nat.reduceAdd, Nat.reduceBEq, isLd, f1, f5, f6, f8, e9, l1, l2, l3, l4, l5, eq_true (show (0 : Int) = 0 from rfl), hrem, hquo, w1, w2, w3, m2, eq_true (show D - E = D - E from rfl)]
    exact hX _ _ (by simp (maxSteps := 300000) (disch := omega) only [gs, gs2, gs3, gs4, ↓reduceIte, Nat.reduceEqDiff, Int.reduceToNat, Nat.reduceMul, Nat.reduceAdd, Nat.reduceBEq, isLd, f1]) hB
theorem law_FnTrees {G : GH} {v0 v1 : Value} {x0 x1 : Nat} (h0 : BytesV G v0 x0) (h1 : BytesV G v1 x1) : GC Try.prog 21 [v0, v1] G fun v _ => v = .bool true := by
  refine c_laws_FnTrees_i (by simp) ?_
  refine tr_h (X := .seq trIf trRest) h0 h1 fun T' H N A1 Ap c1 cp b5 e1 hB e5 e6 e7 k0 k1 hT hl => ?_
  exact tr_if e1 hB e5 e6 e7 k0 k1 hT hl fun T2 G2 e1' hB' => tr_rest e1' hB'

end Go.Proofs.Ytmlkgpoakkgjbaa.Gh
