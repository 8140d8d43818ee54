/- Readings: lists of integers in memory; new lists; the rule of append. -/
import Derived.Test.YtnaoeggecibkmaaDoorFl
namespace Go.Proofs.YtnaoeggecibkmaaDoor.Gh
open Go Go.RowKit
set_option linter.unusedVariables false
set_option linter.unusedSimpArgs false

/-- the cells from A on are these. -/
def Cells (G : GH) (A : Option Addr) (cs : List Value) : Prop := ∀ (i : Nat) v, cs[i]? = some v → rd G (pa A i) = some v
def I64 (n : Int) : Value := .int .i64 n
/-- a slice of integers at A, of capacity c. -/
structure IntS (G : GH) (A : Option Addr) (c : Nat) (xs : List Int) : Prop where
  cap : xs.length ≤ c
  rd : ∀ i, i < xs.length → rd G (pa A i) = some (.int .i64 (xs.getD i 0))
theorem IntS.sn {G : GH} {A : Option Addr} {c : Nat} {xs : List Int} (h : IntS G A c xs) : 0 < xs.length → 0 < sn A := fun hl => by
  have := rd_some (h.rd 0 hl); rwa [sn_pa] at this
theorem IntS.sub {G G' : GH} {A : Option Addr} {c : Nat} {xs : List Int} (h : IntS G A c xs) (s : Sub G G') : IntS G' A c xs := ⟨h.cap, fun i hi => rd_sub s (h.rd i hi)⟩
theorem IntS.nil (G : GH) (A : Option Addr) (c : Nat) : IntS G A c [] := ⟨by simp, fun i hi => by simp at hi⟩

/-- G' is G and, where the list is not nil, one block more, which holds the list and is its alone. -/
def New (G G' : GH) (A : Option Addr) (c : Nat) (cs : List Value) (sz : Nat) (n : Nat) : Prop :=
  (A = none ∧ c = 0 ∧ n = 0 ∧ cs = [] ∧ G' = G) ∨
  ∃ b rest, A = some ⟨b, 0, none⟩ ∧ G b = none ∧ G' = put G b ⟨cs ++ rest, true⟩ ∧ cs.length = n * sz ∧ (cs ++ rest).length = c * sz ∧ n ≤ c
theorem New.sub {G G' : GH} {A : Option Addr} {c sz n : Nat} {cs : List Value} (h : New G G' A c cs sz n) : Sub G G' := by
  rcases h with ⟨_, _, _, _, rfl⟩ | ⟨b, rest, _, hb, rfl, _⟩
  · exact Sub.refl _
  · exact Sub.put hb _
theorem New.cells {G G' : GH} {A : Option Addr} {c sz n : Nat} {cs : List Value} (h : New G G' A c cs sz n) : Cells G' A cs := by
  rcases h with ⟨_, _, _, rfl, rfl⟩ | ⟨b, rest, rfl, hb, rfl, _⟩
  · intro i v hv; simp at hv
  · intro i v hv
    rw [pa_mk, rd_put]
    have hi : i < cs.length := (List.getElem?_eq_some_iff.1 hv).1
    rw [Nat.zero_add, List.getElem?_append_left hi]; exact hv
theorem New.cap {G G' : GH} {A : Option Addr} {c sz n : Nat} {cs : List Value} (h : New G G' A c cs sz n) : n ≤ c := by
  rcases h with ⟨_, rfl, rfl, _, _⟩ | ⟨b, rest, _, _, _, _, _, h⟩
  · simp
  · exact h
theorem New.len {G G' : GH} {A : Option Addr} {c sz n : Nat} {cs : List Value} (h : New G G' A c cs sz n) : cs.length = n * sz := by
  rcases h with ⟨_, rfl, rfl, rfl, _⟩ | ⟨b, rest, _, _, _, h, _⟩
  · simp
  · exact h
abbrev NewI (G G' : GH) (A : Option Addr) (c : Nat) (xs : List Int) : Prop := New G G' A c (xs.map I64) 1 xs.length
theorem cells_int' {G : GH} {A : Option Addr} {xs : List Int} (h : Cells G A (xs.map I64)) (i : Nat) (hi : i < xs.length) : rd G (pa A i) = some (.int .i64 (xs.getD i 0)) := by
  refine h i _ ?_
  simp [List.getD, hi, I64]
theorem New.ints {G G' : GH} {A : Option Addr} {c : Nat} {xs : List Int} (h : NewI G G' A c xs) : IntS G' A c xs := ⟨h.cap, cells_int' h.cells⟩
theorem New.nil (G : GH) (sz : Nat) : New G G none 0 [] sz 0 := .inl ⟨rfl, rfl, rfl, rfl, rfl⟩
theorem New.mk {G : GH} {b : Nat} (hb : G b = none) (cs : List Value) (sz n : Nat) (h : cs.length = n * sz) : New G (put G b ⟨cs, true⟩) (some ⟨b, 0, none⟩) n cs sz n :=
  .inr ⟨b, [], rfl, hb, by simp, h, by simp [h], Nat.le_refl _⟩

theorem over_app : ∀ (vs pre post : List Value), over (pre ++ post) pre.length vs = if vs.length ≤ post.length then pre ++ vs ++ post.drop vs.length else over (pre ++ post) pre.length vs := by
  intro vs pre post
  split
  · rename_i h
    have := over_mid vs pre (post.take vs.length) (post.drop vs.length) (by simp; omega)
    rw [List.take_append_drop] at this
    rw [this]; simp
  · rfl

/-- Append to a list that is new and the call's own: a list that is new and the call's own; what else was known of new memory is forgotten. -/
theorem ap_new {G G1 G2 : GH} {A B : Option Addr} {c n m d sz bytes : Nat} {z cs news : List Value} {K : Value → GH → Prop} (h : New G G1 A c cs sz n) (hs : Sub G1 G2) (hnews : Cells G2 B news) (hm : news.length = m * sz) (h1 : ∀ v ∈ news, oneB v = true)
    (hz : z.length = sz) (hsz : 0 < sz) (hb : bytes ≤ 4096) (hlen : n + m < 2 ^ 33) (hk : ∀ G' A' c', New G G' A' c' (cs ++ news) sz (n + m) → K (.slice A' (n + m) c') G') :
    gAp sz bytes z (.slice A n c) (.slice B m d) G2 K := by
  refine ⟨A, n, c, B, m, d, cs, news, rfl, rfl, h.len, fun j v hj => rd_sub hs (h.cells j v hj), hm, hnews, h1, ?_, by omega, fun hle => ?_, fun hlt b c' hb hc => ?_⟩
  · have : 2 * (n + m) * bytes ≤ 2 * 2 ^ 33 * 4096 := Nat.mul_le_mul (by omega) hb
    omega
  · rcases h with ⟨rfl, rfl, rfl, rfl, rfl⟩ | ⟨b, rest, rfl, hb, rfl, hcs, hrest, hnc⟩
    · obtain rfl : m = 0 := by omega
      have hn : news = [] := by simpa using hm
      subst hn
      exact .inl ⟨rfl, G1, hs, hk G1 none 0 (.inl ⟨rfl, rfl, rfl, rfl, rfl⟩)⟩
    · have hG2 : G2 b = some ⟨cs ++ rest, true⟩ := hs b _ (put_same _ _ _)
      have hfit : (n + m) * sz ≤ c * sz := Nat.mul_le_mul_right _ hle
      refine .inr ⟨b, 0, cs ++ rest, rfl, hG2, by rw [hrest]; omega, put G b ⟨cs ++ news ++ rest.drop news.length, true⟩, ?_, ?_⟩
      · have ho : over (cs ++ rest) (0 + n * sz) news = cs ++ news ++ rest.drop news.length := by
          have := over_app news cs rest
          rw [if_pos (by rw [List.length_append] at hrest; rw [Nat.add_mul] at hfit; omega)] at this
          rw [Nat.zero_add, ← hcs]; exact this
        rw [ho]
        intro x e hx
        unfold put at hx ⊢
        split at hx
        · rename_i hxb; rw [if_pos hxb]; exact hx
        · rename_i hxb; rw [if_neg hxb]; exact hs x e (by rw [put_ne _ _ hxb]; exact hx)
      · refine hk _ _ _ (.inr ⟨b, rest.drop news.length, rfl, hb, rfl, by simp [hcs, hm, Nat.add_mul], ?_, hle⟩)
        rw [List.length_append] at hrest
        simp only [List.length_append, List.length_drop]
        rw [Nat.add_mul] at hfit
        omega
  · refine ⟨put G b ⟨(cs ++ news) ++ zc z (c' - (n + m)), true⟩, ?_, ?_⟩
    · intro x e hx
      unfold put at hx ⊢
      split at hx
      · rename_i hxb; rw [if_pos hxb]; exact hx
      · rename_i hxb; rw [if_neg hxb]; exact hs x e (h.sub x e hx)
    · have hGb : G b = none := by
        cases hg : G b with
        | none => rfl
        | some e => have := hs b e (h.sub b e hg); rw [hb] at this; cases this
      have hcs := h.len
      refine hk _ _ _ (.inr ⟨b, zc z (c' - (n + m)), rfl, hGb, rfl, by simp [hcs, hm, Nat.add_mul], ?_, hc⟩)
      have e1 : (zc z (c' - (n + m))).length = (c' - (n + m)) * sz := by simp [zc, hz]
      rw [List.length_append, e1, List.length_append, hcs, hm, ← Nat.add_mul, ← Nat.add_mul]
      congr 1; omega

/-- The list that holds one element, laid for append. -/
theorem cells_one {G : GH} {b : Nat} (cs : List Value) (w : Bool) : Cells (put G b ⟨cs, w⟩) (some ⟨b, 0, none⟩) cs := fun i v hv => by
  rw [pa_mk, rd_put, Nat.zero_add]; exact hv

theorem GC_drop {P : Program} {f : FuncId} {args : List Value} {G : GH} {K : Value → GH → Prop} (h : GC P f args G (fun v G' => ∃ G'', Sub G'' G' ∧ K v G'')) : GC P f args G K := h.weak fun _ _ k => k
theorem put_none {G : GH} {b x : Nat} {e : Ent} : put G b e x = none ↔ x ≠ b ∧ G x = none := by
  unfold put; by_cases h : x = b <;> simp [h]
theorem Sub.skip {G G' : GH} {b : Nat} {e : Ent} (s : Sub G G') (h : G b = none) : Sub G (Gh.put G' b e) := fun x f hx => by
  rw [put_ne]
  · exact s x f hx
  · intro hxb; subst hxb; rw [h] at hx; cases hx
theorem Sub.both {G G' : GH} {b : Nat} {e : Ent} (s : Sub G G') : Sub (Gh.put G b e) (Gh.put G' b e) := fun x f hx => by
  unfold Gh.put at hx ⊢
  split at hx
  · rename_i h; rw [if_pos h]; exact hx
  · rename_i h; rw [if_neg h]; exact s x f hx

/-! ### triples of integers (edges, arcs) -/
abbrev T3 := Int × Int × Int
def z3 : T3 := (0, 0, 0)
def c3 (e : T3) : List Value := [.int .i64 e.1, .int .i64 e.2.1, .int .i64 e.2.2]
def V3 (e : T3) : Value := .agg (c3 e).toArray
def flat3 (es : List T3) : List Value := es.flatMap c3
structure T3S (G : GH) (A : Option Addr) (c : Nat) (es : List T3) : Prop where
  cap : es.length ≤ c
  r0 : ∀ i, i < es.length → rd G (pa A (i * 3)) = some (.int .i64 (es.getD i z3).1)
  r1 : ∀ i, i < es.length → rd G (pa A (i * 3 + 1)) = some (.int .i64 (es.getD i z3).2.1)
  r2 : ∀ i, i < es.length → rd G (pa A (i * 3 + 2)) = some (.int .i64 (es.getD i z3).2.2)
theorem T3S.sn {G : GH} {A : Option Addr} {c : Nat} {es : List T3} (h : T3S G A c es) : 0 < es.length → 0 < sn A := fun hl => by
  have := rd_some (h.r0 0 hl); rwa [sn_pa] at this
theorem T3S.sub {G G' : GH} {A : Option Addr} {c : Nat} {es : List T3} (h : T3S G A c es) (s : Sub G G') : T3S G' A c es := ⟨h.cap, fun i hi => rd_sub s (h.r0 i hi), fun i hi => rd_sub s (h.r1 i hi), fun i hi => rd_sub s (h.r2 i hi)⟩
theorem flat3_len (es : List T3) : (flat3 es).length = es.length * 3 := by
  induction es with
  | nil => rfl
  | cons e es ih => simp [flat3, c3] at ih ⊢; omega
theorem flat3_get : ∀ (es : List T3) (i : Nat), i < es.length → (flat3 es)[i * 3]? = some (.int .i64 (es.getD i z3).1) ∧ (flat3 es)[i * 3 + 1]? = some (.int .i64 (es.getD i z3).2.1) ∧ (flat3 es)[i * 3 + 2]? = some (.int .i64 (es.getD i z3).2.2)
  | [], i, h => by simp at h
  | e :: es, 0, _ => by simp [flat3, c3]
  | e :: es, i + 1, h => by
    have ih := flat3_get es i (by simpa using h)
    have e1 : flat3 (e :: es) = .int .i64 e.1 :: .int .i64 e.2.1 :: .int .i64 e.2.2 :: flat3 es := rfl
    rw [e1, show (i + 1) * 3 = i * 3 + 1 + 1 + 1 by omega]
    simpa using ih
theorem Cells.t3 {G : GH} {A : Option Addr} {c : Nat} {es : List T3} (h : Cells G A (flat3 es)) (hc : es.length ≤ c) : T3S G A c es :=
  ⟨hc, fun i hi => h _ _ (flat3_get es i hi).1, fun i hi => h _ _ (flat3_get es i hi).2.1, fun i hi => h _ _ (flat3_get es i hi).2.2⟩
theorem New.t3 {G G' : GH} {A : Option Addr} {c : Nat} {es : List T3} (h : New G G' A c (flat3 es) 3 es.length) : T3S G' A c es := h.cells.t3 h.cap
theorem zc_rep (v : Value) (m n : Nat) : zc (List.replicate m v) n = List.replicate (n * m) v := by
  apply List.ext_getElem
  · simp [zc]
  · intro i h1 h2
    simp only [zc, List.length_map, List.length_range, List.length_replicate] at h1
    have : i % m < m := Nat.mod_lt _ (by rcases Nat.eq_zero_or_pos m with h | h; · subst h; omega
                                         · exact h)
    simp [zc, List.getD, this]
theorem fill_set3 (es : List T3) (k : Nat) (hk : k < es.length) (v : Value) :
    over (flat3 (es.take k) ++ List.replicate ((es.length - k) * 3) v) (k * 3) (c3 (es.getD k z3)) = flat3 (es.take (k + 1)) ++ List.replicate ((es.length - (k + 1)) * 3) v := by
  have e1 : List.replicate ((es.length - k) * 3) v = List.replicate 3 v ++ List.replicate ((es.length - (k + 1)) * 3) v := by
    rw [List.replicate_append_replicate]; congr 1; omega
  have e2 : (flat3 (es.take k)).length = k * 3 := by rw [flat3_len]; simp; omega
  have e3 : flat3 (es.take (k + 1)) = flat3 (es.take k) ++ c3 (es.getD k z3) := by
    rw [List.take_succ_eq_append_getElem hk]; unfold flat3; rw [List.flatMap_append]; simp [List.getD, hk]
  rw [e1, ← e2, over_mid _ _ _ _ (by simp [c3]), e3, List.append_assoc]
theorem st_many {G : GH} {b o n : Nat} {cs vs : List Value} {x : Value} {K : Value → GH → Prop} (hx : x = .agg vs.toArray) (hb : G b = some ⟨cs, true⟩) (hn : vs.length = n) (ho : o + n ≤ cs.length) (h1 : ∀ v ∈ vs, oneB v = true)
    (hk : K undef (put G b ⟨over cs o vs, true⟩)) : gSt n (.pointer (some ⟨b, o, none⟩)) x G K := by
  subst hx
  exact ⟨b, o, cs, rfl, hb, by simp [Value.cells, hn], ho, h1, hk⟩
theorem c3_one (e : T3) : ∀ v ∈ c3 e, oneB v = true := by intro v hv; simp [c3] at hv; rcases hv with rfl | rfl | rfl <;> rfl
theorem t3_eq_iff {xs ys : List T3} (h : xs.length = ys.length) : xs = ys ↔ ∀ i, i < xs.length → xs.getD i z3 = ys.getD i z3 := by
  constructor
  · rintro rfl i _; rfl
  · intro k
    apply List.ext_getElem h
    intro i h1 h2
    have := k i h1
    simpa [List.getD, h1, h2] using this

/-! networks and graphs -/
structure Net where
  n : Int
  s : Int
  t : Int
  arcs : List T3
def netC (N : Net) (A : Option Addr) (c : Nat) : List Value := [.int .i64 N.n, .int .i64 N.s, .int .i64 N.t, .slice A N.arcs.length c]
def netV (N : Net) (A : Option Addr) (c : Nat) : Value := .agg (netC N A c).toArray
structure Gra where
  n : Int
  edges : List T3
def graC (g : Gra) (A : Option Addr) (c : Nat) : List Value := [.int .i64 g.n, .slice A g.edges.length c]
def graV (g : Gra) (A : Option Addr) (c : Nat) : Value := .agg (graC g A c).toArray

theorem rd_box (G : GH) (b : Nat) (cs : List Value) (o : Nat) (v : Value) (h : cs[o]? = some v) : rd (put G b ⟨cs, true⟩) (some ⟨b, o, none⟩) = some v := by rw [rd_put, h]
theorem put_put' (G : GH) (b : Nat) (e f : Ent) : put (put G b e) b f = put G b f := by
  funext x; unfold put; by_cases h : x = b <;> simp [h]
theorem st_fresh {G : GH} {b n : Nat} {zs vs : List Value} {x : Value} {K : Value → GH → Prop} (hx : x = .agg vs.toArray) (hz : zs.length = vs.length) (hn : vs.length = n) (h1 : ∀ v ∈ vs, oneB v = true) (hk : K undef (put G b ⟨vs, true⟩)) :
    gSt n (.pointer (some ⟨b, 0, none⟩)) x (put G b ⟨zs, true⟩) K :=
  st_many hx (put_same _ _ _) hn (by omega) h1 (by rw [put_put', show over zs 0 vs = vs from over_all vs [] zs hz.symm]; exact hk)

/-! what is new in a heap; two heaps laid together -/
def rest (G G' : GH) : GH := fun x => match G x with | none => G' x | some _ => none
def join (G R : GH) : GH := fun x => match G x with | some e => some e | none => R x
theorem rest_some {G G' : GH} {x : Nat} {e : Ent} : rest G G' x = some e ↔ G x = none ∧ G' x = some e := by
  unfold rest; cases h : G x <;> simp
theorem Sub.rest (G G' : GH) : Sub (Gh.rest G G') G' := fun x e h => (rest_some.1 h).2
theorem Sub.joinL (G R : GH) : Sub G (join G R) := fun x e h => by simp [join, h]
theorem Sub.join {G R H : GH} (h1 : Sub G H) (h2 : Sub R H) : Sub (Gh.join G R) H := fun x e h => by
  unfold Gh.join at h
  cases hg : G x with
  | some e' => rw [hg] at h; cases h; exact h1 x _ hg
  | none => rw [hg] at h; exact h2 x e h
theorem Sub.rest_join {G G0 G' : GH} (h : Sub G0 G) : Sub (Gh.rest G G') (Gh.rest G0 (Gh.join G0 (Gh.rest G G'))) := fun x e hx => by
  have h1 := rest_some.1 hx
  have h0 : G0 x = none := by
    cases hg : G0 x with
    | none => rfl
    | some e' => rw [h x _ hg] at h1; cases h1.1
  exact rest_some.2 ⟨h0, by simp [Gh.join, h0, hx]⟩
theorem Sub.rest_put {G G' : GH} {b : Nat} {e : Ent} (h : G b ≠ none) : Sub (Gh.rest G G') (Gh.put G' b e) := fun x f hx => by
  have h1 := rest_some.1 hx
  rw [put_ne]
  · exact h1.2
  · rintro rfl; exact h h1.1
theorem Sub.of_put {G H : GH} {b : Nat} {e : Ent} (h : Sub G H) (hb : H b = some e) : Sub (Gh.put G b e) H := fun x f hx => by
  by_cases hxb : x = b
  · subst hxb; rw [put_same] at hx; cases hx; exact hb
  · rw [put_ne _ _ hxb] at hx; exact h x f hx
theorem Sub.none {G H : GH} (h : Sub G H) {b : Nat} (hb : H b = none) : G b = none := by
  cases hg : G b with
  | none => rfl
  | some e => rw [h b e hg] at hb; cases hb
theorem Sub.rest_mono {G G' H : GH} (h : Sub G' H) : Sub (Gh.rest G G') (Gh.rest G H) := fun x e hx => by
  have h1 := rest_some.1 hx
  exact rest_some.2 ⟨h1.1, h x e h1.2⟩
theorem Sub.rest_anti {G G0 G' : GH} (h : Sub G0 G) : Sub (Gh.rest G G') (Gh.rest G0 G') := fun x e hx => by
  have h1 := rest_some.1 hx
  exact rest_some.2 ⟨h.none h1.1, h1.2⟩

/-! lists of lists, tables -/
structure RowS (G : GH) (A : Option Addr) (c : Nat) (hs : Nat → Option Addr × Nat) (xss : List (List Int)) : Prop where
  cap : xss.length ≤ c
  r : ∀ i, i < xss.length → rd G (pa A i) = some (.slice (hs i).1 (xss.getD i []).length (hs i).2)
  row : ∀ i, i < xss.length → IntS G (hs i).1 (hs i).2 (xss.getD i [])
theorem RowS.sn {G : GH} {A : Option Addr} {c : Nat} {hs : Nat → Option Addr × Nat} {xss : List (List Int)} (h : RowS G A c hs xss) : 0 < xss.length → 0 < sn A := fun hl => by
  have := h.r 0 hl
  rw [pa_zero] at this
  exact rd_some this
theorem RowS.sub {G G' : GH} {A : Option Addr} {c : Nat} {hs : Nat → Option Addr × Nat} {xss : List (List Int)} (h : RowS G A c hs xss) (s : Sub G G') : RowS G' A c hs xss :=
  ⟨h.cap, fun i hi => rd_sub s (h.r i hi), fun i hi => (h.row i hi).sub s⟩
def Sm (xss : List (List Int)) : Prop := xss.length ≤ 2 ^ 20 ∧ ∀ i, i < xss.length → (xss.getD i []).length ≤ 2 ^ 20
structure Tab where
  cols : List Int
  rows : List (List Int)
def tabC (t : Tab) (A : Option Addr) (c : Nat) (B : Option Addr) (d : Nat) : List Value := [.slice A t.cols.length c, .slice B t.rows.length d]
def tabV (t : Tab) (A : Option Addr) (c : Nat) (B : Option Addr) (d : Nat) : Value := .agg (tabC t A c B d).toArray
theorem blk_ints {G : GH} {b : Nat} {xs : List Int} {w : Bool} (h : G b = some ⟨xs.map I64, w⟩) : IntS G (some ⟨b, 0, none⟩) xs.length xs :=
  ⟨Nat.le_refl _, fun i hi => by simp [pa_mk, rd, h, List.getD, hi, I64]⟩
theorem rows_eq_iff {xs ys : List (List Int)} (h : xs.length = ys.length) : xs = ys ↔ ∀ i, i < xs.length → xs.getD i [] = ys.getD i [] := by
  constructor
  · rintro rfl i _; rfl
  · intro k
    apply List.ext_getElem h
    intro i h1 h2
    have := k i h1
    simpa [List.getD, h1, h2] using this

/-! ranges -/
theorem range_set {α : Type} (n i : Nat) (f : Nat → α) (x : α) : ((List.range n).map f).set i x = (List.range n).map fun v => if v = i then x else f v := by
  apply List.ext_getElem
  · simp
  · intro j h1 h2
    simp only [List.getElem_set, List.getElem_map, List.getElem_range]
    by_cases h : i = j
    · rw [if_pos h, if_pos h.symm]
    · rw [if_neg h, if_neg (fun e => h e.symm)]
theorem range_get {α : Type} (n : Nat) (f : Nat → α) (i : Nat) (h : i < n) : ((List.range n).map f)[i]? = some (f i) := by simp [h]
theorem range_cong {α : Type} {n : Nat} {f g : Nat → α} (h : ∀ i, i < n → f i = g i) : (List.range n).map f = (List.range n).map g :=
  List.map_congr_left fun i hi => h i (List.mem_range.1 hi)
theorem rep_range {α : Type} (n : Nat) (x : α) : List.replicate n x = (List.range n).map fun _ => x := by
  apply List.ext_getElem
  · simp
  · intro j h1 h2; simp

/-! lists of tables -/
structure TH where
  A : Option Addr
  c : Nat
  B : Option Addr
  d : Nat
  hs : Nat → Option Addr × Nat
def t0 : Tab := ⟨[], []⟩
structure TabsS (G : GH) (A : Option Addr) (c : Nat) (H : Nat → TH) (ts : List Tab) : Prop where
  cap : ts.length ≤ c
  r0 : ∀ i, i < ts.length → rd G (pa A (i * 2)) = some (.slice (H i).A (ts.getD i t0).cols.length (H i).c)
  r1 : ∀ i, i < ts.length → rd G (pa A (i * 2 + 1)) = some (.slice (H i).B (ts.getD i t0).rows.length (H i).d)
  cols : ∀ i, i < ts.length → IntS G (H i).A (H i).c (ts.getD i t0).cols
  rows : ∀ i, i < ts.length → RowS G (H i).B (H i).d (H i).hs (ts.getD i t0).rows
theorem TabsS.sn {G : GH} {A : Option Addr} {c : Nat} {H : Nat → TH} {ts : List Tab} (h : TabsS G A c H ts) : 0 < ts.length → 0 < sn A := fun hl => by
  have := h.r0 0 hl
  rw [Nat.zero_mul, pa_zero] at this
  exact rd_some this
theorem TabsS.sub {G G' : GH} {A : Option Addr} {c : Nat} {H : Nat → TH} {ts : List Tab} (h : TabsS G A c H ts) (s : Sub G G') : TabsS G' A c H ts :=
  ⟨h.cap, fun i hi => rd_sub s (h.r0 i hi), fun i hi => rd_sub s (h.r1 i hi), fun i hi => (h.cols i hi).sub s, fun i hi => (h.rows i hi).sub s⟩
def TabSm (t : Tab) : Prop := t.cols.length ≤ 2 ^ 20 ∧ Sm t.rows
def TabsSm (ts : List Tab) : Prop := ts.length ≤ 2 ^ 20 ∧ ∀ i, i < ts.length → TabSm (ts.getD i t0)
def TabM (t : Tab) : Prop := t.cols.length ≤ 2 ^ 63 - 1 ∧ t.rows.length ≤ 2 ^ 63 - 1 ∧ ∀ i, i < t.rows.length → (t.rows.getD i []).length ≤ 2 ^ 63 - 1
theorem Sub.rest_dom {G G0 G' : GH} (h : ∀ x, G x = Option.none → G0 x = Option.none) : Sub (Gh.rest G G') (Gh.rest G0 G') := fun x e hx => by
  have h1 := rest_some.1 hx
  exact rest_some.2 ⟨h x h1.1, h1.2⟩
theorem Sub.rest_put' {G G' : GH} {b : Nat} {e : Ent} (h : G b ≠ Option.none) : Sub (Gh.rest G G') (Gh.rest G (Gh.put G' b e)) := fun x f hx => by
  have h1 := rest_some.1 hx
  exact rest_some.2 ⟨h1.1, by rw [put_ne]; exact h1.2; rintro rfl; exact h h1.1⟩
theorem tabs_eq_iff {xs ys : List Tab} (h : xs.length = ys.length) : xs = ys ↔ ∀ i, i < xs.length → xs.getD i t0 = ys.getD i t0 := by
  constructor
  · rintro rfl i _; rfl
  · intro k
    apply List.ext_getElem h
    intro i h1 h2
    have := k i h1
    simpa [List.getD, h1, h2] using this

/-! memory that is the call's own, and what is written to it -/
def Own (G : GH) (A : Option Addr) (c : Nat) (cs : List Value) (sz n : Nat) : Prop :=
  (A = none ∧ c = 0 ∧ n = 0 ∧ cs = []) ∨ ∃ b rest, A = some ⟨b, 0, none⟩ ∧ G b = some ⟨cs ++ rest, true⟩ ∧ cs.length = n * sz ∧ (cs ++ rest).length = c * sz ∧ n ≤ c
theorem Own.sub {G G' : GH} {A : Option Addr} {c sz n : Nat} {cs : List Value} (h : Own G A c cs sz n) (s : Sub G G') : Own G' A c cs sz n := by
  rcases h with h | ⟨b, rest, h1, h2, h3⟩
  · exact .inl h
  · exact .inr ⟨b, rest, h1, s b _ h2, h3⟩
theorem New.own {G G' : GH} {A : Option Addr} {c sz n : Nat} {cs : List Value} (h : New G G' A c cs sz n) : Own (rest G G') A c cs sz n := by
  rcases h with ⟨h1, h2, h3, h4, _⟩ | ⟨b, r, h1, h2, rfl, h3⟩
  · exact .inl ⟨h1, h2, h3, h4⟩
  · exact .inr ⟨b, r, h1, rest_some.2 ⟨h2, put_same _ _ _⟩, h3⟩
theorem Own.cells {G : GH} {A : Option Addr} {c sz n : Nat} {cs : List Value} (h : Own G A c cs sz n) : Cells G A cs := by
  rcases h with ⟨_, _, _, rfl⟩ | ⟨b, r, rfl, h2, _⟩
  · intro i v hv; simp at hv
  · intro i v hv
    have hi : i < cs.length := (List.getElem?_eq_some_iff.1 hv).1
    simp only [pa_mk, rd, h2, Option.bind_some]
    rw [Nat.zero_add, List.getElem?_append_left hi]; exact hv
theorem Own.cap {G : GH} {A : Option Addr} {c sz n : Nat} {cs : List Value} (h : Own G A c cs sz n) : n ≤ c := by
  rcases h with ⟨_, rfl, rfl, _⟩ | ⟨b, r, _, _, _, _, h⟩
  · simp
  · exact h
theorem Own.ints {G : GH} {A : Option Addr} {c : Nat} {xs : List Int} (h : Own G A c (xs.map I64) 1 xs.length) : IntS G A c xs := ⟨h.cap, cells_int' h.cells⟩
/-- G' is G, written to the block of A. -/
def Upd (G G' : GH) (A : Option Addr) : Prop := G' = G ∨ ∃ b e, A = some ⟨b, 0, none⟩ ∧ G b ≠ none ∧ G' = put G b e
/-- the block of A is not in H. -/
def Off (H : GH) (A : Option Addr) : Prop := ∀ a, A = some a → H a.block = none
theorem Upd.sub {G G' H : GH} {A : Option Addr} (u : Upd G G' A) (s : Sub H G) (o : Off H A) : Sub H G' := by
  rcases u with rfl | ⟨b, e, rfl, _, rfl⟩
  · exact s
  · exact s.skip (o _ rfl)
theorem Off.mono {H H' : GH} {A : Option Addr} (o : Off H' A) (s : Sub H H') : Off H A := fun a ha => s.none (o a ha)
theorem Off.rest {G G' : GH} {A : Option Addr} (h : ∀ a, A = some a → G a.block ≠ none) : Off (Gh.rest G G') A := fun a ha => by
  cases hr : Gh.rest G G' a.block with
  | none => rfl
  | some e => exact absurd (rest_some.1 hr).1 (h a ha)
theorem New.off {G G' : GH} {A : Option Addr} {c sz n : Nat} {cs : List Value} (h : New G G' A c cs sz n) : Off G A := fun a ha => by
  rcases h with ⟨h1, _⟩ | ⟨b, r, h1, h2, _⟩
  · rw [h1] at ha; cases ha
  · rw [h1] at ha; cases ha; exact h2
theorem Upd.drop {G G' : GH} {A : Option Addr} {b : Nat} {e : Ent} (hb : G b = none) (hA : ∀ a, A = some a → G a.block ≠ none) (u : Upd (put G b e) G' A) : ∃ G'', Sub G'' G' ∧ Upd G G'' A := by
  rcases u with rfl | ⟨b', e', rfl, _, rfl⟩
  · exact ⟨G, Sub.put hb _, .inl rfl⟩
  · exact ⟨put G b' e', Sub.both ((Sub.refl G).skip hb), .inr ⟨b', e', rfl, hA _ rfl, rfl⟩⟩
def marks (k : Int) (n : Nat) : List Int := (List.range n).map fun i : Nat => k + (i : Int)
theorem marks_len (k : Int) (n : Nat) : (marks k n).length = n := by simp [marks]
theorem marks_get (k : Int) (n i : Nat) (h : i < n) : (marks k n).getD i 0 = k + i := by simp [marks, List.getD, h]

end Go.Proofs.YtnaoeggecibkmaaDoor.Gh
