/- From a contract of a law to what its row asks. -/
import Derived.Test.YtnaoeggecibkmaaDoorFm
import Derived.WalkKit
import Derived.ProofKit
import Derived.OpenShut
import Derived.ShutString
import Derived.ChangeOld
import Derived.SizedLaws
namespace Go.Proofs.YtnaoeggecibkmaaDoor.Gh
open Go Go.RowKit Go.WideShapes
set_option linter.unusedVariables false
set_option linter.unusedSimpArgs false

/-- All that lies in memory at the start, none of it the call's own. -/
def G0 (W : World) : GH := fun b => match W.heap[b]? with | some (.cells c _ _) => some ⟨c.toList, false⟩ | _ => none
theorem G0_holds (W : World) : Holds W W (G0 W) := by
  refine ⟨Below.refl _ _, fun b e hb => ?_, fun _ => Nat.le_refl _⟩
  unfold G0 at hb
  split at hb
  · rename_i c el fz hw; cases hb; exact ⟨el, fz, by simpa using hw, fun h => (by cases h), fun _ h => (by cases h)⟩
  · cases hb
theorem G0_rd {W : World} {a : Addr} {v : Value} (h : W.cell? a = some v) : rd (G0 W) (some a) = some v := by
  obtain ⟨b, o, s⟩ := a
  unfold World.cell? at h
  split at h
  · rename_i c el fz hw
    cases s with
    | some s => simp at h
    | none => simp only [rd, G0, hw, Option.bind_some]; simpa using h
  · cases h

theorem law_calls {P : Program} {f : FuncId} {args : List Value} {W : World} (h : GC P f args (G0 W) (fun v _ => v = .bool true)) :
    Calls P f args.toArray W fun e W' => e = .returned (.bool true) ∧ Below W.heap.size W W' :=
  (h.2 W W (G0_holds W)).mono fun e W' ⟨v, G', he, hk, hh⟩ => ⟨by rw [he, hk], hh.below⟩

/-! ### what came in, opened -/
variable {H : Type} {enc : TypeId × Value → H} {P : Program} {W : World}

theorem choose_list {α : Type} (d : α) {p : Nat → α → Prop} : ∀ (n : Nat), (∀ i, i < n → ∃ x, p i x) → ∃ xs : List α, xs.length = n ∧ ∀ i, i < n → p i (xs.getD i d)
  | 0, _ => ⟨[], rfl, fun i hi => absurd hi (Nat.not_lt_zero _)⟩
  | n + 1, h => by
    obtain ⟨xs, hl, hp⟩ := choose_list d n (fun i hi => h i (by omega))
    obtain ⟨x, hx⟩ := h n (by omega)
    refine ⟨xs ++ [x], by simp [hl], fun i hi => ?_⟩
    by_cases hin : i = n
    · subst hin; simp [List.getD, ← hl]; rw [hl]; exact hx
    · have := hp i (by omega)
      rwa [show (xs ++ [x]).getD i d = xs.getD i d by simp only [List.getD]; rw [List.getElem?_append_left (by omega)]]

theorem cells_range {w : World} {a : Addr} : ∀ (n k : Nat) (cs : List Value), (List.range' k n).mapM (fun i => w.cell? (a.add i)) = some cs → cs.length = n ∧ ∀ (j : Nat) v, cs[j]? = some v → w.cell? (a.add (k + j)) = some v
  | 0, k, cs, h => by simp at h; subst h; simp
  | n + 1, k, cs, h => by
    simp only [List.range'_succ, List.mapM_cons, Option.bind_eq_bind, Option.pure_def] at h
    obtain ⟨v, hv, h⟩ := Option.bind_eq_some_iff.1 h
    obtain ⟨r, hr, h⟩ := Option.bind_eq_some_iff.1 h
    cases h
    obtain ⟨h1, h2⟩ := cells_range n (k + 1) r hr
    refine ⟨by simp [h1], fun j u hj => ?_⟩
    cases j with
    | zero => simp at hj; subst hj; simpa using hv
    | succ j => simp at hj; have := h2 j u hj; rwa [show k + 1 + j = k + (j + 1) by omega] at this

theorem trod_sl {t e : TypeId} (ht : P.underlying t = some (.slice e)) {fuel : Nat} {A : Option Addr} {n c : Nat} {x : DataW H × List MemPlace} (h : DataW.trod enc P W 0 (fun _ => true) true fuel t [.slice A n c] = some x) :
    n ≤ c ∧ c ≤ 2 ^ 63 - 1 ∧ ∀ i, i < n → ∃ cs fuel' x', cs.length = P.cellsOf e ∧ (∀ (j : Nat) v, cs[j]? = some v → rd (G0 W) (pa A (i * P.cellsOf e + j)) = some v) ∧ DataW.trod enc P W 0 (fun _ => true) true fuel' e cs = some x' := by
  rcases DataW.trod_slice ht h with ⟨h0, _⟩ | ⟨a, len, cap, elems, rest, m, _, h0, _, _, hle, hmx, hel, hx, _, _⟩
  · cases h0; exact ⟨Nat.le_refl _, by omega, fun i hi => absurd hi (Nat.not_lt_zero _)⟩
  · cases h0
    refine ⟨hle, hmx, fun i hi => ?_⟩
    have := hx i hi
    have hi' : i < elems.length := by omega
    rw [List.getElem?_eq_getElem hi'] at this
    obtain ⟨cs, hcs, htr⟩ := Option.bind_eq_some_iff.1 this
    unfold World.cells? at hcs
    split at hcs
    · rw [List.range_eq_range'] at hcs
      obtain ⟨h1, h2⟩ := cells_range _ 0 cs hcs
      refine ⟨cs, m, _, h1, fun j v hj => ?_, htr⟩
      have := h2 j v hj
      rw [Nat.zero_add, add_add'] at this
      exact G0_rd this
    · cases hcs

theorem trod_i64 {t : TypeId} (ht : P.underlying t = some (.int .i64)) {fuel : Nat} {cs : List Value} {x : DataW H × List MemPlace} (h : DataW.trod enc P W 0 (fun _ => true) true fuel t cs = some x) :
    ∃ n : Int, cs = [.int .i64 n] ∧ -9223372036854775808 ≤ n ∧ n ≤ 9223372036854775807 := by
  obtain ⟨n, rfl, _, hwf⟩ := DataW.trod_int ht h
  refine ⟨n, rfl, ?_⟩
  simp only [Lit.wf, Bool.and_eq_true, decide_eq_true_eq, IntKind.min, IntKind.max, IntKind.signed, IntKind.bits] at hwf
  simpa using hwf

/-- a slice of integers that came in. -/
def R64 (n : Int) : Prop := -9223372036854775808 ≤ n ∧ n ≤ 9223372036854775807
def IntsV (G : GH) (v : Value) (xs : List Int) : Prop := ∃ A c, v = .slice A xs.length c ∧ IntS G A c xs ∧ (∀ x ∈ xs, R64 x) ∧ xs.length ≤ 2 ^ 63 - 1
def IntV (G : GH) (v : Value) (n : Int) : Prop := v = .int .i64 n ∧ R64 n

theorem trod_ints {t e : TypeId} (ht : P.underlying t = some (.slice e)) (he : P.underlying e = some (.int .i64)) (hs : P.cellsOf e = 1) {fuel : Nat} {A : Option Addr} {n c : Nat} {x : DataW H × List MemPlace}
    (h : DataW.trod enc P W 0 (fun _ => true) true fuel t [.slice A n c] = some x) : ∃ xs, IntsV (G0 W) (.slice A n c) xs := by
  obtain ⟨hc, hc2, hx⟩ := trod_sl ht h
  rw [hs] at hx
  obtain ⟨xs, hl, hp⟩ := choose_list (0 : Int) (p := fun i x => rd (G0 W) (pa A i) = some (.int .i64 x) ∧ R64 x) n (fun i hi => by
    obtain ⟨cs, f', x', h1, h2, h3⟩ := hx i hi
    obtain ⟨m, rfl, hm⟩ := trod_i64 he h3
    exact ⟨m, by simpa using h2 0 _ rfl, hm⟩)
  subst hl
  exact ⟨xs, A, c, rfl, ⟨hc, fun i hi => (hp i hi).1⟩, fun x hx => by
   obtain ⟨i, hi, rfl⟩ := List.getElem_of_mem hx
   have := (hp i hi).2
   simpa [List.getD, hi] using this, by omega⟩

theorem open_ints' {t e : TypeId} (ht : P.underlying t = some (.slice e)) (he : P.underlying e = some (.int .i64)) (hs : P.cellsOf e = 1) {v : Value} {d : DataW H} {ps : List MemPlace} {r : Reach} {base : Nat}
    (hv : Value.okWide P W r base t v) (h : DataW.Trod enc P W 0 (fun _ => true) true t v d ps) : ∃ xs, IntsV (G0 W) v xs := by
  obtain ⟨A, n, c, rfl⟩ := okWide_slice ht hv
  obtain ⟨fuel, hf⟩ := h
  exact trod_ints ht he hs hf

/-! ### structs that came in -/
theorem take_one {α : Type} {l : List α} {o : Nat} {v : α} (h : (l.drop o).take 1 = [v]) : l[o]? = some v := by
  have : ((l.drop o).take 1)[0]? = some v := by rw [h]; rfl
  simpa using this
theorem trod_fld {t : TypeId} {fs : Array Field} {L : List (Nat × TypeId)} (ht : P.underlying t = some (.struct fs)) (hL : fs.toList.map (fun f => (f.offset, f.type)) = L) {fuel : Nat} {cs : List Value} {x : DataW H × List MemPlace}
    (h : DataW.trod enc P W 0 (fun _ => true) true fuel t cs = some x) (i : Nat) {o : Nat} {e : TypeId} (hi : L[i]? = some (o, e)) : ∃ m x', DataW.trod enc P W 0 (fun _ => true) true m e ((cs.drop o).take (P.cellsOf e)) = some x' := by
  obtain ⟨xs, n, _, _, _, hlen, hf⟩ := DataW.trod_struct ht h
  subst hL
  rw [List.getElem?_map] at hi
  obtain ⟨f, hfi, he⟩ := Option.map_eq_some_iff.1 hi
  cases he
  have h1 := hf i f (by simpa using hfi)
  have hi' : i < xs.length := by
    rw [hlen]
    have := (List.getElem?_eq_some_iff.1 hfi).1
    simpa using this
  exact ⟨n, xs[i], by rw [h1, List.getElem?_eq_getElem hi']⟩
theorem trod_fld_i64 {t : TypeId} {fs : Array Field} {L : List (Nat × TypeId)} (ht : P.underlying t = some (.struct fs)) (hL : fs.toList.map (fun f => (f.offset, f.type)) = L) {fuel : Nat} {cs : List Value} {x : DataW H × List MemPlace}
    (h : DataW.trod enc P W 0 (fun _ => true) true fuel t cs = some x) (i : Nat) {o : Nat} {e : TypeId} (hi : L[i]? = some (o, e)) (he : P.underlying e = some (.int .i64)) (hc : P.cellsOf e = 1) : ∃ n : Int, cs[o]? = some (.int .i64 n) ∧ R64 n := by
  obtain ⟨m, x', hx⟩ := trod_fld ht hL h i hi
  rw [hc] at hx
  obtain ⟨n, h1, h2⟩ := trod_i64 he hx
  exact ⟨n, take_one h1, h2⟩
theorem trod_fld_sl {t : TypeId} {fs : Array Field} {L : List (Nat × TypeId)} (ht : P.underlying t = some (.struct fs)) (hL : fs.toList.map (fun f => (f.offset, f.type)) = L) {fuel : Nat} {cs : List Value} {x : DataW H × List MemPlace}
    (h : DataW.trod enc P W 0 (fun _ => true) true fuel t cs = some x) (i : Nat) {o : Nat} {e s : TypeId} (hi : L[i]? = some (o, s)) (he : P.underlying s = some (.slice e)) (hc : P.cellsOf s = 1) :
    ∃ A n c m x', cs[o]? = some (.slice A n c) ∧ DataW.trod enc P W 0 (fun _ => true) true m s [.slice A n c] = some x' := by
  obtain ⟨m, x', hx⟩ := trod_fld ht hL h i hi
  rw [hc] at hx
  rcases DataW.trod_slice he hx with ⟨h0, _⟩ | ⟨a, len, cap, elems, rest, m', _, h0, _⟩
  · rw [h0] at hx; exact ⟨_, _, _, m, x', take_one h0, hx⟩
  · rw [h0] at hx; exact ⟨_, _, _, m, x', take_one h0, hx⟩
theorem trod_clen {t : TypeId} {fs : Array Field} (ht : P.underlying t = some (.struct fs)) {fuel : Nat} {cs : List Value} {x : DataW H × List MemPlace} (h : DataW.trod enc P W 0 (fun _ => true) true fuel t cs = some x) : cs.length = P.cellsOf t := by
  obtain ⟨xs, n, _, _, hl, _⟩ := DataW.trod_struct ht h
  exact hl
theorem list_three {α : Type} {l : List α} {a b c : α} (h : l.length = 3) (h0 : l[0]? = some a) (h1 : l[1]? = some b) (h2 : l[2]? = some c) : l = [a, b, c] := by
  match l, h with
  | [x, y, z], _ => simp at h0 h1 h2; simp [h0, h1, h2]
theorem list_two {α : Type} {l : List α} {a b : α} (h : l.length = 2) (h0 : l[0]? = some a) (h1 : l[1]? = some b) : l = [a, b] := by
  match l, h with
  | [x, y], _ => simp at h0 h1; simp [h0, h1]
theorem list_four {α : Type} {l : List α} {a b c d : α} (h : l.length = 4) (h0 : l[0]? = some a) (h1 : l[1]? = some b) (h2 : l[2]? = some c) (h3 : l[3]? = some d) : l = [a, b, c, d] := by
  match l, h with
  | [x, y, z, w], _ => simp at h0 h1 h2 h3; simp [h0, h1, h2, h3]

/-! #### slices of triples, networks, graphs -/
def R3 (e : T3) : Prop := R64 e.1 ∧ R64 e.2.1 ∧ R64 e.2.2
def T3sV (G : GH) (v : Value) (xs : List T3) : Prop := ∃ A c, v = .slice A xs.length c ∧ T3S G A c xs ∧ (∀ x ∈ xs, R3 x) ∧ xs.length ≤ 2 ^ 63 - 1
theorem trod_t3s {s e i : TypeId} {es : Array Field} (hs : P.underlying s = some (.slice e)) (he : P.underlying e = some (.struct es)) (hi : P.underlying i = some (.int .i64)) (hL : es.toList.map (fun f => (f.offset, f.type)) = [(0, i), (1, i), (2, i)])
    (hce : P.cellsOf e = 3) (hci : P.cellsOf i = 1) {fuel : Nat} {A : Option Addr} {n c : Nat} {x : DataW H × List MemPlace} (h : DataW.trod enc P W 0 (fun _ => true) true fuel s [.slice A n c] = some x) : ∃ xs, T3sV (G0 W) (.slice A n c) xs := by
  obtain ⟨hc, hc2, hx⟩ := trod_sl hs h
  rw [hce] at hx
  obtain ⟨xs, hl, hp⟩ := choose_list z3 (p := fun i x => (rd (G0 W) (pa A (i * 3)) = some (.int .i64 x.1) ∧ rd (G0 W) (pa A (i * 3 + 1)) = some (.int .i64 x.2.1) ∧ rd (G0 W) (pa A (i * 3 + 2)) = some (.int .i64 x.2.2)) ∧ R3 x) n (fun j hj => by
    obtain ⟨cs, f', x', h1, h2, h3⟩ := hx j hj
    obtain ⟨a, e0, r0⟩ := trod_fld_i64 he hL h3 0 rfl hi hci
    obtain ⟨b, e1, r1⟩ := trod_fld_i64 he hL h3 1 rfl hi hci
    obtain ⟨d, e2, r2⟩ := trod_fld_i64 he hL h3 2 rfl hi hci
    exact ⟨(a, b, d), ⟨by simpa using h2 0 _ e0, by simpa using h2 1 _ e1, by simpa using h2 2 _ e2⟩, r0, r1, r2⟩)
  subst hl
  exact ⟨xs, A, c, rfl, ⟨hc, fun j hj => (hp j hj).1.1, fun j hj => (hp j hj).1.2.1, fun j hj => (hp j hj).1.2.2⟩, fun x hx => by
    obtain ⟨j, hj, rfl⟩ := List.getElem_of_mem hx
    have := (hp j hj).2
    simpa [List.getD, hj] using this, by omega⟩
def NetworkV (G : GH) (v : Value) (N : Net) : Prop := ∃ A c, v = netV N A c ∧ T3S G A c N.arcs ∧ (∀ x ∈ N.arcs, R3 x) ∧ N.arcs.length ≤ 2 ^ 63 - 1 ∧ R64 N.n ∧ R64 N.s ∧ R64 N.t
theorem open_Network {t s e i : TypeId} {fs es : Array Field} (ht : P.underlying t = some (.struct fs)) (hs : P.underlying s = some (.slice e)) (he : P.underlying e = some (.struct es)) (hi : P.underlying i = some (.int .i64))
    (hM : fs.toList.map (fun f => (f.offset, f.type)) = [(0, i), (1, i), (2, i), (3, s)]) (hL : es.toList.map (fun f => (f.offset, f.type)) = [(0, i), (1, i), (2, i)]) (hct : P.cellsOf t = 4) (hcs : P.cellsOf s = 1) (hce : P.cellsOf e = 3) (hci : P.cellsOf i = 1)
    {v : Value} {d : DataW H} {ps : List MemPlace} {r : Reach} {base : Nat} (hv : Value.okWide P W r base t v) (h : DataW.Trod enc P W 0 (fun _ => true) true t v d ps) : ∃ N, NetworkV (G0 W) v N := by
  obtain ⟨cs, rfl, _⟩ := okWide_struct ht hv
  obtain ⟨fuel, hf⟩ := h
  change DataW.trod enc P W 0 (fun _ => true) true fuel t cs.toList = some (d, ps) at hf
  obtain ⟨a, e0, r0⟩ := trod_fld_i64 ht hM hf 0 rfl hi hci
  obtain ⟨b, e1, r1⟩ := trod_fld_i64 ht hM hf 1 rfl hi hci
  obtain ⟨c, e2, r2⟩ := trod_fld_i64 ht hM hf 2 rfl hi hci
  obtain ⟨A, n, k, m, x', e3, r3⟩ := trod_fld_sl ht hM hf 3 rfl hs hcs
  obtain ⟨xs, A', c', hx, h1, h2, h3⟩ := trod_t3s hs he hi hL hce hci r3
  cases hx
  have hl := trod_clen ht hf
  rw [hct] at hl
  refine ⟨⟨a, b, c, xs⟩, A, k, ?_, h1, h2, h3, r0, r1, r2⟩
  unfold netV netC
  rw [← list_four hl e0 e1 e2 e3]
def GraphV (G : GH) (v : Value) (g : Gra) : Prop := ∃ A c, v = graV g A c ∧ T3S G A c g.edges ∧ (∀ x ∈ g.edges, R3 x) ∧ g.edges.length ≤ 2 ^ 63 - 1 ∧ R64 g.n
theorem open_Graph {t s e i : TypeId} {fs es : Array Field} (ht : P.underlying t = some (.struct fs)) (hs : P.underlying s = some (.slice e)) (he : P.underlying e = some (.struct es)) (hi : P.underlying i = some (.int .i64))
    (hM : fs.toList.map (fun f => (f.offset, f.type)) = [(0, i), (1, s)]) (hL : es.toList.map (fun f => (f.offset, f.type)) = [(0, i), (1, i), (2, i)]) (hct : P.cellsOf t = 2) (hcs : P.cellsOf s = 1) (hce : P.cellsOf e = 3) (hci : P.cellsOf i = 1)
    {v : Value} {d : DataW H} {ps : List MemPlace} {r : Reach} {base : Nat} (hv : Value.okWide P W r base t v) (h : DataW.Trod enc P W 0 (fun _ => true) true t v d ps) : ∃ g, GraphV (G0 W) v g := by
  obtain ⟨cs, rfl, _⟩ := okWide_struct ht hv
  obtain ⟨fuel, hf⟩ := h
  change DataW.trod enc P W 0 (fun _ => true) true fuel t cs.toList = some (d, ps) at hf
  obtain ⟨a, e0, r0⟩ := trod_fld_i64 ht hM hf 0 rfl hi hci
  obtain ⟨A, n, k, m, x', e3, r3⟩ := trod_fld_sl ht hM hf 1 rfl hs hcs
  obtain ⟨xs, A', c', hx, h1, h2, h3⟩ := trod_t3s hs he hi hL hce hci r3
  cases hx
  have hl := trod_clen ht hf
  rw [hct] at hl
  refine ⟨⟨a, xs⟩, A, k, ?_, h1, h2, h3, r0⟩
  unfold graV graC
  rw [← list_two hl e0 e3]
theorem open_i64 {t : TypeId} (ht : P.underlying t = some (.int .i64)) {v : Value} {d : DataW H} {ps : List MemPlace} {r : Reach} {base : Nat} (hv : Value.okWide P W r base t v) (h : DataW.Trod enc P W 0 (fun _ => true) true t v d ps) : ∃ n, IntV (G0 W) v n := by
  obtain ⟨n, rfl, _⟩ := okWide_int ht hv
  obtain ⟨fuel, hf⟩ := h
  obtain ⟨m, h1, h2⟩ := trod_i64 ht (show DataW.trod enc P W 0 (fun _ => true) true fuel t [.int .i64 n] = some (d, ps) from hf)
  cases h1
  exact ⟨n, rfl, h2⟩

/-! #### lists of lists, tables -/
def RowsV (G : GH) (v : Value) (xss : List (List Int)) : Prop := ∃ A c hs, v = .slice A xss.length c ∧ RowS G A c hs xss ∧ (∀ i, i < xss.length → (xss.getD i []).length ≤ 2 ^ 63 - 1 ∧ ∀ x ∈ xss.getD i [], R64 x) ∧ xss.length ≤ 2 ^ 63 - 1
theorem trod_rows {t e i : TypeId} (ht : P.underlying t = some (.slice e)) (he : P.underlying e = some (.slice i)) (hi : P.underlying i = some (.int .i64)) (hce : P.cellsOf e = 1) (hci : P.cellsOf i = 1) {fuel : Nat} {A : Option Addr} {n c : Nat} {x : DataW H × List MemPlace}
    (h : DataW.trod enc P W 0 (fun _ => true) true fuel t [.slice A n c] = some x) : ∃ xss, RowsV (G0 W) (.slice A n c) xss := by
  obtain ⟨hc, hc2, hx⟩ := trod_sl ht h
  rw [hce] at hx
  obtain ⟨xs, hl, hp⟩ := choose_list (([], none, 0) : List Int × Option Addr × Nat) (p := fun j y => rd (G0 W) (pa A j) = some (.slice y.2.1 y.1.length y.2.2) ∧ IntS (G0 W) y.2.1 y.2.2 y.1 ∧ (∀ x ∈ y.1, R64 x) ∧ y.1.length ≤ 2 ^ 63 - 1) n (fun j hj => by
    obtain ⟨cs, f', x', h1, h2, h3⟩ := hx j hj
    have h4 : ∃ B m d, cs = [.slice B m d] := by
      rcases DataW.trod_slice he h3 with ⟨h0, _⟩ | ⟨a, len, cap, _, _, _, _, h0, _⟩
      · exact ⟨_, _, _, h0⟩
      · exact ⟨_, _, _, h0⟩
    obtain ⟨B, m, d, rfl⟩ := h4
    obtain ⟨ys, B', d', hy, q1, q2, q3⟩ := trod_ints he hi hci h3
    cases hy
    exact ⟨(ys, B, d), by simpa using h2 0 _ rfl, q1, q2, q3⟩)
  subst hl
  have hg : ∀ j, j < xs.length → (xs.map (·.1)).getD j [] = (xs.getD j ([], none, 0)).1 := fun j hj => by simp [List.getD, hj]
  refine ⟨xs.map (·.1), A, c, fun j => (xs.getD j ([], none, 0)).2, by rw [List.length_map], ⟨by rw [List.length_map]; exact hc, fun j hj => ?_, fun j hj => ?_⟩, fun j hj => ?_, by rw [List.length_map]; omega⟩
  · rw [List.length_map] at hj; rw [hg j hj]; exact (hp j hj).1
  · rw [List.length_map] at hj; rw [hg j hj]; exact (hp j hj).2.1
  · rw [List.length_map] at hj; rw [hg j hj]; exact ⟨(hp j hj).2.2.2, (hp j hj).2.2.1⟩
theorem open_Int64SS {t e i : TypeId} (ht : P.underlying t = some (.slice e)) (he : P.underlying e = some (.slice i)) (hi : P.underlying i = some (.int .i64)) (hce : P.cellsOf e = 1) (hci : P.cellsOf i = 1)
    {v : Value} {d : DataW H} {ps : List MemPlace} {r : Reach} {base : Nat} (hv : Value.okWide P W r base t v) (h : DataW.Trod enc P W 0 (fun _ => true) true t v d ps) : ∃ xss, RowsV (G0 W) v xss := by
  obtain ⟨A, n, c, rfl⟩ := okWide_slice ht hv
  obtain ⟨fuel, hf⟩ := h
  exact trod_rows ht he hi hce hci hf
/-- a table that came in. -/
def TableV (G : GH) (v : Value) (t : Tab) : Prop := ∃ A c B d hs, v = tabV t A c B d ∧ IntS G A c t.cols ∧ RowS G B d hs t.rows ∧ t.cols.length ≤ 2 ^ 63 - 1 ∧ t.rows.length ≤ 2 ^ 63 - 1 ∧ (∀ i, i < t.rows.length → (t.rows.getD i []).length ≤ 2 ^ 63 - 1) ∧ (∀ x ∈ t.cols, R64 x) ∧ ∀ i, i < t.rows.length → ∀ x ∈ t.rows.getD i [], R64 x
theorem trod_tab {t s u e i : TypeId} {fs : Array Field} (ht : P.underlying t = some (.struct fs)) (hs : P.underlying s = some (.slice i)) (hu : P.underlying u = some (.slice e)) (he : P.underlying e = some (.slice i)) (hi : P.underlying i = some (.int .i64))
    (hM : fs.toList.map (fun f => (f.offset, f.type)) = [(0, s), (1, u)]) (hct : P.cellsOf t = 2) (hcs : P.cellsOf s = 1) (hcu : P.cellsOf u = 1) (hce : P.cellsOf e = 1) (hci : P.cellsOf i = 1)
    {fuel : Nat} {cs : List Value} {x : DataW H × List MemPlace} (hf : DataW.trod enc P W 0 (fun _ => true) true fuel t cs = some x) : ∃ N, TableV (G0 W) (.agg cs.toArray) N ∧ ∃ A c B d, cs = tabC N A c B d := by
  obtain ⟨A, n, k, m, x1, e1, r1⟩ := trod_fld_sl ht hM hf 0 rfl hs hcs
  obtain ⟨B, n', k', m', x2, e2, r2⟩ := trod_fld_sl ht hM hf 1 rfl hu hcu
  obtain ⟨xs, A1, c1, hx, h1, h2, h3⟩ := trod_ints hs hi hci r1
  cases hx
  obtain ⟨ys, B1, d1, hh, hy, k1, k2, k3⟩ := trod_rows hu he hi hce hci r2
  cases hy
  have hl := trod_clen ht hf
  rw [hct] at hl
  have hcs' := list_two hl e1 e2
  refine ⟨⟨xs, ys⟩, ⟨A, k, B, k', hh, ?_, h1, k1, h3, k3, fun i hi => (k2 i hi).1, h2, fun i hi => (k2 i hi).2⟩, A, k, B, k', ?_⟩
  · rw [hcs']; rfl
  · rw [hcs']; rfl
theorem open_Table {t s u e i : TypeId} {fs : Array Field} (ht : P.underlying t = some (.struct fs)) (hs : P.underlying s = some (.slice i)) (hu : P.underlying u = some (.slice e)) (he : P.underlying e = some (.slice i)) (hi : P.underlying i = some (.int .i64))
    (hM : fs.toList.map (fun f => (f.offset, f.type)) = [(0, s), (1, u)]) (hct : P.cellsOf t = 2) (hcs : P.cellsOf s = 1) (hcu : P.cellsOf u = 1) (hce : P.cellsOf e = 1) (hci : P.cellsOf i = 1)
    {v : Value} {d : DataW H} {ps : List MemPlace} {r : Reach} {base : Nat} (hv : Value.okWide P W r base t v) (h : DataW.Trod enc P W 0 (fun _ => true) true t v d ps) : ∃ N, TableV (G0 W) v N := by
  obtain ⟨cs, rfl, _⟩ := okWide_struct ht hv
  obtain ⟨fuel, hf⟩ := h
  change DataW.trod enc P W 0 (fun _ => true) true fuel t cs.toList = some (d, ps) at hf
  obtain ⟨N, hN, _⟩ := trod_tab ht hs hu he hi hM hct hcs hcu hce hci hf
  exact ⟨N, hN⟩

/-! #### lists of tables -/
def TablesV (G : GH) (v : Value) (ts : List Tab) : Prop := ∃ A c H, v = .slice A ts.length c ∧ TabsS G A c H ts ∧ ts.length ≤ 2 ^ 63 - 1 ∧ ∀ i, i < ts.length → TabM (ts.getD i t0)
theorem open_TableS {T t s u e i : TypeId} {fs : Array Field} (hT : P.underlying T = some (.slice t)) (ht : P.underlying t = some (.struct fs)) (hs : P.underlying s = some (.slice i)) (hu : P.underlying u = some (.slice e)) (he : P.underlying e = some (.slice i)) (hi : P.underlying i = some (.int .i64))
    (hM : fs.toList.map (fun f => (f.offset, f.type)) = [(0, s), (1, u)]) (hct : P.cellsOf t = 2) (hcs : P.cellsOf s = 1) (hcu : P.cellsOf u = 1) (hce : P.cellsOf e = 1) (hci : P.cellsOf i = 1)
    {v : Value} {d : DataW H} {ps : List MemPlace} {r : Reach} {base : Nat} (hv : Value.okWide P W r base T v) (h : DataW.Trod enc P W 0 (fun _ => true) true T v d ps) : ∃ ts, TablesV (G0 W) v ts := by
  obtain ⟨A, n, c, rfl⟩ := okWide_slice hT hv
  obtain ⟨fuel, hf⟩ := h
  obtain ⟨hc, hc2, hx⟩ := trod_sl hT (show DataW.trod enc P W 0 (fun _ => true) true fuel T [.slice A n c] = some (d, ps) from hf)
  rw [hct] at hx
  obtain ⟨xs, hl, hp⟩ := choose_list ((t0, ⟨none, 0, none, 0, fun _ => (none, 0)⟩) : Tab × TH) (p := fun j y => (rd (G0 W) (pa A (j * 2)) = some (.slice y.2.A y.1.cols.length y.2.c) ∧ rd (G0 W) (pa A (j * 2 + 1)) = some (.slice y.2.B y.1.rows.length y.2.d)) ∧ IntS (G0 W) y.2.A y.2.c y.1.cols ∧ RowS (G0 W) y.2.B y.2.d y.2.hs y.1.rows ∧ TabM y.1) n (fun j hj => by
    obtain ⟨cs, f', x', h1, h2, h3⟩ := hx j hj
    obtain ⟨N, ⟨B, b, D, f, hs', q0, q1, q2, q3, q4, q5, _⟩, _⟩ := trod_tab ht hs hu he hi hM hct hcs hcu hce hci h3
    have hcs' : cs = tabC N B b D f := by
      have := congrArg (fun v => v.cells.toList) q0
      simpa [tabV, Value.cells] using this
    subst hcs'
    exact ⟨(N, ⟨B, b, D, f, hs'⟩), ⟨by simpa using h2 0 _ rfl, h2 1 _ rfl⟩, q1, q2, q3, q4, q5⟩)
  subst hl
  have hg : ∀ j, j < xs.length → (xs.map (·.1)).getD j t0 = (xs.getD j (t0, ⟨none, 0, none, 0, fun _ => (none, 0)⟩)).1 := fun j hj => by simp [List.getD, hj]
  refine ⟨xs.map (·.1), A, c, fun j => (xs.getD j (t0, ⟨none, 0, none, 0, fun _ => (none, 0)⟩)).2, by rw [List.length_map], ⟨by rw [List.length_map]; exact hc, fun j hj => ?_, fun j hj => ?_, fun j hj => ?_, fun j hj => ?_⟩, by rw [List.length_map]; omega, fun j hj => ?_⟩
  · rw [List.length_map] at hj; rw [hg j hj]; exact (hp j hj).1.1
  · rw [List.length_map] at hj; rw [hg j hj]; exact (hp j hj).1.2
  · rw [List.length_map] at hj; rw [hg j hj]; exact (hp j hj).2.1
  · rw [List.length_map] at hj; rw [hg j hj]; exact (hp j hj).2.2.1
  · rw [List.length_map] at hj; rw [hg j hj]; exact (hp j hj).2.2.2

end Go.Proofs.YtnaoeggecibkmaaDoor.Gh
