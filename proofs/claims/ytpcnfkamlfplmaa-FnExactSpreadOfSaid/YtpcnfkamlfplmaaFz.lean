/- From a contract of a law to what its row asks. -/
import Derived.Test.YtpcnfkamlfplmaaFm
import Derived.WalkKit
import Derived.ProofKit
import Derived.OpenShut
import Derived.ShutString
import Derived.ChangeOld
import Derived.SizedLaws
namespace Go.Proofs.Ytpcnfkamlfplmaa.Gh
open Go Go.RowKit Go.WideShapes
set_option linter.unusedVariables false
set_option linter.unusedSimpArgs false

/-- All that lies in memory at the start, none of it the call's own. -/
def G0 (W : World) : GH := fun b => match W.heap[b]? with | some (.cells c _ _) => some ⟨c.toList, false⟩ | _ => none
theorem G0_holds (W : World) : Holds W W (G0 W) := by
  refine ⟨Below.refl _ _, fun b e hb => ?_⟩
  unfold G0 at hb
  split at hb
  · rename_i c el fz hw; cases hb; exact ⟨el, fz, by simpa using hw, fun h => by cases h⟩
  · cases hb
theorem G0_rd {W : World} {a : Addr} {v : Value} (h : W.cell? a = some v) : rd (G0 W) (some a) = some v := by
  obtain ⟨b, o, s⟩ := a
  unfold World.cell? at h
  split at h
  · rename_i c el fz hw
    cases s with
    | some s => simp at h
    | none => simp only [rd, G0, hw, Option.bind_some]; simpa using h
  · cases h

theorem law_calls {P : Program} {f : FuncId} {args : List Value} {W : World} (h : GC P f args (G0 W) (fun v _ => v = .bool true)) :
    Calls P f args.toArray W fun e W' => e = .returned (.bool true) ∧ Below W.heap.size W W' :=
  (h.2 W W (G0_holds W)).mono fun e W' ⟨v, G', he, hk, hh⟩ => ⟨by rw [he, hk], hh.below⟩

/-! ### what came in, opened -/
variable {H : Type} {enc : TypeId × Value → H} {P : Program} {W : World}

theorem choose_list {α : Type} (d : α) {p : Nat → α → Prop} : ∀ (n : Nat), (∀ i, i < n → ∃ x, p i x) → ∃ xs : List α, xs.length = n ∧ ∀ i, i < n → p i (xs.getD i d)
  | 0, _ => ⟨[], rfl, fun i hi => absurd hi (Nat.not_lt_zero _)⟩
  | n + 1, h => by
    obtain ⟨xs, hl, hp⟩ := choose_list d n (fun i hi => h i (by omega))
    obtain ⟨x, hx⟩ := h n (by omega)
    refine ⟨xs ++ [x], by simp [hl], fun i hi => ?_⟩
    by_cases hin : i = n
    · subst hin; simp [List.getD, ← hl]; rw [hl]; exact hx
    · have := hp i (by omega)
      rwa [show (xs ++ [x]).getD i d = xs.getD i d by simp only [List.getD]; rw [List.getElem?_append_left (by omega)]]

theorem cells_range {w : World} {a : Addr} : ∀ (n k : Nat) (cs : List Value), (List.range' k n).mapM (fun i => w.cell? (a.add i)) = some cs → cs.length = n ∧ ∀ (j : Nat) v, cs[j]? = some v → w.cell? (a.add (k + j)) = some v
  | 0, k, cs, h => by simp at h; subst h; simp
  | n + 1, k, cs, h => by
    simp only [List.range'_succ, List.mapM_cons, Option.bind_eq_bind, Option.pure_def] at h
    obtain ⟨v, hv, h⟩ := Option.bind_eq_some_iff.1 h
    obtain ⟨r, hr, h⟩ := Option.bind_eq_some_iff.1 h
    cases h
    obtain ⟨h1, h2⟩ := cells_range n (k + 1) r hr
    refine ⟨by simp [h1], fun j u hj => ?_⟩
    cases j with
    | zero => simp at hj; subst hj; simpa using hv
    | succ j => simp at hj; have := h2 j u hj; rwa [show k + 1 + j = k + (j + 1) by omega] at this

theorem trod_sl {t e : TypeId} (ht : P.underlying t = some (.slice e)) {fuel : Nat} {A : Option Addr} {n c : Nat} {x : DataW H × List MemPlace} (h : DataW.trod enc P W 0 (fun _ => true) true fuel t [.slice A n c] = some x) :
    n ≤ c ∧ ∀ i, i < n → ∃ cs fuel' x', cs.length = P.cellsOf e ∧ (∀ (j : Nat) v, cs[j]? = some v → rd (G0 W) (pa A (i * P.cellsOf e + j)) = some v) ∧ DataW.trod enc P W 0 (fun _ => true) true fuel' e cs = some x' := by
  rcases DataW.trod_slice ht h with ⟨h0, _⟩ | ⟨a, len, cap, elems, rest, m, _, h0, _, _, hle, _, hel, hx, _, _⟩
  · cases h0; exact ⟨Nat.le_refl _, fun i hi => absurd hi (Nat.not_lt_zero _)⟩
  · cases h0
    refine ⟨hle, fun i hi => ?_⟩
    have := hx i hi
    have hi' : i < elems.length := by omega
    rw [List.getElem?_eq_getElem hi'] at this
    obtain ⟨cs, hcs, htr⟩ := Option.bind_eq_some_iff.1 this
    unfold World.cells? at hcs
    split at hcs
    · rw [List.range_eq_range'] at hcs
      obtain ⟨h1, h2⟩ := cells_range _ 0 cs hcs
      refine ⟨cs, m, _, h1, fun j v hj => ?_, htr⟩
      have := h2 j v hj
      rw [Nat.zero_add, add_add'] at this
      exact G0_rd this
    · cases hcs

theorem trod_i64 {t : TypeId} (ht : P.underlying t = some (.int .i64)) {fuel : Nat} {cs : List Value} {x : DataW H × List MemPlace} (h : DataW.trod enc P W 0 (fun _ => true) true fuel t cs = some x) :
    ∃ n : Int, cs = [.int .i64 n] ∧ -9223372036854775808 ≤ n ∧ n ≤ 9223372036854775807 := by
  obtain ⟨n, rfl, _, hwf⟩ := DataW.trod_int ht h
  refine ⟨n, rfl, ?_⟩
  simp only [Lit.wf, Bool.and_eq_true, decide_eq_true_eq, IntKind.min, IntKind.max, IntKind.signed, IntKind.bits] at hwf
  simpa using hwf

/-- a slice of integers that came in. -/
def R64 (n : Int) : Prop := -9223372036854775808 ≤ n ∧ n ≤ 9223372036854775807
def IntsV (G : GH) (v : Value) (xs : List Int) : Prop := ∃ A c, v = .slice A xs.length c ∧ IntS G A c xs ∧ ∀ x ∈ xs, R64 x
def IntV (G : GH) (v : Value) (n : Int) : Prop := v = .int .i64 n ∧ R64 n

theorem trod_ints {t e : TypeId} (ht : P.underlying t = some (.slice e)) (he : P.underlying e = some (.int .i64)) (hs : P.cellsOf e = 1) {fuel : Nat} {A : Option Addr} {n c : Nat} {x : DataW H × List MemPlace}
    (h : DataW.trod enc P W 0 (fun _ => true) true fuel t [.slice A n c] = some x) : ∃ xs, IntsV (G0 W) (.slice A n c) xs := by
  obtain ⟨hc, hx⟩ := trod_sl ht h
  rw [hs] at hx
  obtain ⟨xs, hl, hp⟩ := choose_list (0 : Int) (p := fun i x => rd (G0 W) (pa A i) = some (.int .i64 x) ∧ R64 x) n (fun i hi => by
    obtain ⟨cs, f', x', h1, h2, h3⟩ := hx i hi
    obtain ⟨m, rfl, hm⟩ := trod_i64 he h3
    exact ⟨m, by simpa using h2 0 _ rfl, hm⟩)
  subst hl
  refine ⟨xs, A, c, rfl, ⟨hc, fun i hi => (hp i hi).1⟩, fun x hx => ?_⟩
  obtain ⟨i, hi, rfl⟩ := List.getElem_of_mem hx
  have := (hp i hi).2
  simpa [List.getD, hi] using this

theorem open_ints' {t e : TypeId} (ht : P.underlying t = some (.slice e)) (he : P.underlying e = some (.int .i64)) (hs : P.cellsOf e = 1) {v : Value} {d : DataW H} {ps : List MemPlace} {r : Reach} {base : Nat}
    (hv : Value.okWide P W r base t v) (h : DataW.Trod enc P W 0 (fun _ => true) true t v d ps) : ∃ xs, IntsV (G0 W) v xs := by
  obtain ⟨A, n, c, rfl⟩ := okWide_slice ht hv
  obtain ⟨fuel, hf⟩ := h
  exact trod_ints ht he hs hf

end Go.Proofs.Ytpcnfkamlfplmaa.Gh
