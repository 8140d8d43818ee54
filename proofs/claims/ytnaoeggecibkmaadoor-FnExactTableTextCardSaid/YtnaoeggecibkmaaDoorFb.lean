/- The light operations of a region yield what lv says, whatever world holds the knowledge. -/
import Derived.Test.YtnaoeggecibkmaaDoorFa
namespace Go.Proofs.YtnaoeggecibkmaaDoor.Gh
open Go Go.RowKit
set_option linter.unusedVariables false
set_option linter.unusedSimpArgs false

theorem szOf_run {P : Program} {t : TypeId} {n : Nat} (h : szOf P t = some n) (w : World) : (sizeOf t).run P w = .ok n w := by
  unfold szOf at h
  cases hi : P.info? t with
  | none => simp [hi] at h
  | some i => simp [hi] at h; simp [sizeOf, typeInfo, hi, h]
theorem und_run {P : Program} {t : TypeId} {d : TypeDesc} (h : P.underlying t = some d) (w : World) : (underlying t).run P w = .ok d w := by
  simp [underlying, h]
theorem agg_run {P : Program} {t : TypeId} {d : TypeDesc} (h : P.underlying t = some d) (w : World) : (isAgg t).run P w = .ok (aggB d) w := by
  simp only [isAgg, Sem.run_bind, und_run h, Result.andThen_ok]
  cases d <;> rfl
theorem info_run {P : Program} {t : TypeId} {i : TypeInfo} (h : P.info? t = some i) (w : World) : (typeInfo t).run P w = .ok i w := by
  simp [typeInfo, h]

theorem rdn_spec {G : GH} {A : Option Addr} : ∀ (n i : Nat) (l : List Value), rdn G A i n = some l → l.length = n ∧ ∀ j v, l[j]? = some v → rd G (pa A (i + j)) = some v
  | 0, i, l, h => by simp [rdn] at h; subst h; simp
  | n + 1, i, l, h => by
    simp only [rdn] at h
    cases hr : rd G (pa A i) with
    | none => simp [hr] at h
    | some v =>
      simp only [hr, Option.bind_some] at h
      cases hk : rdn G A (i + 1) n with
      | none => simp [hk] at h
      | some k =>
        simp [hk] at h; subst h
        obtain ⟨h1, h2⟩ := rdn_spec n (i + 1) k hk
        refine ⟨by simp [h1], fun j u hj => ?_⟩
        cases j with
        | zero => simp at hj; subst hj; simpa using hr
        | succ j => simp at hj; have := h2 j u hj; rwa [show i + 1 + j = i + (j + 1) by omega] at this

theorem Holds.cell {W w : World} {G : GH} (h : Holds W w G) {a : Addr} {k : Nat} {v : Value} (hr : Gh.rd G (pa (some a) k) = some v) : w.cell? (a.add k) = some v := by
  obtain ⟨a', e, hc⟩ := h.rd hr
  simp [pa] at e; subst e; exact hc

theorem sn_some {A : Option Addr} (h : 0 < sn A) : ∃ a, A = some a := by
  cases A <;> simp [sn] at h ⊢

theorem eqCells_spec {P : Program} (w : World) (d : Nat) (xs ys : Array Value) : ∀ (fs : List Field) (i : Nat) (us vs : List Value) (r : Bool), intFields P fs i = true →
    us = xs.toList.drop i → vs = ys.toList.drop i → us.length = fs.length → eqCells us vs = some r → (Op.eqFields (d + 1) xs ys fs).run P w = .ok r w
  | [], i, us, vs, r, _, hu, hv, hl, h => by
    cases us with
    | nil => cases vs with
      | nil => simp [eqCells] at h; subst h; simp [Op.eqFields]
      | cons => simp [eqCells] at h
    | cons => simp at hl
  | f :: fs, i, us, vs, r, hf, hu, hv, hl, h => by
    simp only [intFields, Bool.and_eq_true, bne_iff_ne, beq_iff_eq] at hf
    obtain ⟨⟨⟨h1, h2⟩, h3⟩, h4⟩ := hf
    cases hk : P.underlying f.type with
    | none => simp [hk] at h3
    | some dd =>
      cases dd <;> simp [hk] at h3
      rename_i k0
      cases us with
      | nil => simp at hl
      | cons u us =>
        cases vs with
        | nil => simp [eqCells] at h
        | cons v vs =>
          simp only [eqCells] at h
          cases u <;> simp only [onInt] at h <;> try (cases h; done)
          rename_i ku a
          cases v <;> simp only at h <;> try (cases h; done)
          rename_i kv b
          split at h
          case isFalse => cases h
          rename_i hkk
          subst hkk
          obtain ⟨r', hr', rfl⟩ := Option.map_eq_some_iff.1 h
          have hx : xs[f.offset]? = some (.int ku a) := by
            have : (xs.toList.drop i)[0]? = some (.int ku a) := by rw [← hu]; rfl
            rw [List.getElem?_drop] at this; simpa [h2] using this
          have hy : ys[f.offset]? = some (.int ku b) := by
            have : (ys.toList.drop i)[0]? = some (.int ku b) := by rw [← hv]; rfl
            rw [List.getElem?_drop] at this; simpa [h2] using this
          have hpx : (part f.type xs f.offset).run P w = .ok (.int ku a) w := by
            simp [part, agg_run hk, aggB, hx]
          have hpy : (part f.type ys f.offset).run P w = .ok (.int ku b) w := by
            simp [part, agg_run hk, aggB, hy]
          have ih := eqCells_spec w d xs ys fs (i + 1) us vs r' h4
            (by rw [← List.drop_drop, ← hu]; rfl)
            (by rw [← List.drop_drop, ← hv]; rfl) (by simpa using hl) hr'
          simp only [Op.eqFields, if_pos h1, Sem.run_bind, hpx, hpy, Result.andThen_ok]
          rw [run_equalIn_int w d f.type ku k0 a b hk]
          simp only [Result.andThen_ok]
          by_cases hab : a = b
          · subst hab; simp [ih]
          · have : (a == b) = false := by simp [hab]
            simp [this]

theorem over_length : ∀ (vs cs : List Value) (o : Nat), (over cs o vs).length = cs.length
  | [], cs, o => rfl
  | v :: vs, cs, o => by simp [over, over_length vs]

theorem bnd_run {P : Program} (w : World) {m d h : Nat} {code : BoundsCode} {v : Value} (hb : bndV d m (some v) = some h) : (Instr.sliceBound v m code).run P w = .ok h w := by
  cases v <;> simp [bndV, onInt] at hb
  obtain ⟨⟨h0, h1⟩, rfl⟩ := hb
  simp [Instr.sliceBound, asIntOf, h0, h1]
theorem bnd_le {m d h : Nat} {v : Value} (hb : bndV d m (some v) = some h) : h ≤ m := by
  cases v <;> simp [bndV, onInt] at hb
  omega

theorem bounds_run {P : Program} (w : World) {isS : Bool} {n c h l : Nat} {lo hi : Option Value} (hh : bndV n c hi = some h) (hl : bndV 0 h lo = some l) :
    (Instr.sliceBounds isS n c lo hi none).run P w = .ok (l, h, c) w := by
  unfold Instr.sliceBounds
  cases hi with
  | none =>
    simp [bndV] at hh; subst hh
    cases lo with
    | none => simp [bndV] at hl; subst hl; simp
    | some v => simp [bnd_run w hl]
  | some u =>
    cases lo with
    | none => simp [bndV] at hl; subst hl; simp [bnd_run w hh]
    | some v => simp [bnd_run w hl, bnd_run w hh]

theorem fold_over (cs : Array Value) : ∀ (vs : List Value) (k off : Nat), (vs.zipIdx k).foldl (fun (cs : Array Value) (x : Value × Nat) => cs.setIfInBounds (off + x.2) x.1) cs = (over cs.toList (off + k) vs).toArray := by
  intro vs
  induction vs generalizing cs with
  | nil => intro k off; simp [over]
  | cons v vs ih =>
    intro k off
    simp only [List.zipIdx_cons, List.foldl_cons, over]
    rw [ih]
    simp [Nat.add_assoc]

theorem fill_spec (place : Nat → Option (Nat × Nat)) : ∀ (ps : List (Nat × Value)) (qs : List (Nat × Nat × Value)) (z r : List Value),
    qs.length = ps.length → (∀ (j : Nat) p q, ps[j]? = some p → qs[j]? = some q → place p.1 = some (q.1, q.2.1) ∧ q.2.2 = p.2) → bldV z qs = some r → Instr.fill place z.toArray ps = some r.toArray
  | [], qs, z, r, hl, _, h => by
    cases qs with
    | nil => simp [bldV] at h; subst h; rfl
    | cons => simp at hl
  | p :: ps, qs, z, r, hl, hp, h => by
    cases qs with
    | nil => simp at hl
    | cons q qs =>
      obtain ⟨o, n, v⟩ := q
      simp only [bldV] at h
      split at h
      · rename_i hc
        obtain ⟨h1, h2⟩ := hp 0 p (o, n, v) rfl rfl
        obtain ⟨i, v'⟩ := p
        simp at h1 h2; subst h2
        simp only [Instr.fill, h1]
        have hc1 : ¬ ((decide (v.cells.size ≠ n) || decide (o + v.cells.size > z.toArray.size)) = true) := by simp; omega
        rw [if_neg hc1]
        have := fold_over z.toArray v.cells.toList 0 o
        have hz : (v.cells.zipIdx.foldl (fun (cs : Array Value) (x : Value × Nat) => cs.setIfInBounds (o + x.2) x.1) z.toArray) = (over z o v.cells.toList).toArray := by
          rw [← Array.foldl_toList, Array.toList_zipIdx]; simpa using this
        have hz' : (Array.foldl (fun (cs : Array Value) x => cs.setIfInBounds (o + x.2) x.1) z.toArray v.cells.zipIdx) = (over z o v.cells.toList).toArray := hz
        rw [hz']
        exact fill_spec place ps qs _ r (by simpa using hl) (fun j p q a b => hp (j + 1) p q a b) h
      · cases h

end Go.Proofs.YtnaoeggecibkmaaDoor.Gh
