/- The heavy operations do what gH says; a region in its written order does what gO says. -/
import Derived.Test.YtnaoeggecibkmaaDoorFe
import Derived.Laws.IdiomStrings
namespace Go.Proofs.YtnaoeggecibkmaaDoor.Gh
open Go Go.RowKit
set_option linter.unusedVariables false
set_option linter.unusedSimpArgs false

/-- What an operation has to do so that the region may go on: it leaves a value, or enters a call that does. -/
def OpOk (P : Program) (o : Oper) (a : Act) (W w : World) (K : Value → GH → Prop) : Prop :=
  ∀ (next : Act → World → Prop) (Q : Exit → Act → World → Prop), (∀ v G' w', K v G' → Holds W w' G' → next (a.put o.dst v) w') → o.wp P a w next Q

theorem OpOk.value {P : Program} {o : Oper} {a : Act} {W w w' : World} {K : Value → GH → Prop} {v : Value} {G' : GH} (h : (execOp a.eval o).run P w = .ok (.value v) w') (k : K v G') (hw : Holds W w' G') :
    OpOk P o a W w K := fun next Q hn => by unfold Oper.wp; rw [h]; exact hn v G' w' k hw
theorem OpOk.skip {P : Program} {o : Oper} {a : Act} {W w w' : World} {K : Value → GH → Prop} {G' : GH} (h : (execOp a.eval o).run P w = .ok .skip w') (k : K undef G') (hw : Holds W w' G') :
    OpOk P o a W w K := fun next Q hn => by unfold Oper.wp; rw [h]; exact hn undef G' w' k hw

theorem fin_run {P : Program} {w w' : World} {s : Sem Value} {v : Value} (hs : s.run P w = .ok v w') : (do pure (Next.value (← s)) : Sem Next).run P w = .ok (.value v) w' := by
  rw [Sem.run_bind, hs]; rfl

theorem decParts_spec {ev : Operand → Value} : ∀ (ps : List (Nat × Operand)) (j : Nat) (l : List Operand), decParts ps j = some l → l.length = ps.length ∧ ∀ (k : Nat) p, ps[k]? = some p → p.1 = j + k ∧ l[k]? = some p.2
  | [], j, l, h => by simp [decParts] at h; subst h; simp
  | (i, x) :: r, j, l, h => by
    simp only [decParts] at h
    split at h
    case isFalse => cases h
    rename_i hij
    obtain ⟨m, hm, rfl⟩ := Option.map_eq_some_iff.1 h
    obtain ⟨h1, h2⟩ := decParts_spec (ev := ev) r (j + 1) m hm
    refine ⟨by simp [h1], fun k p hk => ?_⟩
    cases k with
    | zero => simp at hk; subst hk; simp [hij]
    | succ k => simp at hk; obtain ⟨h3, h4⟩ := h2 k p hk; exact ⟨by omega, by simpa using h4⟩

/-- laying rows of one size one behind the other: nothing but what is laid is left. -/
theorem over_all : ∀ (vs pre cs : List Value), vs.length = cs.length → over (pre ++ cs) pre.length vs = pre ++ vs
  | [], pre, cs, h => by cases cs <;> simp_all [over]
  | v :: vs, pre, cs, h => by
    cases cs with
    | nil => simp at h
    | cons c cs =>
      simp only [over]
      have := over_all vs (pre ++ [v]) cs (by simpa using h)
      simp only [List.length_append, List.length_cons, List.length_nil, List.append_assoc, List.cons_append, List.nil_append] at this
      rw [← this]; congr 1
      simp [List.set_append]
theorem over_mid : ∀ (vs pre cs post : List Value), vs.length = cs.length → over (pre ++ (cs ++ post)) pre.length vs = pre ++ (vs ++ post)
  | [], pre, cs, post, h => by cases cs <;> simp_all [over]
  | v :: vs, pre, cs, post, h => by
    cases cs with
    | nil => simp at h
    | cons c cs =>
      simp only [over]
      have := over_mid vs (pre ++ [v]) cs post (by simpa using h)
      simp only [List.length_append, List.length_cons, List.length_nil, List.append_assoc, List.cons_append, List.nil_append] at this
      simp only [List.cons_append]
      rw [← this]; congr 1
      simp [List.set_append]

theorem fill_rows (sz : Nat) : ∀ (ps : List (Nat × Value)) (pre cs : List Value) (j : Nat), pre.length = j * sz → cs.length = ps.length * sz → (∀ (k : Nat) p, ps[k]? = some p → p.1 = j + k) → (∀ p ∈ ps, p.2.cells.size = sz) →
    Instr.fill (fun i => some (i * sz, sz)) (pre ++ cs).toArray ps = some (pre ++ ps.flatMap fun p => p.2.cells.toList).toArray
  | [], pre, cs, j, _, h, _, _ => by simp at h; simp [Instr.fill, h]
  | p :: ps, pre, cs, j, h0, h, hi, hs => by
    obtain ⟨i, v⟩ := p
    have hij : i = j := by simpa using hi 0 (i, v) rfl
    subst hij
    have hv : v.cells.size = sz := hs (i, v) (by simp)
    have hlen : cs.length = sz + ps.length * sz := by rw [h]; simp [Nat.add_mul, Nat.add_comm]
    simp only [Instr.fill]
    have hc1 : ¬ ((decide (v.cells.size ≠ sz) || decide (i * sz + v.cells.size > (pre ++ cs).toArray.size)) = true) := by
      simp [hv, h0]; omega
    rw [if_neg hc1]
    have hz : (v.cells.zipIdx.foldl (fun (cs : Array Value) (x : Value × Nat) => cs.setIfInBounds (i * sz + x.2) x.1) (pre ++ cs).toArray) = (over (pre ++ cs) (i * sz) v.cells.toList).toArray := by
      have := fold_over (pre ++ cs).toArray v.cells.toList 0 (i * sz)
      rw [← Array.foldl_toList, Array.toList_zipIdx]; simpa using this
    have hz' : (Array.foldl (fun (cs : Array Value) x => cs.setIfInBounds (i * sz + x.2) x.1) (pre ++ cs).toArray v.cells.zipIdx) = (over (pre ++ cs) (i * sz) v.cells.toList).toArray := hz
    rw [hz']
    have hsplit : cs = cs.take sz ++ cs.drop sz := (List.take_append_drop sz cs).symm
    have ho : over (pre ++ cs) (i * sz) v.cells.toList = (pre ++ v.cells.toList) ++ cs.drop sz := by
      rw [hsplit, ← h0, over_mid]
      · simp
      · simp [hv]; omega
    rw [ho]
    rw [fill_rows sz ps (pre ++ v.cells.toList) (cs.drop sz) (i + 1) (by simp [h0, hv, Nat.add_mul]) (by simp; omega)
      (fun k p hk => by have := hi (k + 1) p (by simpa using hk); omega) (fun p hp => hs p (by simp [hp]))]
    simp

theorem al_sound {P : Program} {o : Oper} {t : TypeId} {z : List Value} {a : Act} {W w : World} {G : GH} {K : Value → GH → Prop} (ho : o.op = .alloc t) (hz : cellsZ P t = some z) (hw : Holds W w G) (h : gAl z G K) : OpOk P o a W w K := by
  obtain ⟨u, hu, hc⟩ := cellsZ_run hz w
  refine OpOk.value (v := .pointer (some ⟨w.heap.size, 0, none⟩)) ?_ (h _ hw.fresh) (hw.alloc z t)
  rw [execOp.eq_def]; simp only [ho]
  refine fin_run ?_
  simp [Instr.alloc, hu, newVar, newRow, hc]
theorem alB_sound {P : Program} {o : Oper} {t : TypeId} {z : List Value} {a : Act} {W w : World} {G : GH} {K : Value → GH → Prop} (ho : o.op = .alloc t) (hz : cellsZ P t = some z) (hw : Holds W w G) (h : gAlB t z G K) : OpOk P o a W w K := by
  obtain ⟨u, hu, hc⟩ := cellsZ_run hz w
  refine OpOk.value (v := .pointer (some ⟨w.heap.size, 0, none⟩)) ?_ (h _ fun x e hx => hw.lt hx) (hw.allocR z t _ fun _ h => by cases h; rfl)
  rw [execOp.eq_def]; simp only [ho]
  refine fin_run ?_
  simp [Instr.alloc, hu, newVar, newRow, hc]
theorem b2s_sound {P : Program} {o : Oper} {s t e : TypeId} {x : Operand} {a : Act} {W w : World} {G : GH} {K : Value → GH → Prop} (ho : o.op = .convert s t x) (hs : P.underlying s = some (.slice e)) (ht : P.underlying t = some .string) (he : P.underlying e = some (.int .u8)) (hw : Holds W w G)
    (h : gB2s (a.eval x) G K) : OpOk P o a W w K := by
  obtain ⟨A, n, c, l, h1, h2, h3, hk⟩ := h
  refine OpOk.value (v := .string ⟨l.toArray⟩) ?_ hk hw
  rw [execOp.eq_def]; simp only [ho]
  refine fin_run ?_
  rw [h1]
  cases A with
  | none =>
    cases l with
    | nil => simp [convert, und_run hs, und_run ht, und_run he, Conv.bytesToString]; rfl
    | cons b l => have := h3 0 b rfl; simp [pa, rd] at this
  | some A =>
    subst h2
    exact run_convert_bytes_back w s t e A c l hs he ht (fun j hj => hw.cell (h3 j l[j] (by simp [hj])))
theorem bx_sound {P : Program} {o : Oper} {t : TypeId} {x : Operand} {a : Act} {W w : World} {G : GH} {K : Value → GH → Prop} (ho : o.op = .box t x) (hw : Holds W w G) (h : gAl (a.eval x).cells.toList G K) : OpOk P o a W w K := by
  refine OpOk.value (v := .pointer (some ⟨w.heap.size, 0, none⟩)) ?_ (h _ hw.fresh) (hw.alloc _ t)
  rw [execOp.eq_def]; simp only [ho]
  refine fin_run ?_
  simp [Instr.box, newVar, newRow]

theorem bs_sound {P : Program} {o : Oper} {t e : TypeId} {n : Nat} {ps : Array (Nat × Operand)} {l : List Operand} {z : List Value} {a : Act} {W w : World} {G : GH} {K : Value → GH → Prop} {len : Nat} (ho : o.op = .buildSlice t len ps) (ht : P.underlying t = some (.slice e))
    (hs : szOf P e = some n) (hz : cellsZ P e = some z) (hp : decParts ps.toList 0 = some l) (hl : l.length = len ∧ z.length = n ∧ len * n ≤ 2 ^ 24 ∧ 0 < n) (hw : Holds W w G) (h : gBs n (l.map a.eval) G K) : OpOk P o a W w K := by
  obtain ⟨h1, h2⟩ := h
  obtain ⟨hl1, hl2, hl3, hl4⟩ := hl
  obtain ⟨u, hu, hc⟩ := cellsZ_run hz w
  obtain ⟨d1, d2⟩ := decParts_spec (ev := a.eval) ps.toList 0 l hp
  have hk := h2 _ hw.fresh
  have hw' := hw.alloc ((l.map a.eval).flatMap fun v => v.cells.toList) e
  rw [List.length_map, hl1] at hk
  refine OpOk.value (v := .slice (some ⟨w.heap.size, 0, none⟩) len len) ?_ hk hw'
  rw [execOp.eq_def]; simp only [ho]
  refine fin_run ?_
  have hflat : (l.map a.eval).flatMap (fun v => v.cells.toList) = (ps.toList.map fun p => (p.1, a.eval p.2)).flatMap fun p => p.2.cells.toList := by
    have : l.map a.eval = (ps.toList.map fun p => (p.1, a.eval p.2)).map (·.2) := by
      apply List.ext_getElem?
      intro k
      simp only [List.map_map, List.getElem?_map]
      cases hk : ps.toList[k]? with
      | none =>
        have : l[k]? = none := by rw [List.getElem?_eq_none_iff] at hk ⊢; omega
        simp [this]
      | some p => simp [(d2 k p hk).2]
    rw [this, List.flatMap_map]
  have hfill := fill_rows n (ps.toList.map fun p => (p.1, a.eval p.2)) [] ((List.range (len * n)).map fun i => z.toArray[i % z.toArray.size]!) 0 (by simp) (by simp [← d1, hl1])
    (fun k p hk => by
      simp only [List.getElem?_map, Option.map_eq_some_iff] at hk
      obtain ⟨q, hq, rfl⟩ := hk
      simpa using (d2 k q hq).1)
    (fun p hp => by
      simp only [List.mem_map] at hp
      obtain ⟨q, hq, rfl⟩ := hp
      obtain ⟨k, hk, hkk⟩ := List.getElem_of_mem hq
      have hq2 := (d2 k q (by rw [List.getElem?_eq_getElem hk, hkk])).2
      exact h1 _ (List.mem_map.2 ⟨q.2, List.mem_of_getElem? hq2, rfl⟩))
  simp only [List.nil_append] at hfill
  unfold Instr.buildSlice
  simp only [Sem.run_bind, und_run ht, Result.andThen_ok, szOf_run hs]
  have hn24 : ¬ (len * n > 2 ^ 24) := by omega
  simp only [hn24, if_false, Sem.run_pure, Result.andThen_ok]
  rw [hflat]
  by_cases h0 : len * n = 0
  · have hlen : len = 0 := by rcases Nat.mul_eq_zero.1 h0 with h | h <;> omega
    simp only [h0, if_true, Sem.run_pure, Result.andThen_ok]
    have hps : ps = #[] := by
      apply Array.toList_inj.1; simp
      have : ps.toList.length = 0 := by omega
      simpa using this
    subst hps
    have e0 : (Array.map (fun (_ : Nat) => (default : Value)) (Array.range 0)) = #[] := by rw [← Array.toList_inj]; simp [Array.toList_range]
    simp [Instr.fill, newRow, e0]
  · simp only [h0, if_false, Sem.run_bind, hu, Result.andThen_ok, Sem.run_pure, hc]
    have e1 : ((Array.range (len * n)).map fun i => z.toArray[i % z.toArray.size]!) = ((List.range (len * n)).map fun i => z.toArray[i % z.toArray.size]!).toArray := by
      rw [← Array.toList_inj]; simp [Array.toList_range]
    have e2 : (ps.map fun (x : Nat × Operand) => (x.1, a.eval x.2)).toList = ps.toList.map fun p => (p.1, a.eval p.2) := by simp
    simp only [e1]
    rw [show (Array.map (fun x => match x with | (i, x) => (i, a.eval x)) ps) = (ps.map fun (x : Nat × Operand) => (x.1, a.eval x.2)) from rfl, e2, hfill]
    simp [newRow]

end Go.Proofs.YtnaoeggecibkmaaDoor.Gh
