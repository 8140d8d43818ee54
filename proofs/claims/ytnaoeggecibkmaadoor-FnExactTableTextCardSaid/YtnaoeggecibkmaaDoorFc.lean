/- The light operations of a region yield what lv says: the theorem over all of them. -/
import Derived.Test.YtnaoeggecibkmaaDoorFb
namespace Go.Proofs.YtnaoeggecibkmaaDoor.Gh
open Go Go.RowKit
set_option linter.unusedVariables false
set_option linter.unusedSimpArgs false

theorem binV_run {P : Program} {op : BinOp} {x y v : Value} (t : TypeId) (h : binV op x y = some v) (w : World) : (binOp op t x y).run P w = .ok v w := by
  unfold binV at h
  split at h
  · rename_i k a k' b
    rw [show binOp op t (.int k a) (.int k' b) = binOp op 0 (.int k a) (.int k' b) by cases op <;> rfl]
    exact pureOf_run h P w
  · rename_i a b
    rw [show binOp op t (.string a) (.string b) = binOp op 0 (.string a) (.string b) by cases op <;> rfl]
    exact pureOf_run h P w
  · cases h

theorem guard_run {P : Program} {op : BinOp} {t : TypeId} {x y : Operand} {a b : Value} (w : World)
    (h : ∀ cs ds, a = .agg cs → b = .agg ds → P.eqGuardType P.depth t = false) (hn : a ≠ .nilIface) : (eqGuard op t x y a b).run P w = .ok () w := by
  cases a with
  | nilIface => exact absurd rfl hn
  | agg cs =>
    cases b with
    | agg ds => simp [eqGuard, h cs ds rfl rfl]
    | _ => simp [eqGuard]
  | _ => simp [eqGuard]

theorem binV_shape {op : BinOp} {x y v : Value} (h : binV op x y = some v) : (∃ k a, x = .int k a) ∨ ∃ s, x = .string s := by
  unfold binV at h; split at h
  · exact .inl ⟨_, _, rfl⟩
  · exact .inr ⟨_, rfl⟩
  · cases h

theorem bin_run {P : Program} {op : BinOp} {t : TypeId} {x y : Operand} {a b v : Value} (w : World) (h : binV op a b = some v) :
    (do eqGuard op t x y a b; binOp op t a b : Sem Value).run P w = .ok v w := by
  have hs := binV_shape h
  rw [Sem.run_bind, guard_run w (fun cs ds e _ => by rcases hs with ⟨_, _, h⟩ | ⟨_, h⟩ <;> simp [h] at e) (by rcases hs with ⟨_, _, h⟩ | ⟨_, h⟩ <;> simp [h])]
  exact binV_run t h w

theorem eqb_run {P : Program} {t : TypeId} {x y : Operand} {a b v : Value} (w : World) (neg : Bool) (ht : P.underlying t = some .bool) (h : eqbV neg a b = some v) :
    (do eqGuard (if neg then .neq else .eql) t x y a b; binOp (if neg then .neq else .eql) t a b : Sem Value).run P w = .ok v w := by
  cases a <;> simp [eqbV, onBool] at h
  cases b <;> simp at h
  rename_i a b
  rw [Sem.run_bind, guard_run w (fun cs ds e _ => by cases e) (by simp)]
  have he : (Op.equal t (.bool a) (.bool b)).run P w = .ok (a == b) w := by
    have key : ∀ q, (Op.equalIn (q + 1) t (.bool a) (.bool b)).run P w = .ok (a == b) w := fun q => by simp [Op.equalIn, und_run ht]
    exact key 9999
  cases neg
  · simp [binOp, he, ← h]
  · simp [binOp, he, ← h]

theorem eqs_run {P : Program} {t e : TypeId} {x y : Operand} {a b v : Value} (w : World) (neg : Bool) (ht : P.underlying t = some (.slice e)) (h : eqsV neg a b = some v) :
    (do eqGuard (if neg then .neq else .eql) t x y a b; binOp (if neg then .neq else .eql) t a b : Sem Value).run P w = .ok v w := by
  cases a <;> simp [eqsV, onSl] at h
  cases b <;> simp at h
  rename_i A n c B m d
  rw [Sem.run_bind, guard_run w (fun cs ds e _ => by cases e) (by simp)]
  cases A with
  | none =>
    simp at h; subst h
    have he : (Op.equal t (.slice none n c) (.slice B m d)).run P w = .ok B.isNone w := by
      have key : ∀ q, (Op.equalIn (q + 1) t (.slice none n c) (.slice B m d)).run P w = .ok B.isNone w := fun q => by simp [Op.equalIn, und_run ht]
      exact key 9999
    cases neg
    · simp [binOp, he]
    · simp [binOp, he]
  | some A =>
    simp at h
    obtain ⟨rfl, h⟩ := h; subst h
    have he : (Op.equal t (.slice (some A) n c) (.slice none m d)).run P w = .ok false w := by
      have key : ∀ q, (Op.equalIn (q + 1) t (.slice (some A) n c) (.slice none m d)).run P w = .ok false w := fun q => by simp [Op.equalIn, und_run ht]
      exact key 9999
    cases neg
    · simp [binOp, he]
    · simp [binOp, he]

theorem eqi_run {P : Program} {t : TypeId} {ms : Array (String × TypeId)} {x y : Operand} {a b v : Value} (w : World) (neg : Bool) (ht : P.underlying t = some (.interface ms)) (hy : constB y = true) (h : eqiV neg a b = some v) :
    (do eqGuard (if neg then .neq else .eql) t x y a b; binOp (if neg then .neq else .eql) t a b : Sem Value).run P w = .ok v w := by
  cases b <;> simp only [eqiV] at h <;> try (cases h; done)
  obtain ⟨r, hr, rfl⟩ := Option.map_eq_some_iff.1 h
  obtain ⟨u, rfl⟩ : ∃ u, y = .const u := by cases y <;> first | exact ⟨_, rfl⟩ | (simp [constB] at hy)
  cases a <;> simp only [nilI] at hr <;> try (cases hr; done)
  · cases hr
    rename_i tx vx
    have he : (Op.equal t (.iface tx vx) .nilIface).run P w = .ok false w := by
      have key : ∀ q, (Op.equalIn (q + 1) t (.iface tx vx) .nilIface).run P w = .ok false w := fun q => by simp [Op.equalIn, und_run ht]
      exact key 9999
    cases neg
    · simp [eqGuard, binOp, he]
    · simp [eqGuard, binOp, he]
  · cases hr
    have he : (Op.equal t .nilIface .nilIface).run P w = .ok true w := by
      have key : ∀ q, (Op.equalIn (q + 1) t .nilIface .nilIface).run P w = .ok true w := fun q => by simp [Op.equalIn, und_run ht]
      exact key 9999
    cases neg
    · simp [eqGuard, binOp, he]
    · simp [eqGuard, binOp, he]

theorem eqa_run {P : Program} {t : TypeId} {fs : Array Field} {x y : Operand} {a b v : Value} (w : World) (neg : Bool) (ht : P.underlying t = some (.struct fs)) (h1 : P.stoodInHeld t = false)
    (h2 : P.eqGuardType P.depth t = false) (h3 : intFields P fs.toList 0 = true) (h : eqaV neg fs.size a b = some v) :
    (do eqGuard (if neg then .neq else .eql) t x y a b; binOp (if neg then .neq else .eql) t a b : Sem Value).run P w = .ok v w := by
  cases a <;> simp only [eqaV, onAgg] at h <;> try (cases h; done)
  cases b <;> simp only at h <;> try (cases h; done)
  rename_i xs ys
  split at h
  case isFalse => cases h
  rename_i hl
  obtain ⟨r, hr, rfl⟩ := Option.map_eq_some_iff.1 h
  have hfo : P.fieldsOf t = fs := by simp [Program.fieldsOf, ht]
  have he : (Op.equal t (.agg xs) (.agg ys)).run P w = .ok r w := by
    have := run_equalIn_struct (P := P) w 9999 t xs ys (by rw [hfo]; exact ht) h1
    unfold Op.equal Op.maxDepth
    rw [this, hfo]
    exact eqCells_spec w 9998 xs ys fs.toList 0 xs.toList ys.toList r h3 rfl rfl (by simpa using hl) hr
  rw [Sem.run_bind, guard_run w (fun cs ds e _ => h2) (by simp)]
  cases neg
  · simp [binOp, he]
  · simp [binOp, he]

theorem ld_run {P : Program} {t : TypeId} {d : TypeDesc} {x v : Value} {W w : World} {G : GH} (hd : P.underlying t = some d) (ha : aggB d = false) (hw : Holds W w G) (h : onPtr x (rd G) = some v) :
    (Instr.loadAt t x).run P w = .ok v w := by
  cases x <;> simp [onPtr] at h
  obtain ⟨a, rfl, hc⟩ := hw.rd h
  simp [Instr.loadAt, Instr.sureAddr, loadVar, agg_run hd, ha, hc]

theorem ldn_run {P : Program} {t : TypeId} {d : TypeDesc} {n : Nat} {x v : Value} {W w : World} {G : GH} (hd : P.underlying t = some d) (ha : aggB d = true) (hs : szOf P t = some n) (hn : 0 < n) (hw : Holds W w G)
    (h : (onPtr x fun A => (rdn G A 0 n).map fun l => .agg l.toArray) = some v) :
    (Instr.loadAt t x).run P w = .ok v w := by
  cases x <;> simp [onPtr] at h
  rename_i A
  obtain ⟨l, hl, rfl⟩ := h
  obtain ⟨h1, h2⟩ := rdn_spec n 0 l hl
  have h0 : ∃ u, rd G (pa A 0) = some u := by
    cases l with
    | nil => simp at h1; omega
    | cons u l => exact ⟨u, by simpa using h2 0 u rfl⟩
  obtain ⟨u, hu⟩ := h0
  obtain ⟨a, ha', _⟩ := hw.rd hu
  rw [pa_zero] at ha'; subst ha'
  have := run_loadCells_list (P := P) (w := w) a l (fun j v hj => hw.cell (by simpa using h2 j v hj))
  rw [h1] at this
  simp [Instr.loadAt, Instr.sureAddr, loadVar, agg_run hd, ha, szOf_run hs, this]

theorem fa_run {P : Program} {t : TypeId} {fs : Array Field} {f n : Nat} {fd : Field} {x v : Value} {w : World} (ht : P.underlying t = some (.struct fs)) (hf : fs[f]? = some fd) (hs : szOf P fd.type = some n) (hn : 0 < n)
    (h : (onPtr x fun A => if 0 < sn A then some (.pointer (pa A fd.offset)) else none) = some v) : (Instr.fieldAt t x f).run P w = .ok v w := by
  cases x <;> simp [onPtr] at h
  rename_i A
  obtain ⟨hA, rfl⟩ := h
  obtain ⟨a, rfl⟩ := sn_some hA
  have : n ≠ 0 := by omega
  simp [Instr.fieldAt, und_run ht, hf, Instr.sureAddr, fieldPlace, szOf_run hs, this, pa]

theorem ia_run {P : Program} {t e : TypeId} {n : Nat} {x i v : Value} {w : World} (ht : P.underlying t = some (.slice e)) (hs : szOf P e = some n) (h : iaV n x i = some v) :
    (Instr.indexAt t x i).run P w = .ok v w := by
  cases x <;> simp [iaV, onSl] at h
  cases i <;> simp [onInt] at h
  rename_i A len c k j
  obtain ⟨⟨h0, h1, hA⟩, rfl⟩ := h
  obtain ⟨a, rfl⟩ := sn_some hA
  simp [Instr.indexAt, asIntOf, und_run ht, h0, h1, szOf_run hs, pa]

theorem fl_run {P : Program} {t : TypeId} {fs : Array Field} {f : Nat} {fd : Field} {d : TypeDesc} {x v : Value} {w : World} (ht : P.underlying t = some (.struct fs)) (hf : fs[f]? = some fd)
    (hd : P.underlying fd.type = some d) (ha : aggB d = false) (h : (onAgg x fun cs => cs[fd.offset]?) = some v) : (Instr.field t x f).run P w = .ok v w := by
  cases x <;> simp [onAgg] at h
  simp [Instr.field, und_run ht, hf, asAgg, part, agg_run hd, ha, h]
theorem fln_run {P : Program} {t : TypeId} {fs : Array Field} {f n : Nat} {fd : Field} {d : TypeDesc} {x v : Value} {w : World} (ht : P.underlying t = some (.struct fs)) (hf : fs[f]? = some fd)
    (hd : P.underlying fd.type = some d) (ha : aggB d = true) (hs : szOf P fd.type = some n) (h : (onAgg x fun cs => some (Value.agg ((cs.drop fd.offset).take n).toArray)) = some v) : (Instr.field t x f).run P w = .ok v w := by
  cases x <;> simp [onAgg] at h
  rename_i cs
  subst h
  simp [Instr.field, und_run ht, hf, asAgg, part, agg_run hd, ha, szOf_run hs]
  rw [← Array.toList_inj]
  simp [List.take_drop]

theorem sl_run {P : Program} {t e : TypeId} {n : Nat} {x v : Value} {lo hi : Option Value} {w : World} (ht : P.underlying t = some (.slice e)) (hs : szOf P e = some n) (h : slV n x lo hi = some v) :
    (Instr.sliceAt t x lo hi none).run P w = .ok v w := by
  cases x <;> simp only [slV, onSl] at h <;> try (cases h; done)
  rename_i A m c
  obtain ⟨hh, h1, h⟩ := Option.bind_eq_some_iff.1 h
  obtain ⟨l, h2, h⟩ := Option.bind_eq_some_iff.1 h
  split at h
  case isFalse => cases h
  cases h
  simp only [Instr.sliceAt, Sem.run_bind, und_run ht, Result.andThen_ok]
  simp only [Instr.slice, Sem.run_bind, und_run ht, Result.andThen_ok, bounds_run w h1 h2, szOf_run hs]
  rfl
theorem sls_run {P : Program} {t : TypeId} {x v : Value} {lo hi : Option Value} {w : World} (ht : P.underlying t = some .string) (h : slsV x lo hi = some v) :
    (Instr.sliceAt t x lo hi none).run P w = .ok v w := by
  cases x <;> simp only [slsV, onStr] at h <;> try (cases h; done)
  obtain ⟨hh, h1, h⟩ := Option.bind_eq_some_iff.1 h
  obtain ⟨l, h2, h⟩ := Option.bind_eq_some_iff.1 h
  split at h
  case isFalse => cases h
  cases h
  simp only [Instr.sliceAt, Sem.run_bind, und_run ht, Result.andThen_ok]
  simp [Instr.slice, und_run ht, bounds_run w h1 h2]
theorem ixs_run {P : Program} {t : TypeId} {x i v : Value} {w : World} (ht : P.underlying t = some .string) (h : ixsV x i = some v) :
    (Instr.index t x i).run P w = .ok v w := by
  cases x <;> simp [ixsV, onStr] at h
  cases i <;> simp [onInt] at h
  obtain ⟨h0, b, hb, rfl⟩ := h
  simp [Instr.index, asIntOf, und_run ht, h0, hb]

theorem decBld_spec {P : Program} {fs : Array Field} (ev : Operand → Value) : ∀ (ps : List (Nat × Operand)) (qs : List (Nat × Nat × Operand)), decBld P fs ps = some qs → qs.length = ps.length ∧
    ∀ (j : Nat) p q, ps[j]? = some p → qs[j]? = some q → (∃ f, fs[p.1]? = some f ∧ f.offset = q.1 ∧ szOf P f.type = some q.2.1) ∧ q.2.2 = p.2
  | [], qs, h => by simp [decBld] at h; subst h; simp
  | (i, x) :: r, qs, h => by
    simp only [decBld] at h
    cases hf : fs[i]? with
    | none => simp [hf] at h
    | some f =>
      cases hs : szOf P f.type with
      | none => simp [hf, hs] at h
      | some n =>
        cases hr : decBld P fs r with
        | none => simp [hf, hs, hr] at h
        | some k =>
          simp [hf, hs, hr] at h; subst h
          obtain ⟨h1, h2⟩ := decBld_spec ev r k hr
          refine ⟨by simp [h1], fun j p q a b => ?_⟩
          cases j with
          | zero => simp at a b; subst a; subst b; exact ⟨⟨f, hf, rfl, hs⟩, rfl⟩
          | succ j => simp at a b; exact h2 j p q a b

theorem cellsZ_run {P : Program} {t : TypeId} {z : List Value} (h : cellsZ P t = some z) (w : World) : ∃ v, (zeroValue t).run P w = .ok v w ∧ v.cells = z.toArray := by
  unfold cellsZ at h
  cases hi : P.info? t with
  | none => simp [hi] at h
  | some i =>
    cases hz : i.zero with
    | none => simp [hi, hz] at h
    | some u => simp [hi, hz] at h; exact ⟨u, by simp [zeroValue, info_run hi, hz], by simp [← h]⟩

theorem places_run {P : Program} (w : World) : ∀ (fs : List Field) , (∀ f ∈ fs, (szOf P f.type).isSome) →
    (fs.mapM fun f => (do pure (f.offset, ← sizeOf f.type) : Sem (Nat × Nat))).run P w = .ok (fs.map fun f => (f.offset, (szOf P f.type).getD 0)) w
  | [], _ => by simp
  | f :: fs, h => by
    have hf := h f (by simp)
    obtain ⟨n, hn⟩ := Option.isSome_iff_exists.1 hf
    have ih := places_run w fs (fun g hg => h g (by simp [hg]))
    rw [List.mapM_cons, Sem.run_bind, Sem.run_bind, szOf_run hn]
    simp only [Result.andThen_ok, Sem.run_pure, Sem.run_bind]
    rw [ih]
    simp [hn]

end Go.Proofs.YtnaoeggecibkmaaDoor.Gh
