/- The light operations of a region: one theorem; and the heavy operations, the code tree, the contracts: definitions. -/
import Derived.Test.YtnaoeggecibkmaaDoorFc
namespace Go.Proofs.YtnaoeggecibkmaaDoor.Gh
open Go Go.RowKit
set_option linter.unusedVariables false
set_option linter.unusedSimpArgs false

theorem bld_run {P : Program} {t : TypeId} {fs : Array Field} {z : List Value} {ps : List (Nat × Operand)} {qs : List (Nat × Nat × Operand)} {ev : Operand → Value} {v : Value} {w : World}
    (ht : P.underlying t = some (.struct fs)) (hz : cellsZ P t = some z) (ha : fs.toList.all (fun f => (szOf P f.type).isSome) = true) (hq : decBld P fs ps = some qs)
    (h : (bldV z (qs.map fun p => (p.1, p.2.1, ev p.2.2))).map (fun cs => Value.agg cs.toArray) = some v) :
    (Instr.build t (ps.toArray.map fun (i, x) => (i, ev x))).run P w = .ok v w := by
  obtain ⟨u, hu, hc⟩ := cellsZ_run hz w
  cases hb : bldV z (qs.map fun p => (p.1, p.2.1, ev p.2.2)) with
  | none => simp [hb] at h
  | some r =>
    simp [hb] at h; subst h
    obtain ⟨h1, h2⟩ := decBld_spec ev ps qs hq
    have hp := places_run (P := P) w fs.toList (fun f hf => List.all_eq_true.1 ha f hf)
    have hf := fill_spec (fun i => ((fs.toList.map fun f => (f.offset, (szOf P f.type).getD 0)).toArray)[i]?) (ps.map fun p => (p.1, ev p.2)) (qs.map fun p => (p.1, p.2.1, ev p.2.2)) z r
      (by simp [h1]) (fun j p q a b => by
        simp only [List.getElem?_map, Option.map_eq_some_iff] at a b
        obtain ⟨p', hp', rfl⟩ := a
        obtain ⟨q', hq', rfl⟩ := b
        obtain ⟨⟨f, hf, ho, hs⟩, hx⟩ := h2 j p' q' hp' hq'
        refine ⟨?_, by simp [hx]⟩
        simp [hf, ho, hs]) hb
    have hm : (fs.mapM fun f => (do pure (f.offset, ← sizeOf f.type) : Sem (Nat × Nat))).run P w = .ok ((fs.toList.map fun f => (f.offset, (szOf P f.type).getD 0)).toArray) w := by
      rw [Array.mapM_eq_mapM_toList, Sem.run_map, hp]; rfl
    unfold Instr.build
    simp only [Sem.run_bind, hu, Result.andThen_ok, und_run ht, hm, hc]
    simp only [List.map_toArray]
    rw [show (List.map (fun x => match x with | (i, x) => (i, ev x)) ps) = (ps.map fun p => (p.1, ev p.2)) from rfl]
    rw [hf]
    rfl

theorem lv_sound {P : Program} {o : Oper} {i : Ins} {a : Act} {W w : World} {G : GH} {v : Value} (hd : dec P o.op = some i) (h : lv i a.eval G = some v) (hw : Holds W w G) :
    (execOp a.eval o).run P w = .ok (.value v) w := by
  obtain ⟨dst, op, ty, pos, after, guard⟩ := o
  have fin : ∀ (s : Sem Value), s.run P w = .ok v w → (do pure (Next.value (← s)) : Sem Next).run P w = .ok (.value v) w := fun s hs => by
    rw [Sem.run_bind, hs]; rfl
  cases op with
  | move x => simp [dec] at hd; subst hd; simp [lv] at h; simp [execOp, h]
  | assign x => simp [dec] at hd; subst hd; simp [lv] at h; simp [execOp, h]
  | pick c x y =>
    simp [dec] at hd; subst hd
    simp only [lv] at h
    cases hc : a.eval c <;> simp [hc, onBool] at h
    simp [execOp, hc, asBool, h]
  | load t x =>
    simp only [dec] at hd
    cases hu : P.underlying t with
    | none => simp [hu] at hd
    | some d =>
      cases hs : szOf P t with
      | none => simp [hu, hs] at hd
      | some n =>
        simp only [hu, hs] at hd
        cases hag : aggB d with
        | false => simp [hag] at hd; subst hd; exact fin _ (ld_run hu hag hw h)
        | true =>
          simp [hag] at hd
          obtain ⟨hn, hd⟩ := hd
          subst hd; exact fin _ (ldn_run hu hag hs hn hw h)
  | build t ps =>
    simp only [dec] at hd
    cases hu : P.underlying t with
    | none => simp [hu] at hd
    | some d =>
      cases d <;> simp [hu] at hd
      rename_i fs
      cases hz : cellsZ P t with
      | none => simp [hz] at hd
      | some z =>
        simp only [hz] at hd
        split at hd
        · rename_i hall
          cases hq : decBld P fs ps.toList with
          | none => simp [hq] at hd
          | some qs =>
            simp [hq] at hd; subst hd
            have := bld_run (w := w) hu hz (by simpa using hall) hq h
            exact fin _ (by simpa using this)
        · cases hd
  | nilCheck x =>
    simp [dec] at hd; subst hd
    simp only [lv] at h
    unfold ncV at h
    split at h
    · rename_i hx; cases h; simp [execOp, hx]
    · cases h
    · rename_i hx; cases h; simp [execOp, hx]
    · cases h
  | binOp op t x y yt =>
    simp only [dec] at hd
    split at hd
    · split at hd
      · rename_i hu; cases hd; exact fin _ (eqb_run w false hu h)
      · cases hd; exact fin _ (bin_run w h)
      · cases hd; exact fin _ (bin_run w h)
      · rename_i hu; cases hd; exact fin _ (eqs_run w false hu h)
      · rename_i hu
        split at hd
        · rename_i hc; cases hd; exact fin _ (eqi_run w false hu hc h)
        · cases hd
      · rename_i fs hu
        split at hd
        · rename_i hc; cases hd; simp at hc; exact fin _ (eqa_run w false hu hc.1.1 hc.1.2 hc.2 h)
        · cases hd
      · cases hd
    · split at hd
      · rename_i hu; cases hd; exact fin _ (eqb_run w true hu h)
      · cases hd; exact fin _ (bin_run w h)
      · cases hd; exact fin _ (bin_run w h)
      · rename_i hu; cases hd; exact fin _ (eqs_run w true hu h)
      · rename_i hu
        split at hd
        · rename_i hc; cases hd; exact fin _ (eqi_run w true hu hc h)
        · cases hd
      · rename_i fs hu
        split at hd
        · rename_i hc; cases hd; simp at hc; exact fin _ (eqa_run w true hu hc.1.1 hc.1.2 hc.2 h)
        · cases hd
      · cases hd
    · cases hd; exact fin _ (bin_run w h)
  | unOp op t x => simp [dec] at hd; subst hd; exact fin _ (pureOf_run h P w)
  | convert s t x =>
    simp only [dec] at hd
    split at hd
    · rename_i k1 k h1 h2
      cases hd
      simp only [lv] at h
      cases hx : a.eval x <;> simp [hx, onInt] at h
      exact fin _ (by simp [convert, und_run h1, und_run h2, hx, Conv.intToInt, h])
    · split at hd <;> cases hd
      simp [lv] at h
    · split at hd <;> cases hd
      simp [lv] at h
    · cases hd
  | makeInterface t x =>
    simp only [dec] at hd
    split at hd
    · cases hd
    · rename_i d hu hno
      cases hd
      simp [lv] at h; subst h
      exact fin _ (by
        simp only [Instr.makeInterface, Sem.run_bind, und_run hno, Result.andThen_ok]
        cases d <;> first | rfl | exact absurd hno (hu _))
    · cases hd
  | makeFunc f x y =>
    simp [dec] at hd; subst hd
    simp [lv] at h
    exact fin _ (by simp only [Instr.makeFunc, ← h, Sem.run_pure]; congr 2 <;> (rw [← Array.toList_inj]; simp))
  | slice t x lo hi mx =>
    cases mx with
    | some _ => simp [dec] at hd
    | none =>
      simp only [dec] at hd
      split at hd
      · rename_i hu; cases hd; exact fin _ (sls_run hu h)
      · rename_i e hu
        cases hs : szOf P e with
        | none => simp [hs] at hd
        | some n => simp [hs] at hd; subst hd; exact fin _ (sl_run hu hs h)
      · cases hd
  | fieldAddr t x f =>
    simp only [dec] at hd
    split at hd
    · rename_i fs hu
      cases hf : fs[f]? with
      | none => simp [hf] at hd
      | some fd =>
        cases hs : szOf P fd.type with
        | none => simp [hf, hs] at hd
        | some n =>
          simp [hf, hs] at hd
          obtain ⟨hn, rfl⟩ := hd
          exact fin _ (fa_run hu hf hs hn h)
    · cases hd
  | field t x f =>
    simp only [dec] at hd
    split at hd
    · rename_i fs hu
      cases hf : fs[f]? with
      | none => simp [hf] at hd
      | some fd =>
        simp only [hf, Option.bind_some] at hd
        split at hd
        · rename_i d n hdd hs
          cases hag : aggB d with
          | false => simp [hag] at hd; subst hd; exact fin _ (fl_run hu hf hdd hag h)
          | true => simp [hag] at hd; subst hd; exact fin _ (fln_run hu hf hdd hag hs h)
        · cases hd
    · cases hd
  | indexAddr t x i =>
    simp only [dec] at hd
    split at hd
    · rename_i e hu
      cases hs : szOf P e with
      | none => simp [hs] at hd
      | some n => simp [hs] at hd; subst hd; exact fin _ (ia_run hu hs h)
    · cases hd
  | index t x i =>
    simp only [dec] at hd
    split at hd
    · rename_i hu; cases hd; exact fin _ (ixs_run hu h)
    · cases hd
  | extract x k =>
    simp [dec] at hd; subst hd
    simp only [lv] at h
    cases hx : a.eval x <;> simp [hx, onTup] at h
    exact fin _ (by simp [Instr.extract, hx, h])
  | call c =>
    obtain ⟨callee, args, tys⟩ := c
    simp only [dec] at hd
    split at hd
    · cases hd; simp [lv] at h
    · split at hd
      · rename_i x t e1 e2
        have e1 : args = #[x] := by simpa using congrArg List.toArray e1
        have e2 : tys = #[t] := by simpa using congrArg List.toArray e2
        subst e1; subst e2
        split at hd
        · rename_i hu; cases hd
          simp only [lv] at h
          cases hx : a.eval x <;> simp [hx, onSl] at h
          simp [execOp, resolve, invoke, builtin, Builtin.len_, und_run hu, hx, goInt, h]
        · rename_i hu; cases hd
          simp only [lv] at h
          cases hx : a.eval x <;> simp [hx, onStr] at h
          simp [execOp, resolve, invoke, builtin, Builtin.len_, und_run hu, hx, goInt, h]
        · cases hd
      · cases hd
    · split at hd
      · rename_i x t e1 e2
        have e1 : args = #[x] := by simpa using congrArg List.toArray e1
        have e2 : tys = #[t] := by simpa using congrArg List.toArray e2
        subst e1; subst e2
        split at hd
        · rename_i hu; cases hd
          simp only [lv] at h
          cases hx : a.eval x <;> simp [hx, onSl] at h
          simp [execOp, resolve, invoke, builtin, Builtin.cap_, und_run hu, hx, goInt, h]
        · cases hd
      · cases hd
    · split at hd
      · split at hd
        · split at hd
          · split at hd <;> cases hd
            simp [lv] at h
          · cases hd
        · cases hd
      · cases hd
    · cases hd
      have h' := pureOf_run h P w
      rw [show (List.map a.eval args.toList).toArray = args.map a.eval by rw [← Array.toList_inj]; simp] at h'
      have h2 : (Builtin.max_ tys ty (args.map a.eval)).run P w = .ok v w := h'
      simp [execOp, resolve, invoke, builtin, h2]
    · cases hd
      have h' := pureOf_run h P w
      rw [show (List.map a.eval args.toList).toArray = args.map a.eval by rw [← Array.toList_inj]; simp] at h'
      have h2 : (Builtin.min_ tys ty (args.map a.eval)).run P w = .ok v w := h'
      simp [execOp, resolve, invoke, builtin, h2]
    · split at hd
      · split at hd
        · split at hd
          · split at hd <;> cases hd
            simp [lv] at h
          · cases hd
        · split at hd
          · split at hd <;> cases hd
            simp [lv] at h
          · cases hd
        · cases hd
      · cases hd
    · cases hd
  | alloc t =>
    simp only [dec] at hd
    cases hz : cellsZ P t with
    | none => rw [hz] at hd; cases hd
    | some z =>
      rw [hz] at hd
      simp only [Option.map_some, Option.some.injEq] at hd
      split at hd <;> subst hd <;> simp [lv] at h
  | box t x => simp [dec] at hd; subst hd; simp [lv] at h
  | store t x y => simp only [dec] at hd; cases hz : szOf P t <;> simp [hz] at hd; subst hd; simp [lv] at h
  | buildSlice t n ps =>
    simp only [dec] at hd
    split at hd
    · split at hd
      · cases hp : decParts ps.toList 0 with
        | none => simp [hp] at hd
        | some l =>
          simp only [hp, Option.bind_some] at hd
          split at hd <;> cases hd
          simp [lv] at h
      · cases hd
    · cases hd
  | makeSlice t l c =>
    simp only [dec] at hd
    split at hd
    · split at hd
      · split at hd <;> cases hd
        simp [lv] at h
      · cases hd
    · cases hd
  | _ => simp [dec] at hd

end Go.Proofs.YtnaoeggecibkmaaDoor.Gh
