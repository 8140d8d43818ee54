/- All operations do what gH says; a region in its written order does what gO says. -/
import Derived.Test.YtnaoeggecibkmaaDoorFg
namespace Go.Proofs.YtnaoeggecibkmaaDoor.Gh
open Go Go.RowKit
set_option linter.unusedVariables false
set_option linter.unusedSimpArgs false

theorem call_sound {P : Program} {o : Oper} {c : Call} {f : Operand} {a : Act} {W w : World} {G : GH} {K : Value → GH → Prop} (ho : o.op = .call c) (hcc : c.callee = .value f) (hw : Holds W w G)
    (h : gCl P (a.eval f) (c.args.toList.map a.eval) G K) : OpOk P o a W w K := by
  unfold gCl at h
  split at h
  case h_2 => exact h.elim
  rename_i g first cap hf
  obtain ⟨⟨fn, hfn, hname, hbody⟩, hc⟩ := h
  have hcalls := hc W w hw
  intro next Q hn
  unfold Oper.wp
  have hrun : (execOp a.eval o).run P w = .ok (.enter g (first ++ c.args.map a.eval ++ cap)) w := by
    rw [execOp.eq_def]; simp only [ho]
    simp only [resolve, hcc, hf, Deferred.ofValue, Sem.run_bind, Sem.run_pure, Result.andThen_ok, invoke, callFunc, run_program, hfn, hname, hbody, Bool.false_eq_true, if_false]
  rw [hrun, Oper.upon_enter]
  have hargs : (first.toList ++ c.args.toList.map a.eval ++ cap.toList).toArray = first ++ c.args.map a.eval ++ cap := by
    rw [← Array.toList_inj]; simp
  rw [hargs] at hcalls
  exact hcalls.mono fun e w' ⟨v, G', he, hk, hh⟩ => by subst he; exact hn v G' w' hk hh

theorem light_sound {P : Program} {o : Oper} {i : Ins} {a : Act} {W w : World} {G : GH} {K : Value → GH → Prop} (hd : dec P o.op = some i) (hw : Holds W w G) (h : ∃ v, lv i a.eval G = some v ∧ K v G) : OpOk P o a W w K := by
  obtain ⟨v, h1, h2⟩ := h
  exact OpOk.value (lv_sound hd h1 hw) h2 hw

def isLight : Ins → Bool
  | .bad | .al _ | .bx _ | .bs _ _ | .mk _ _ _ _ _ | .st _ _ _ | .ap _ _ _ _ _ | .call _ _ | .s2b _ | .b2s _ | .apz _ _ _ _ _ | .clr _ _ _ | .alB _ _ => false
  | _ => true
theorem gH_light {P : Program} {i : Ins} {ev : Operand → Value} {G : GH} {K : Value → GH → Prop} (hl : isLight i = true) (h : gH P i ev G K) : ∃ v, lv i ev G = some v ∧ K v G := by
  cases i <;> first | (simp [isLight] at hl; done) | exact h

theorem op_sound {P : Program} {o : Oper} {i : Ins} {a : Act} {W w : World} {G : GH} {K : Value → GH → Prop} (hd : dec P o.op = some i) (hw : Holds W w G) (h : gH P i a.eval G K) : OpOk P o a W w K := by
  by_cases hl : isLight i = true
  · exact light_sound hd hw (gH_light hl h)
  generalize ho : o.op = op at hd
  cases op with
  | alloc t =>
    simp only [dec] at hd
    cases hz : cellsZ P t with
    | none => rw [hz] at hd; cases hd
    | some z =>
      rw [hz] at hd
      simp only [Option.map_some, Option.some.injEq] at hd
      split at hd
      · subst hd; exact alB_sound ho hz hw h
      · subst hd; exact al_sound ho hz hw h
  | box t y =>
    simp only [dec] at hd
    cases hd; exact bx_sound ho hw h
  | build t ps =>
    simp only [dec] at hd
    exfalso; apply hl; split at hd <;> try (cases hd; done)
    split at hd <;> try (cases hd; done)
    obtain ⟨_, _, rfl⟩ := Option.map_eq_some_iff.1 hd; rfl
  | buildSlice t len ps =>
    simp only [dec] at hd
    split at hd
    · rename_i e hu
      split at hd
      · rename_i n z hs hz
        obtain ⟨l, hp, hd⟩ := Option.bind_eq_some_iff.1 hd
        split at hd
        · rename_i hll; cases hd; exact bs_sound ho hu hs hz hp hll hw h
        · cases hd
      · cases hd
    · cases hd
  | load t x =>
    simp only [dec] at hd
    exfalso; apply hl; split at hd <;> try (cases hd; done)
    split at hd
    · split at hd <;> cases hd; rfl
    · cases hd; rfl
  | store t p x =>
    simp only [dec] at hd
    obtain ⟨n, hs, rfl⟩ := Option.map_eq_some_iff.1 hd; exact st_sound ho hs hw h
  | binOp op t x y yt =>
    simp only [dec] at hd
    exfalso; apply hl
    split at hd
    · split at hd <;> try (cases hd; done)
      all_goals first | (cases hd; rfl) | (split at hd <;> cases hd; rfl)
    · split at hd <;> try (cases hd; done)
      all_goals first | (cases hd; rfl) | (split at hd <;> cases hd; rfl)
    · cases hd; rfl
  | convert s t x =>
    simp only [dec] at hd
    split at hd <;> try (cases hd; done)
    · exfalso; apply hl; cases hd; rfl
    · split at hd <;> cases hd; exact h.elim
    · rename_i hu1 hu2
      split at hd <;> cases hd
      rename_i he
      exact b2s_sound ho hu1 hu2 he hw h
  | makeInterface t x =>
    simp only [dec] at hd
    exfalso; apply hl; split at hd <;> cases hd; rfl
  | makeSlice t l c =>
    simp only [dec] at hd
    split at hd <;> try (cases hd; done)
    rename_i e hu
    split at hd <;> try (cases hd; done)
    rename_i i' z hi hz
    split at hd <;> try (cases hd; done)
    rename_i hll; cases hd; exact mk_sound ho hu hi hz hll hw h
  | slice t x lo hi mx =>
    simp only [dec] at hd
    exfalso; apply hl
    cases mx with
    | some _ => simp at hd
    | none =>
      simp only at hd
      split at hd <;> try (cases hd; done)
      · cases hd; rfl
      · obtain ⟨n, hs, rfl⟩ := Option.map_eq_some_iff.1 hd; rfl
  | fieldAddr t x f =>
    simp only [dec] at hd
    exfalso; apply hl
    split at hd <;> try (cases hd; done)
    obtain ⟨fd, _, hd⟩ := Option.bind_eq_some_iff.1 hd
    obtain ⟨n, _, hd⟩ := Option.bind_eq_some_iff.1 hd
    split at hd <;> cases hd; rfl
  | field t x f =>
    simp only [dec] at hd
    exfalso; apply hl
    split at hd <;> try (cases hd; done)
    obtain ⟨fd, _, hd⟩ := Option.bind_eq_some_iff.1 hd
    split at hd <;> try (cases hd; done)
    split at hd <;> cases hd <;> rfl
  | indexAddr t x j =>
    simp only [dec] at hd
    exfalso; apply hl
    split at hd <;> try (cases hd; done)
    obtain ⟨n, hs, rfl⟩ := Option.map_eq_some_iff.1 hd; rfl
  | index t x j =>
    simp only [dec] at hd
    exfalso; apply hl; split at hd <;> cases hd; rfl
  | call c =>
    simp only [dec] at hd
    split at hd <;> try (cases hd; done)
    · rename_i f hcc; cases hd; exact call_sound ho hcc hw h
    · exfalso; apply hl
      split at hd <;> try (cases hd; done)
      split at hd <;> cases hd <;> rfl
    · exfalso; apply hl
      split at hd <;> try (cases hd; done)
      split at hd <;> cases hd <;> rfl
    · rename_i hcc
      split at hd <;> try (cases hd; done)
      rename_i x t hca hct
      split at hd <;> try (cases hd; done)
      rename_i e hu
      split at hd <;> try (cases hd; done)
      rename_i n z hs hz
      split at hd <;> try (cases hd; done)
      rename_i hll; cases hd; exact clr_sound ho hcc hca hct hu hs hz hll hw h
    · exfalso; apply hl; cases hd; rfl
    · exfalso; apply hl; cases hd; rfl
    · rename_i hcc
      split at hd <;> try (cases hd; done)
      rename_i s x t t' hca hct
      split at hd <;> try (cases hd; done)
      · rename_i e e' hu hu'
        split at hd <;> try (cases hd; done)
        rename_i i' z hi hz
        split at hd <;> try (cases hd; done)
        rename_i hll; cases hd; exact ap_sound ho hcc hca hct hu hu' hi hz hll hw h
      · rename_i e k hu hu'
        split at hd <;> try (cases hd; done)
        rename_i i' z hi hz
        split at hd <;> try (cases hd; done)
        rename_i hll; cases hd; exact apz_sound ho hcc hca hct hu hu' hi hz hll hw h
  | _ => simp only [dec] at hd; first | (cases hd; done) | (cases hd; exact absurd rfl hl)

def decI (P : Program) (o : Op) : Ins := (dec P o).getD .bad
theorem decI_of {P : Program} {o : Op} {i : Ins} (h : decI P o = i) (hb : i ≠ .bad) : dec P o = some i := by
  unfold decI at h
  cases hd : dec P o with
  | none => simp [hd] at h; exact absurd h.symm hb
  | some k => simp [hd] at h; rw [h]
theorem decI_lv {P : Program} {o : Op} {i : Ins} {ev : Operand → Value} {G : GH} {v : Value} (h : decI P o = i) (hv : lv i ev G = some v) : dec P o = some i :=
  decI_of h (fun hb => by subst hb; simp [lv] at hv)
theorem opI_sound {P : Program} {o : Oper} {i : Ins} {a : Act} {W w : World} {G : GH} {K : Value → GH → Prop} (hd : decI P o.op = i) (hw : Holds W w G) (h : gH P i a.eval G K) : OpOk P o a W w K :=
  op_sound (decI_of hd (fun hb => by subst hb; exact h)) hw h

end Go.Proofs.YtnaoeggecibkmaaDoor.Gh
