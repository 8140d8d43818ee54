/- The code tree, its predicate transformer, and how a function gets its contract. -/
import Derived.Test.YtnaoeggecibkmaaDoorFj
namespace Go.Proofs.YtnaoeggecibkmaaDoor.Gh
open Go Go.RowKit
set_option linter.unusedVariables false
set_option linter.unusedSimpArgs false

inductive Ex where
  | nrm
  | ex (id : Nat)
  | ret
inductive GCode where
  | skip
  | reg (ops : List GOp)
  | dreg (ops : List DOp)
  | dtree (t : DT)
  | seq (a b : GCode)
  | cond (c : Operand) (a b : GCode)
  | blk (id : Nat) (c : GCode)
  | loop (c : GCode)
  | exit (id : Nat)
  | ret

def decCode (P : Program) (n : Nat) : Code → Option GCode
  | .skip | .label _ => some .skip
  | .region _ ops false => (decOps P n ops ops.toList).map .reg
  | .region _ ops true => match decDraw P n ops with | some ds => some (.dreg ds) | none => (decTree P n ops).map .dtree
  | .seq a b => (decCode P n a).bind fun x => (decCode P n b).map (.seq x ·)
  | .cond c a b => (decCode P n a).bind fun x => (decCode P n b).map (.cond c x ·)
  | .block id c => (decCode P n c).map (.blk id ·)
  | .loop c => (decCode P n c).map .loop
  | .exit id => some (.exit id)
  | .ret => some .ret
  | _ => none

abbrev Cont := Ex → (Nat → Value) → GH → Prop
def SeqK (F : Cont → (Nat → Value) → GH → Prop) (Q : Cont) : Cont := fun e T G => match e with | .nrm => F Q T G | e => Q e T G
def BlkK (id : Nat) (Q : Cont) : Cont := fun e T G => match e with | .ex i => if i = id then Q .nrm T G else Q (.ex i) T G | e => Q e T G
def LoopK (I : Nat → (Nat → Value) → GH → Prop) (m : Nat) (Q : Cont) : Cont := fun e T G => match e with | .nrm => ∃ k, k < m ∧ ∃ G', Sub G' G ∧ I k T G' | e => Q e T G
def gCd (c : Value) (A B : Prop) : Prop := match c with | .bool t => if t = true then A else B | _ => False
def gLoop (F : Cont → (Nat → Value) → GH → Prop) (Q : Cont) (T : Nat → Value) (G : GH) : Prop :=
  ∃ (I : Nat → (Nat → Value) → GH → Prop) (m : Nat), (∃ G', Sub G' G ∧ I m T G') ∧ ∀ m T G, I m T G → F (LoopK I m Q) T G
def gW (P : Program) : GCode → Cont → (Nat → Value) → GH → Prop
  | .skip, Q, T, G => Q .nrm T G
  | .reg ops, Q, T, G => gO P ops (Q .nrm) T G
  | .dreg ops, Q, T, G => gD P ops [] (fun _ => Q .nrm) T G
  | .dtree t, Q, T, G => gT P t [] (Q .nrm) T G
  | .seq a b, Q, T, G => gW P a (SeqK (gW P b) Q) T G
  | .cond c a b, Q, T, G => gCd (evT T c) (gW P a Q T G) (gW P b Q T G)
  | .blk id c, Q, T, G => gW P c (BlkK id Q) T G
  | .loop c, Q, T, G => gLoop (gW P c) Q T G
  | .exit id, Q, T, G => Q (.ex id) T G
  | .ret, Q, T, G => Q .ret T G

def toX (W : World) (n : Nat) (Q : Cont) : Exit → Act → World → Prop := fun e a w =>
  match e with
  | .normal => ∃ G, Q .nrm (TM a) G ∧ Holds W w G ∧ Fr n a
  | .exit id => ∃ G, Q (.ex id) (TM a) G ∧ Holds W w G ∧ Fr n a
  | .ret => ∃ G, Q .ret (TM a) G ∧ Holds W w G ∧ Fr n a
  | _ => False

theorem wp_loop_rel {P : Program} {c : Code} {Q : Exit → Act → World → Prop} (I : Nat → Act → World → Prop)
    (round : ∀ n a w, I n a w → c.wp P (Exit.then (fun a' w' => ∃ m, m < n ∧ I m a' w') Q) a w) (n : Nat) (a : Act) (w : World) (h₀ : I n a w) : (Code.loop c).wp P Q a w := by
  intro b k cs
  have key : ∀ n a w, I n a w →
      ∃ e a' w', Q e a' w' ∧ Arrives P (lone (b.at a (.code c :: .inLoop c :: k)) cs w) b k cs e a' w' := by
    intro n
    induction n using Nat.strongRecOn with
    | _ n ih =>
      intro a w hI
      obtain ⟨e, a₁, w₁, hq, harr⟩ := round n a w hI b (.inLoop c :: k) cs
      cases e with
      | normal =>
        obtain ⟨m, hlt, hI₁⟩ := hq
        obtain ⟨e₂, a₂, w₂, hq₂, harr₂⟩ := ih m hlt a₁ w₁ hI₁
        exact ⟨e₂, a₂, w₂, hq₂, .of_steps (Steps.trans harr (.one step_inLoop)) harr₂⟩
      | exit id => exact ⟨_, a₁, w₁, hq, .pass (x := .inLoop c) rfl (fun _ _ => .inl (by simp)) harr⟩
      | goto l => exact ⟨_, a₁, w₁, hq, .pass (x := .inLoop c) rfl (fun _ _ => .inl (by simp)) harr⟩
      | ret => exact ⟨_, a₁, w₁, hq, .pass (x := .inLoop c) rfl (fun _ _ => .inl (by simp)) harr⟩
      | panic ch => exact ⟨_, a₁, w₁, hq, .pass (x := .inLoop c) rfl (fun _ _ => .inl (by simp)) harr⟩
      | outgrown => exact ⟨_, a₁, w₁, hq, .pass (x := .inLoop c) rfl (fun _ _ => .inl (by simp)) harr⟩
  obtain ⟨e, a', w', hq, harr⟩ := key n a w h₀
  exact ⟨e, a', w', hq, .of_steps (.one step_loop) harr⟩

theorem gW_sound {P : Program} (hm : P.follows .mixedOrders = true) {n : Nat} {W : World} : ∀ (c : Code) (g : GCode), decCode P n c = some g → ∀ (Q : Cont) (a : Act) (w : World) (G : GH), Fr n a → Holds W w G → gW P g Q (TM a) G → c.wp P (toX W n Q) a w
  | .skip, g, hd, Q, a, w, G, hf, hw, h => by simp [decCode] at hd; subst hd; exact wp_skip ⟨G, h, hw, hf⟩
  | .label l, g, hd, Q, a, w, G, hf, hw, h => by simp [decCode] at hd; subst hd; exact wp_label ⟨G, h, hw, hf⟩
  | .region id ops false, g, hd, Q, a, w, G, hf, hw, h => by
    simp only [decCode] at hd
    obtain ⟨gs, hgs, rfl⟩ := Option.map_eq_some_iff.1 hd
    refine wp_region ?_
    rw [List.range_eq_range']
    have := seq_sound (P := P) (n := n) (ops := ops) (K := Q .nrm) (W := W) (Q := toX W n Q) (fun a w G k hh hf => ⟨G, k, hh, hf⟩) ops.toList 0 gs rfl hgs a w G hf hw h
    simpa using this
  | .region id ops true, g, hd, Q, a, w, G, hf, hw, h => by
    simp only [decCode] at hd
    refine wp_region_any hm (wpL_any (light := lightAt P ops) (L := []) _ _ _ _ ?_)
    split at hd
    · rename_i gs hgs
      cases hd
      unfold decDraw at hgs
      split at hgs
      case isFalse => cases hgs
      rename_i hsel
      obtain ⟨pl, hpl, hds⟩ := Option.bind_eq_some_iff.1 hgs
      exact draw_sound (P := P) (n := n) (ops := ops) (K := fun _ => Q .nrm) (W := W) (Q := toX W n Q) hsel (fun _ a w G k hh hf => ⟨G, k, hh, hf⟩) (fun c a w h => h) _ _ pl [] gs [] [] hpl hds rfl (fun p hp => by cases hp) a _ G hf hw.drew h
    · obtain ⟨t, ht, rfl⟩ := Option.map_eq_some_iff.1 hd
      unfold decTree at ht
      split at ht
      case isFalse => cases ht
      rename_i hsel
      exact tree_sound (P := P) (n := n) (ops := ops) (K := Q .nrm) (W := W) (Q := toX W n Q) hsel (fun a w G k hh hf => ⟨G, k, hh, hf⟩) (fun c a w h => h) _ _ t [] [] [] ht rfl (fun p hp => by cases hp) a _ G hf hw.drew h
  | .seq x y, g, hd, Q, a, w, G, hf, hw, h => by
    simp only [decCode] at hd
    obtain ⟨gx, hx, hd⟩ := Option.bind_eq_some_iff.1 hd
    obtain ⟨gy, hy, rfl⟩ := Option.map_eq_some_iff.1 hd
    refine wp_seq (wp_mono (gW_sound hm x gx hx _ a w G hf hw h) fun e a w hq => ?_)
    cases e <;> simp only [toX, Exit.then] at hq ⊢ <;> try exact hq
    obtain ⟨G', k, hh, hf'⟩ := hq
    exact gW_sound hm y gy hy Q a w G' hf' hh k
  | .cond c x y, g, hd, Q, a, w, G, hf, hw, h => by
    simp only [decCode] at hd
    obtain ⟨gx, hx, hd⟩ := Option.bind_eq_some_iff.1 hd
    obtain ⟨gy, hy, rfl⟩ := Option.map_eq_some_iff.1 hd
    simp only [gW, gCd] at h
    split at h
    · rename_i t ht
      refine wp_cond (t := t) (by rw [eval_TM]; exact ht) ?_
      cases t
      · simp only [Bool.false_eq_true, if_false] at h ⊢; exact gW_sound hm y gy hy Q a w G hf hw h
      · simp only [if_true] at h ⊢; exact gW_sound hm x gx hx Q a w G hf hw h
    · exact h.elim
  | .block id c, g, hd, Q, a, w, G, hf, hw, h => by
    simp only [decCode] at hd
    obtain ⟨gc, hc, rfl⟩ := Option.map_eq_some_iff.1 hd
    refine wp_block (wp_mono (gW_sound hm c gc hc _ a w G hf hw h) fun e a w hq => ?_)
    cases e with
    | exit i =>
      simp only [toX, Exit.inBlock, BlkK] at hq ⊢
      split
      · rename_i hi; simp only [hi, if_true] at hq; exact hq
      · rename_i hi; simp only [hi, if_false] at hq; exact hq
    | _ => exact hq
  | .loop c, g, hd, Q, a, w, G, hf, hw, h => by
    simp only [decCode] at hd
    obtain ⟨gc, hc, rfl⟩ := Option.map_eq_some_iff.1 hd
    obtain ⟨I, m, ⟨G0, hs0, h0⟩, hr⟩ := h
    refine wp_loop_rel (fun k a w => ∃ G, I k (TM a) G ∧ Holds W w G ∧ Fr n a) (fun k a w ⟨G', hI, hh, hf'⟩ => ?_) m a w ⟨G0, h0, hw.sub hs0, hf⟩
    refine wp_mono (gW_sound hm c gc hc _ a w G' hf' hh (hr k (TM a) G' hI)) fun e a w hq => ?_
    cases e <;> simp only [toX, Exit.then, LoopK] at hq ⊢ <;> try exact hq
    obtain ⟨G'', ⟨k', hk, G3, hs3, hI'⟩, hh', hf''⟩ := hq
    exact ⟨k', hk, G3, hI', hh'.sub hs3, hf''⟩
  | .exit id, g, hd, Q, a, w, G, hf, hw, h => by simp [decCode] at hd; subst hd; exact wp_exit ⟨G, h, hw, hf⟩
  | .ret, g, hd, Q, a, w, G, hf, hw, h => by simp [decCode] at hd; subst hd; exact wp_ret ⟨G, h, hw, hf⟩
  | .rangeFunc _ _ _ _, g, hd, _, _, _, _, _, _, _ => by simp [decCode] at hd
  | .scope _, g, hd, _, _, _, _, _, _, _ => by simp [decCode] at hd
  | .goto _, g, hd, _, _, _, _, _, _, _ => by simp [decCode] at hd
  | .refuse _, g, hd, _, _, _, _, _, _, _ => by simp [decCode] at hd

/-! ### functions -/
/-- a result: a temporary, or a variable in memory (of so many cells, if it is a struct). -/
inductive RV where
  | t (n : Nat)
  | c (a : Nat)
  | cn (a n : Nat)
def resTmps (P : Program) : List ResultVar → Option (List RV)
  | [] => some []
  | .tmp t :: r => (resTmps P r).map (.t t :: ·)
  | .cell a t :: r => match P.underlying t, szOf P t with
    | some d, some n => if aggB d then (if 0 < n then (resTmps P r).map (.cn a n :: ·) else none) else (resTmps P r).map (.c a :: ·)
    | _, _ => none
def decFn (P : Program) (fn : Func) : Option (Nat × List RV × GCode) :=
  if (fn.name == "runtime.NumGoroutine") = true then none else
  fn.body.bind fun c => (resTmps P fn.results.toList).bind fun rs => (decCode P fn.ntmps c).map fun g => (fn.ntmps, rs, g)
def T0 : List Value → Nat → Value
  | [], _ => undef
  | v :: _, 0 => v
  | _ :: vs, n + 1 => T0 vs n
def rv1 (T : Nat → Value) (G : GH) : RV → Option Value
  | .t n => some (T n)
  | .c a => onPtr (T a) (rd G)
  | .cn a n => onPtr (T a) fun A => (rdn G A 0 n).map fun l => .agg l.toArray
def rvs (T : Nat → Value) (G : GH) : List RV → Option (List Value)
  | [] => some []
  | r :: rs => (rv1 T G r).bind fun v => (rvs T G rs).map (v :: ·)
def resV (T : Nat → Value) (G : GH) (rs : List RV) : Option Value := match rs with
  | [r] => rv1 T G r
  | rs => (rvs T G rs).map fun l => .tuple l.toArray
def RetO (K : Value → GH → Prop) (G : GH) : Option Value → Prop
  | some v => K v G
  | none => False
def RetK (rs : List RV) (K : Value → GH → Prop) : Cont := fun e T G => match e with | .ex _ => False | _ => RetO K G (resV T G rs)

theorem T0_getD : ∀ (l : List Value) (t : Nat), T0 l t = l.getD t undef
  | [], _ => rfl
  | _ :: _, 0 => rfl
  | _ :: vs, n + 1 => by simp [T0, T0_getD vs n]

def resRun (a : Act) : ResultVar → Sem Value
  | .tmp t => pure (a.tmps.getD t undef)
  | .cell x t => do loadVar t (← asAddr (a.tmps.getD x undef))
theorem rv1_run {P : Program} {x : ResultVar} {xs : List ResultVar} {r : RV} {rs : List RV} (h : resTmps P (x :: xs) = some (r :: rs)) {a : Act} {W w : World} {G : GH} {v : Value} (hw : Holds W w G) (hv : rv1 (TM a) G r = some v) :
    resTmps P xs = some rs ∧ (resRun a x).run P w = .ok v w := by
  cases x with
  | tmp t =>
    simp only [resTmps] at h
    obtain ⟨rs', h', e⟩ := Option.map_eq_some_iff.1 h
    cases e
    simp [rv1] at hv
    exact ⟨h', by simp [resRun, ← hv, TM]⟩
  | cell x t =>
    simp only [resTmps] at h
    split at h
    · rename_i d n hd hs
      split at h
      · rename_i hag
        split at h
        · rename_i hn
          obtain ⟨rs', h', e⟩ := Option.map_eq_some_iff.1 h
          cases e
          have := ldn_run (P := P) (W := W) hd hag hs hn hw hv
          refine ⟨h', ?_⟩
          simp only [TM] at this
          cases hx : a.tmps.getD x undef with
          | pointer A =>
            rw [hx] at this
            cases A with
            | none => simp [Instr.loadAt, Instr.sureAddr] at this
            | some A => simp only [resRun, hx, asAddr]; simpa [Instr.loadAt, Instr.sureAddr] using this
          | _ => rw [hx] at this; simp [Instr.loadAt, Instr.sureAddr] at this
        · cases h
      · rename_i hag
        obtain ⟨rs', h', e⟩ := Option.map_eq_some_iff.1 h
        cases e
        have := ld_run (P := P) (W := W) hd (by simpa using hag) hw hv
        refine ⟨h', ?_⟩
        simp only [TM] at this
        cases hx : a.tmps.getD x undef with
        | pointer A =>
          rw [hx] at this
          cases A with
          | none => simp [Instr.loadAt, Instr.sureAddr] at this
          | some A => simp only [resRun, hx, asAddr]; simpa [Instr.loadAt, Instr.sureAddr] using this
        | _ => rw [hx] at this; simp [Instr.loadAt, Instr.sureAddr] at this
    · cases h

theorem rvs_run {P : Program} {a : Act} {W w : World} {G : GH} (hw : Holds W w G) (F : ResultVar → Sem Value) (hF : ∀ x, F x = resRun a x) : ∀ (l : List ResultVar) (rs : List RV) (vs : List Value), resTmps P l = some rs → rvs (TM a) G rs = some vs → (l.mapM F).run P w = .ok vs w
  | [], rs, vs, h, hv => by simp [resTmps] at h; subst h; simp [rvs] at hv; subst hv; simp
  | x :: xs, rs, vs, h, hv => by
    cases rs with
    | nil => cases x <;> simp only [resTmps] at h
             · simp at h
             · revert h; (repeat' split) <;> simp
    | cons r rs =>
      simp only [rvs] at hv
      obtain ⟨v, h1, hv⟩ := Option.bind_eq_some_iff.1 hv
      obtain ⟨vs', h2, rfl⟩ := Option.map_eq_some_iff.1 hv
      obtain ⟨h3, h4⟩ := rv1_run h hw h1
      rw [List.mapM_cons, Sem.run_bind, hF, h4]
      simp only [Result.andThen_ok, Sem.run_bind]
      rw [rvs_run hw F hF xs rs vs' h3 h2]
      simp

theorem res_run {P : Program} {fn : Func} {rs : List RV} (h : resTmps P fn.results.toList = some rs) {a : Act} {W w : World} {G : GH} {v : Value} (hw : Holds W w G) (hv : resV (TM a) G rs = some v) : (results fn a.tmps).run P w = .ok v w := by
  have hl : ∃ vs, rvs (TM a) G rs = some vs ∧ (if h : vs.toArray.size = 1 then vs.toArray[0] else .tuple vs.toArray) = v := by
    rcases rs with _ | ⟨r, _ | ⟨r', rs⟩⟩
    · simp [resV, rvs] at hv; exact ⟨[], rfl, by simp [← hv]⟩
    · simp only [resV] at hv; exact ⟨[v], by simp [rvs, hv], by simp⟩
    · simp only [resV] at hv
      obtain ⟨vs, h1, rfl⟩ := Option.map_eq_some_iff.1 hv
      refine ⟨vs, h1, ?_⟩
      have : vs.length ≠ 1 := by
        simp only [rvs] at h1
        obtain ⟨_, _, h1⟩ := Option.bind_eq_some_iff.1 h1
        obtain ⟨_, h2, rfl⟩ := Option.map_eq_some_iff.1 h1
        obtain ⟨_, _, h2⟩ := Option.bind_eq_some_iff.1 h2
        obtain ⟨_, h3, rfl⟩ := Option.map_eq_some_iff.1 h2
        simp
      rw [dif_neg (by simpa using this)]
  obtain ⟨vs, h1, h2⟩ := hl
  unfold results
  rw [Sem.run_bind, Array.mapM_eq_mapM_toList, Sem.run_map, rvs_run hw _ (fun x => by cases x <;> rfl) _ _ _ h h1]
  simp only [Result.andThen_ok, Sem.run_pure]
  congr 1

theorem GC_intro {P : Program} (hm : P.follows .mixedOrders = true) {f : FuncId} {fn : Func} {n : Nat} {rs : List RV} {g : GCode} (hf : P.funcs[f]? = some fn) (hd : decFn P fn = some (n, rs, g)) {args : List Value} {G : GH} {K : Value → GH → Prop}
    (hn : args.length ≤ n) (h : gW P g (RetK rs K) (T0 args) G) : GC P f args G K := by
  unfold decFn at hd
  split at hd
  · cases hd
  rename_i hname
  obtain ⟨c, hc, hd⟩ := Option.bind_eq_some_iff.1 hd
  obtain ⟨rs', hrs, hd⟩ := Option.bind_eq_some_iff.1 hd
  obtain ⟨g', hg, hd⟩ := Option.map_eq_some_iff.1 hd
  cases hd
  refine ⟨⟨fn, hf, by simpa using hname, by simp [hc]⟩, fun W w hw => calls_of_wp hf hc ?_⟩
  have hT : TM { tmps := args.toArray ++ Array.replicate (fn.ntmps - args.toArray.size) undef, defers := [] } = T0 args := by
    funext t
    rw [T0_getD]
    simp only [TM, Array.getD_eq_getD_getElem?, Array.getElem?_append, Array.getElem?_replicate, List.size_toArray, List.getElem?_toArray, List.getD_eq_getElem?_getD]
    split
    · rfl
    · rename_i hlt
      rw [List.getElem?_eq_none (Nat.le_of_not_lt hlt)]
      split <;> rfl
  have := gW_sound hm (W := W) c g hg (RetK rs K) { tmps := args.toArray ++ Array.replicate (fn.ntmps - args.toArray.size) undef, defers := [] } w G ⟨by simp; omega, rfl⟩ hw (by rw [hT]; exact h)
  refine wp_mono this fun e a w hq => ?_
  have fin : ∀ G', RetO K G' (resV (TM a) G' rs) → Holds W w G' → Fr fn.ntmps a → (a.defers = [] ∧ ∃ v, (results fn a.tmps).run P w = .ok v w ∧ ∃ v' G'', Ending.returned v = .returned v' ∧ K v' G'' ∧ Holds W w G'') := fun G' hk hh hfr => by
    cases hv : resV (TM a) G' rs with
    | none => rw [hv] at hk; exact hk.elim
    | some v => rw [hv] at hk; exact ⟨hfr.defers, v, res_run hrs hh hv, v, G', rfl, hk, hh⟩
  cases e <;> simp only [toX, RetK] at hq <;> try exact hq.elim
  · obtain ⟨G', k, hh, hfr⟩ := hq; exact fin G' k hh hfr
  · obtain ⟨G', k, hh, hfr⟩ := hq; exact k.elim
  · obtain ⟨G', k, hh, hfr⟩ := hq; exact fin G' k hh hfr

abbrev tt (n : Nat) : Operand := .tmp n
abbrev ci (n : Int) : Operand := .const (.int .i64 n)
abbrev cb (b : Bool) : Operand := .const (.bool b)
abbrev ff (n : Nat) : Operand := .func n
abbrev oo (d : Nat) (i : Ins) : GOp := ⟨some d, none, i⟩
abbrev og (d : Nat) (g : Nat) (w : Bool) (i : Ins) : GOp := ⟨some d, some (g, w), i⟩
abbrev on (i : Ins) : GOp := ⟨none, none, i⟩
abbrev ong (g : Nat) (w : Bool) (i : Ins) : GOp := ⟨none, some (g, w), i⟩
abbrev dl (j : Nat) (o : GOp) : DOp := ⟨j, false, [], o⟩
abbrev dh (j : Nat) (ks : List Nat) (o : GOp) : DOp := ⟨j, true, ks, o⟩


end Go.Proofs.YtnaoeggecibkmaaDoor.Gh
