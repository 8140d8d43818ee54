/- A region in its written order; a region that draws its order. -/
import Derived.Test.YtnaoeggecibkmaaDoorFh
namespace Go.Proofs.YtnaoeggecibkmaaDoor.Gh
open Go Go.RowKit
set_option linter.unusedVariables false
set_option linter.unusedSimpArgs false

def decG (ops : Array Oper) : Option (Nat × Bool) → Option (Option (Nat × Bool))
  | none => some none
  | some (j, want) => (((ops[j]?).bind (·.dst)).map fun t => some (t, want))
def decOp (P : Program) (n : Nat) (ops : Array Oper) (o : Oper) : Option GOp :=
  (decG ops o.guard).bind fun g => if (o.dst.all (· < n)) = true then some ⟨o.dst, g, decI P o.op⟩ else none
def decOps (P : Program) (n : Nat) (ops : Array Oper) : List Oper → Option (List GOp)
  | [] => some []
  | o :: r => (decOp P n ops o).bind fun g => (decOps P n ops r).map (g :: ·)

/-- The frame that a walk is in: so many temporaries, nothing deferred. -/
structure Fr (n : Nat) (a : Act) : Prop where
  size : a.tmps.size = n
  defers : a.defers = []
theorem Fr.put {n : Nat} {a : Act} (h : Fr n a) (d : Option Nat) (v : Value) : Fr n (a.put d v) := ⟨by rw [put_size]; exact h.size, by rw [put_defers]; exact h.defers⟩

theorem decOp_spec {P : Program} {n : Nat} {ops : Array Oper} {o : Oper} {g : GOp} (h : decOp P n ops o = some g) :
    decI P o.op = g.i ∧ g.d = o.dst ∧ (∀ t, o.dst = some t → t < n) ∧ decG ops o.guard = some g.g := by
  unfold decOp at h
  obtain ⟨gg, h2, h⟩ := Option.bind_eq_some_iff.1 h
  split at h
  · rename_i hd; cases h; exact ⟨rfl, rfl, fun t ht => by rw [ht] at hd; simpa using hd, h2⟩
  · cases h
theorem want_eq {n : Nat} {ops : Array Oper} {o : Oper} {g : Option (Nat × Bool)} {a : Act} (h : decG ops o.guard = some g) : Region.wanted o (yielded ops a.tmps) = gwant g (TM a) := by
  unfold decG at h
  split at h
  · rename_i hg; cases h; simp [Region.wanted, hg, gwant]
  · rename_i j want hg
    obtain ⟨t, ht, rfl⟩ := Option.map_eq_some_iff.1 h
    simp only [Region.wanted, hg, gwant, yielded, ht, Option.bind_some, TM]
    cases hv : a.tmps[t]? with
    | none => simp [Array.getD_eq_getD_getElem?, hv, undef]
    | some v => cases v <;> simp [Array.getD_eq_getD_getElem?, hv]

theorem seq_sound {P : Program} {n : Nat} {ops : Array Oper} {K : (Nat → Value) → GH → Prop} {W : World} {Q : Exit → Act → World → Prop} (hQ : ∀ a w G, K (TM a) G → Holds W w G → Fr n a → Q .normal a w) :
    ∀ (l : List Oper) (k : Nat) (gs : List GOp), l = ops.toList.drop k → decOps P n ops l = some gs → ∀ (a : Act) (w : World) (G : GH), Fr n a → Holds W w G → gO P gs K (TM a) G →
      wpOps P ops Q (List.range' k l.length) a w
  | [], k, gs, hl, hd, a, w, G, hf, hw, h => by
    simp [decOps] at hd; subst hd
    simp only [List.length_nil, List.range'_zero, wpOps]
    exact hQ a w G h hw hf
  | o :: r, k, gs, hl, hd, a, w, G, hf, hw, h => by
    simp only [decOps] at hd
    obtain ⟨g, hg, hd⟩ := Option.bind_eq_some_iff.1 hd
    obtain ⟨gr, hgr, rfl⟩ := Option.map_eq_some_iff.1 hd
    obtain ⟨h1, h2, h3, h4⟩ := decOp_spec hg
    have hok : ops[k]? = some o := by
      have : (ops.toList.drop k)[0]? = some o := by rw [← hl]; rfl
      rw [List.getElem?_drop] at this; simpa using this
    have hrest : r = ops.toList.drop (k + 1) := by rw [← List.drop_drop, ← hl]; rfl
    have ih := seq_sound hQ r (k + 1) gr hrest hgr
    simp only [List.length_cons, List.range'_succ, wpOps, hok]
    rw [want_eq (n := n) h4]
    simp only [gO] at h
    split
    · rename_i hwt
      rw [if_pos hwt, ← eval_TM] at h
      refine .inl (opI_sound h1 hw h _ _ fun v G' w' hk hh => ih _ _ G' (hf.put _ _) hh ?_)
      rw [TM_put _ _ _ (fun t ht => by rw [hf.size]; exact h3 t ht), ← h2]; exact hk
    · rename_i hwt
      rw [if_neg hwt] at h
      refine ih _ _ G (hf.put _ _) hw ?_
      rw [TM_put _ _ _ (fun t ht => by rw [hf.size]; exact h3 t ht), ← h2]; exact h

/-! ### a region that draws its order -/
section
variable {P : Program} {ops : Array Oper} {Q : Exit → Act → World → Prop}
/-- Whatever order is picked from here on: a light operation leaves the world as it is; behind a heavy one hold the conditions of those that may still come up. -/
def wpL (P : Program) (ops : Array Oper) (Q : Exit → Act → World → Prop) (light : Nat → Bool) (L : List ((Nat → Bool) × (World → Prop))) : Nat → Array Bool → Act → World → Prop
  | 0, listed, a, w => Region.ready .any ops listed = [] ∧ Q .normal a w
  | fuel + 1, listed, a, w =>
    (Region.ready .any ops listed = [] → Q .normal a w) ∧
    ∀ j ∈ Region.ready .any ops listed, wpOp P ops Q j (fun a' w' => ((light j = true → w' = w) ∧ (light j = false → ∀ p ∈ L, p.1 j = true → p.2 w')) ∧ wpL P ops Q light L fuel (listed.setIfInBounds j true) a' w') a w

theorem wpL_mono {light : Nat → Bool} {L L' : List ((Nat → Bool) × (World → Prop))} (hs : ∀ p ∈ L', p ∈ L) : ∀ (fuel : Nat) (listed : Array Bool) (a : Act) (w : World), wpL P ops Q light L fuel listed a w → wpL P ops Q light L' fuel listed a w
  | 0, _, _, _, h => h
  | fuel + 1, _, _, _, h => ⟨h.1, fun j hj => wpOp_mono (fun a' w' h' => ⟨⟨h'.1.1, fun hl p hp => h'.1.2 hl p (hs p hp)⟩, wpL_mono hs fuel _ a' w' h'.2⟩) (h.2 j hj)⟩
theorem wpL_any {light : Nat → Bool} {L : List ((Nat → Bool) × (World → Prop))} : ∀ (fuel : Nat) (listed : Array Bool) (a : Act) (w : World), wpL P ops Q light L fuel listed a w → wpAny P .any ops Q fuel listed a w
  | 0, _, _, _, h => h
  | fuel + 1, _, _, _, h => ⟨h.1, fun j hj => wpOp_mono (fun a' w' h' => wpL_any fuel _ a' w' h'.2) (h.2 j hj)⟩

/-- An operation that may come up may be taken first, if it yields its value in every world that meets its condition S, S holds, S is asked behind each heavy operation that may come before it, and all others are apart from it. -/
theorem wpL_first {light : Nat → Bool} {A : Nat → Bool} {S : World → Prop} {L : List ((Nat → Bool) × (World → Prop))} {i : Nat} {oi : Oper} {v : Value} (hi : ops[i]? = some oi) (hli : light i = true)
    (hsel : ∀ (j : Nat) (o : Oper) cs b, ops[j]? = some o → o.op ≠ .select cs b) (hQ : ∀ c a w, Q (.panic c) (a.put oi.dst v) w → Q (.panic c) a w)
    (hA : ∀ j oj, ops[j]? = some oj → light j = false → (∀ e ∈ oj.after, Region.binds .any e = true → e.on ≠ i) → A j = true) :
    ∀ (fuel : Nat) (listed : Array Bool) (a : Act) (w : World),
      (∀ j oj, ops[j]? = some oj → j ≠ i → listed.getD j true = false → (∀ e ∈ oj.after, Region.binds .any e = true → e.on ≠ i) → oi.apart ops oj = true) →
      i ∈ Region.ready .any ops listed → YieldsIf P ops S oi v a → S w →
      wpL P ops Q light ((A, S) :: L) fuel (listed.setIfInBounds i true) (a.put oi.dst v) w → wpL P ops Q light L (fuel + 1) listed a w := by
  intro fuel
  induction fuel with
  | zero =>
    intro listed a w _ hr hy hS H
    refine ⟨fun h => (by rw [h] at hr; cases hr), fun j hj => ?_⟩
    by_cases hji : j = i
    · subst hji
      have H' : wpL P ops Q light L 0 (listed.setIfInBounds j true) (a.put oi.dst v) w := H
      exact hy.wpOp hi hS ⟨⟨fun _ => rfl, fun h => by rw [hli] at h; cases h⟩, H'⟩
    · have := ready_mono hj hji
      rw [H.1] at this
      cases this
  | succ fuel ih =>
    intro listed a w hfree hr hy hS H
    refine ⟨fun h => (by rw [h] at hr; cases hr), fun j hj => ?_⟩
    by_cases hji : j = i
    · subst hji
      exact hy.wpOp hi hS ⟨⟨fun _ => rfl, fun h => by rw [hli] at h; cases h⟩, wpL_mono (fun p hp => List.mem_cons_of_mem _ hp) _ _ _ _ H⟩
    · have h1 := H.2 j (ready_mono hj hji)
      obtain ⟨hjun, oj, hoj, hall⟩ := mem_ready.1 hj
      have hnot : ∀ e ∈ oj.after, Region.binds .any e = true → e.on ≠ i := fun e he hb heq => by
        have h1 := hall e he hb
        have h0 := (mem_ready.1 hr).1
        rw [heq] at h1
        rcases Nat.lt_or_ge i listed.size with h' | h'
        · simp [h'] at h0 h1; rw [h0] at h1; cases h1
        · simp [Array.getElem?_eq_none h'] at h1
      have h2 := wpOp_putIf hoj (hfree j oj hoj hji hjun hnot) (fun cs b => hsel i oi cs b hi) (fun cs b => hsel j oj cs b hoj) hQ hy h1
      have hfree' : ∀ k ok, ops[k]? = some ok → k ≠ i → (listed.setIfInBounds j true).getD k true = false →
          (∀ e ∈ ok.after, Region.binds .any e = true → e.on ≠ i) → oi.apart ops ok = true := fun k ok hk hki hun hno => by
        refine hfree k ok hk hki ?_ hno
        by_cases hjk : j = k
        · subst hjk; exact hjun
        · rw [getD_set_ne true hjk] at hun; exact hun
      refine wpOp_mono (fun a' w' h3 => ?_) h2
      obtain ⟨hy', ⟨hlw, hhv⟩, hrest⟩ := h3
      have hS' : S w' := by
        cases hlj : light j with
        | true => rw [hlw hlj]; exact hS
        | false => exact hhv hlj (A, S) (by simp) (hA j oj hoj hlj hnot)
      refine ⟨⟨hlw, fun hl p hp => hhv hl p (List.mem_cons_of_mem _ hp)⟩, ih (listed.setIfInBounds j true) a' w' hfree' (ready_mono hr (Ne.symm hji)) hy' hS' ?_⟩
      rw [Array.setIfInBounds_comm _ _ hji]
      exact hrest
end

/-- A step of a region that draws: its number, whether it is heavy, the loads that must last behind it, the operation. -/
structure DOp where
  j : Nat
  heavy : Bool
  keep : List Nat
  op : GOp
def isLd : Ins → Bool | .ld _ | .ldn _ _ => true | _ => false
def keepAll (ks : List Nat) : List (Nat × (GH → Prop)) → GH → Prop
  | [], _ => True
  | (i, p) :: R, G => (if ks.contains i = true then p G else True) ∧ keepAll ks R G
def gD (P : Program) : List DOp → List (Nat × (GH → Prop)) → (List (Nat × (GH → Prop)) → (Nat → Value) → GH → Prop) → (Nat → Value) → GH → Prop
  | [], R, K, T, G => K R T G
  | o :: r, R, K, T, G =>
    if gwant o.op.g T = true then
      if o.heavy = true then gH P o.op.i (evT T) G (fun v G' => keepAll o.keep R G' ∧ gD P r R K (setd T o.op.d v) G')
      else ∃ v, lv o.op.i (evT T) G = some v ∧ gD P r (if isLd o.op.i = true then (o.j, fun G' => lv o.op.i (evT T) G' = some v) :: R else R) K (setd T o.op.d v) G
    else (if o.heavy = true then keepAll o.keep R G else True) ∧ gD P r (if (isLd o.op.i && !o.heavy) = true then (o.j, fun _ => True) :: R else R) K (setd T o.op.d undef) G

/-- The plan of a region that draws: light operations as soon as they may come up; a heavy one only where it alone may. -/
def pickLight (light : Nat → Bool) (ops : Array Oper) (listed : Array Bool) : List Nat → Option Nat
  | [] => none
  | i :: r => if light i && Region.free .any ops listed i then some i else pickLight light ops listed r
def planD (light : Nat → Bool) (ops : Array Oper) : Nat → Array Bool → Option (List (Nat × Bool))
  | 0, listed => match Region.ready .any ops listed with | [] => some [] | _ => none
  | fuel + 1, listed =>
    match Region.ready .any ops listed with
    | [] => some []
    | rs => match pickLight light ops listed rs with
      | some i => (planD light ops fuel (listed.setIfInBounds i true)).map ((i, false) :: ·)
      | none => match rs with
        | [i] => if light i then none else (planD light ops fuel (listed.setIfInBounds i true)).map ((i, true) :: ·)
        | _ => none
def keepOf (ops : Array Oper) (o : Oper) (lds : List Nat) : List Nat := lds.filter fun i => !(o.after.any fun e => Region.binds .any e && e.on == i)
def decPlan (P : Program) (n : Nat) (ops : Array Oper) : List (Nat × Bool) → List Nat → Option (List DOp)
  | [], _ => some []
  | (i, hv) :: r, lds => (ops[i]?).bind fun o => (decOp P n ops o).bind fun g =>
      (decPlan P n ops r (if isLd g.i && !hv then i :: lds else lds)).map (⟨i, hv, if hv then keepOf ops o lds else [], g⟩ :: ·)
def lightAt (P : Program) (ops : Array Oper) (i : Nat) : Bool := match ops[i]? with | some o => isLight (decI P o.op) | none => false
def decDraw (P : Program) (n : Nat) (ops : Array Oper) : Option (List DOp) :=
  if Region.noSelect ops then (planD (lightAt P ops) ops ops.size (Array.replicate ops.size false)).bind fun pl => decPlan P n ops pl [] else none

/-- a region in which heavy operations may come up side by side: all orders. -/
inductive DT where
  | fin
  | path (ds : List DOp) (t : DT)
  | both (a b : DT)
def gT (P : Program) : DT → List (Nat × (GH → Prop)) → ((Nat → Value) → GH → Prop) → (Nat → Value) → GH → Prop
  | .fin, _, K, T, G => K T G
  | .path ds t, R, K, T, G => gD P ds R (fun R' T' G' => gT P t R' K T' G') T G
  | .both a b, R, K, T, G => gT P a R K T G ∧ gT P b R K T G
def oneT (P : Program) (n : Nat) (ops : Array Oper) (lds : List Nat) (f : Nat → Option DT) (i : Nat) : Option DT :=
  if lightAt P ops i = true then none else (ops[i]?).bind fun o => (decOp P n ops o).bind fun g => (f i).map fun t => .path [⟨i, true, keepOf ops o lds, g⟩] t
def altT (P : Program) (n : Nat) (ops : Array Oper) (lds : List Nat) (f : Nat → Option DT) : List Nat → Option DT
  | [] => none
  | [i] => oneT P n ops lds f i
  | i :: r => (oneT P n ops lds f i).bind fun a => (altT P n ops lds f r).map fun b => .both a b
def decT (P : Program) (n : Nat) (ops : Array Oper) : Nat → Array Bool → List Nat → Option DT
  | 0, listed, _ => match Region.ready .any ops listed with | [] => some .fin | _ => none
  | fuel + 1, listed, lds =>
    match Region.ready .any ops listed with
    | [] => some .fin
    | rs => match pickLight (lightAt P ops) ops listed rs with
      | some i => (ops[i]?).bind fun o => (decOp P n ops o).bind fun g => (decT P n ops fuel (listed.setIfInBounds i true) (if isLd g.i = true then i :: lds else lds)).map fun t => .path [⟨i, false, [], g⟩] t
      | none => altT P n ops lds (fun i => decT P n ops fuel (listed.setIfInBounds i true) lds) rs
def decTree (P : Program) (n : Nat) (ops : Array Oper) : Option DT :=
  if Region.noSelect ops then decT P n ops ops.size (Array.replicate ops.size false) [] else none

end Go.Proofs.YtnaoeggecibkmaaDoor.Gh
