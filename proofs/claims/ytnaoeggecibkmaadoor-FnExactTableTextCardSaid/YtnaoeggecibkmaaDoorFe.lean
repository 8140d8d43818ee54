/- The heavy operations; the code tree; contracts; that a region in its written order does what gO says. -/
import Derived.Test.YtnaoeggecibkmaaDoorFd
namespace Go.Proofs.YtnaoeggecibkmaaDoor.Gh
open Go Go.RowKit
set_option linter.unusedVariables false
set_option linter.unusedSimpArgs false

/-! ### memory that turns -/
theorem Holds.lt {W w : World} {G : GH} (h : Holds W w G) {b : Nat} {e : Ent} (hb : G b = some e) : b < w.heap.size := by
  obtain ⟨el, fz, hw, _⟩ := h.ent b e hb
  exact (Array.getElem?_eq_some_iff.1 hw).1
theorem Holds.fresh {W w : World} {G : GH} (h : Holds W w G) : G w.heap.size = none := by
  cases hb : G w.heap.size with
  | none => rfl
  | some e => exact absurd (h.lt hb) (Nat.lt_irrefl _)
theorem Holds.drew {W w : World} {G : GH} (h : Holds W w G) : Holds W { w with drawn := w.drawn + 1 } G := ⟨h.below.drew, h.ent, fun d => Nat.le_succ_of_le (h.drawn d)⟩
theorem Holds.allocR {W w : World} {G : GH} (h : Holds W w G) (cs : List Value) (t : TypeId) (r : Rw) (ht : ∀ t', r.tag = some t' → t = t') :
    Holds W { w with heap := w.heap.push (.cells cs.toArray t) } (put G w.heap.size ⟨cs, r⟩) := by
  refine ⟨h.below.alloc h.below.size _, fun b e hb => ?_, h.drawn⟩
  unfold put at hb
  split at hb
  · rename_i hbe; subst hbe; cases hb
    exact ⟨t, (0, 0), by simp, fun _ => ⟨h.below.size, by simp⟩, fun t' h => ⟨ht t' h, rfl⟩⟩
  · rename_i hne
    obtain ⟨el, fz, hw, hr⟩ := h.ent b e hb
    have hlt := h.lt hb
    exact ⟨el, fz, by simp [Array.getElem?_push, Nat.ne_of_lt hlt, hw], hr⟩
theorem Holds.alloc {W w : World} {G : GH} (h : Holds W w G) (cs : List Value) (t : TypeId) :
    Holds W { w with heap := w.heap.push (.cells cs.toArray t) } (put G w.heap.size ⟨cs, true⟩) := h.allocR cs t _ fun _ h => by cases h
theorem put_put (G : GH) (b : Nat) (e f : Ent) : put (put G b e) b f = put G b f := by
  funext x; unfold put; split <;> rfl
theorem put_self {G : GH} {b : Nat} {e : Ent} (h : G b = some e) : put G b e = G := by
  funext x; unfold put; split
  · rename_i hx; subst hx; exact h.symm
  · rfl
theorem put_same (G : GH) (b : Nat) (e : Ent) : put G b e b = some e := by simp [put]
theorem put_ne (G : GH) {b x : Nat} (e : Ent) (h : x ≠ b) : put G b e x = G x := by simp [put, h]
theorem Sub.put {G : GH} {b : Nat} (h : G b = none) (e : Ent) : Sub G (put G b e) := fun x f hx => by
  rw [put_ne]; exact hx
  intro hxb; subst hxb; rw [h] at hx; cases hx

theorem Holds.store {W w : World} {G : GH} (h : Holds W w G) {b o : Nat} {cs : List Value} (hb : G b = some ⟨cs, true⟩) (ho : o < cs.length) (v : Value) :
    (∃ u, w.cell? ⟨b, o, none⟩ = some u) ∧ w.frozen? ⟨b, o, none⟩ = false ∧ Holds W (w.setCell ⟨b, o, none⟩ v) (put G b ⟨cs.set o v, true⟩) := by
  obtain ⟨el, fz, hw, hr, _⟩ := h.ent b _ hb
  obtain ⟨hge, hfz⟩ := hr rfl
  refine ⟨⟨cs[o], by simp [World.cell?, hw, ho]⟩, ?_, ?_⟩
  · have := hfz o ho
    simp only [World.frozen?, hw]
    simpa using this
  · refine ⟨h.below.setCell hge v, fun x e hx => ?_, h.drawn⟩
    unfold Gh.put at hx
    split at hx
    · rename_i hxb; subst hxb; cases hx
      exact ⟨el, fz, by simp [World.setCell, Array.getElem?_modify, hw], fun _ => ⟨hge, by simpa using hfz⟩, fun _ h => by cases h⟩
    · rename_i hne
      obtain ⟨el', fz', hw', hr'⟩ := h.ent x e hx
      refine ⟨el', fz', ?_, hr'⟩
      simp [World.setCell, Array.getElem?_modify, hw', Ne.symm hne]

def oneB : Value → Bool | .agg _ | .tuple _ => false | _ => true
theorem one_cell {v : Value} (h : oneB v = true) : v.oneCell' = true := by cases v <;> simp_all [oneB, Value.oneCell']

theorem stores_run {P : Program} {W : World} (b o : Nat) : ∀ (vs : List Value) (i : Nat) (cs : List Value) (w : World) (G : GH), Holds W w G → G b = some ⟨cs, true⟩ → o + i + vs.length ≤ cs.length →
    (∀ v ∈ vs, oneB v = true) → ∃ w', (storeCells ⟨b, o, none⟩ vs i).run P w = .ok () w' ∧ Holds W w' (put G b ⟨over cs (o + i) vs, true⟩)
  | [], i, cs, w, G, h, hb, _, _ => ⟨w, by simp [storeCells], by simp only [over]; rw [put_self hb]; exact h⟩
  | v :: vs, i, cs, w, G, h, hb, hl, h1 => by
    simp at hl
    obtain ⟨⟨u, hc⟩, hf, h'⟩ := h.store (o := o + i) hb (by omega) v
    obtain ⟨w', hr, hw'⟩ := stores_run (P := P) b o vs (i + 1) (cs.set (o + i) v) _ _ h' (put_same _ _ _) (by simp; omega) (fun x hx => h1 x (by simp [hx]))
    refine ⟨w', ?_, by rw [put_put] at hw'; simpa [over, Nat.add_assoc] using hw'⟩
    have ha : (⟨b, o, none⟩ : Addr).add i = ⟨b, o + i, none⟩ := by unfold Addr.add; split <;> simp_all
    simp only [storeCells, Sem.run_bind, ha]
    rw [run_store P w _ v _ (one_cell (h1 v (by simp)))]
    simp only [hc, hf, Result.andThen_ok, Bool.false_eq_true, if_false]
    exact hr

/-! ### contracts, regions, code -/
def evT (T : Nat → Value) : Operand → Value
  | .tmp t => T t
  | .const v => v
  | .global g => .pointer (some ⟨g, 0, none⟩)
  | .func f => .func (.func f) #[] #[]
def upd (T : Nat → Value) (d : Nat) (v : Value) : Nat → Value := fun t => if t = d then v else T t
def setd (T : Nat → Value) : Option Nat → Value → (Nat → Value)
  | none, _ => T
  | some d, v => upd T d v
def TM (a : Act) : Nat → Value := fun t => a.tmps.getD t undef
theorem eval_TM (a : Act) : a.eval = evT (TM a) := by funext x; cases x <;> rfl
theorem TM_put (a : Act) (d : Option Nat) (v : Value) (h : ∀ t, d = some t → t < a.tmps.size) : TM (a.put d v) = setd (TM a) d v := by
  cases d with
  | none => rfl
  | some d =>
    funext t
    have hd := h d rfl
    simp only [TM, Act.put, setd, upd]
    by_cases htd : t = d
    · subst htd; simp [Array.getD_eq_getD_getElem?, hd]
    · simp [Array.getD_eq_getD_getElem?, Array.getElem?_setIfInBounds_ne (Ne.symm htd), htd]
theorem put_size (a : Act) (d : Option Nat) (v : Value) : (a.put d v).tmps.size = a.tmps.size := by cases d <;> simp [Act.put]
theorem put_defers (a : Act) (d : Option Nat) (v : Value) : (a.put d v).defers = a.defers := by cases d <;> rfl

def Enterable (P : Program) (f : FuncId) : Prop := ∃ fn, P.funcs[f]? = some fn ∧ (fn.name == "runtime.NumGoroutine") = false ∧ fn.body.isNone = false
/-- In every world that holds G the call returns, and K holds of what it returns and of knowledge that holds then. -/
def GC (P : Program) (f : FuncId) (args : List Value) (G : GH) (K : Value → GH → Prop) : Prop :=
  Enterable P f ∧ ∀ W w, Holds W w G → Calls P f args.toArray w fun e w' => ∃ v G', e = .returned v ∧ K v G' ∧ Holds W w' G'
theorem GC.mono {P : Program} {f : FuncId} {args : List Value} {G : GH} {K K' : Value → GH → Prop} (h : GC P f args G K) (k : ∀ v G', K v G' → K' v G') : GC P f args G K' :=
  ⟨h.1, fun W w hw => (h.2 W w hw).mono fun _ _ ⟨v, G', e, hk, hh⟩ => ⟨v, G', e, k v G' hk, hh⟩⟩
/-- Knowledge may be forgotten behind a call. -/
theorem GC.weak {P : Program} {f : FuncId} {args : List Value} {G : GH} {K K' : Value → GH → Prop} (h : GC P f args G K) (k : ∀ v G', K v G' → ∃ G'', Sub G'' G' ∧ K' v G'') : GC P f args G K' :=
  ⟨h.1, fun W w hw => (h.2 W w hw).mono fun _ _ ⟨v, G', e, hk, hh⟩ => let ⟨G'', s, k'⟩ := k v G' hk; ⟨v, G'', e, k', hh.sub s⟩⟩

structure GOp where
  d : Option Nat
  g : Option (Nat × Bool)
  i : Ins
def gwant (g : Option (Nat × Bool)) (T : Nat → Value) : Bool :=
  match g with
  | none => true
  | some (t, want) => match T t with | .bool b => b == want | _ => false

def zc (z : List Value) (n : Nat) : List Value := (List.range (n * z.length)).map fun i => z.getD (i % z.length) undef
def gCl (P : Program) (f : Value) (args : List Value) (G : GH) (K : Value → GH → Prop) : Prop :=
  match f with
  | .func (.func g) first cap => GC P g (first.toList ++ args ++ cap.toList) G K
  | _ => False
def gAl (z : List Value) (G : GH) (K : Value → GH → Prop) : Prop := ∀ b, G b = none → K (.pointer (some ⟨b, 0, none⟩)) (put G b ⟨z, true⟩)
/-- A new block that is known to lie behind all that is known, and its type. -/
def gAlB (t : TypeId) (z : List Value) (G : GH) (K : Value → GH → Prop) : Prop := ∀ b, (∀ x e, G x = some e → x < b) → K (.pointer (some ⟨b, 0, none⟩)) (put G b ⟨z, ⟨true, some t⟩⟩)
/-- The bytes of a list as a text. -/
def gB2s (x : Value) (G : GH) (K : Value → GH → Prop) : Prop :=
  ∃ A n c, ∃ l : List UInt8, x = .slice A n c ∧ l.length = n ∧ (∀ (j : Nat) b, l[j]? = some b → rd G (pa A j) = some (.int .u8 b.toNat)) ∧ K (.string ⟨l.toArray⟩) G
def gBs (sz : Nat) (vs : List Value) (G : GH) (K : Value → GH → Prop) : Prop :=
  (∀ v ∈ vs, v.cells.size = sz) ∧ ∀ b, G b = none → K (.slice (some ⟨b, 0, none⟩) vs.length vs.length) (put G b ⟨vs.flatMap fun v => v.cells.toList, true⟩)
def gMk (sz bytes : Nat) (z : List Value) (l c : Value) (G : GH) (K : Value → GH → Prop) : Prop :=
  ∃ m k : Nat, l = .int .i64 m ∧ c = .int .i64 k ∧ m ≤ k ∧ k * bytes ≤ 2 ^ 48 ∧ k < 2 ^ 62 ∧
    ∀ b, G b = none → K (.slice (some ⟨b, 0, none⟩) m k) (put G b ⟨zc z k, true⟩)
def gSt (n : Nat) (a x : Value) (G : GH) (K : Value → GH → Prop) : Prop :=
  ∃ b o cs, a = .pointer (some ⟨b, o, none⟩) ∧ G b = some ⟨cs, true⟩ ∧ x.cells.size = n ∧ o + n ≤ cs.length ∧ (∀ v ∈ x.cells.toList, oneB v = true) ∧
    K undef (put G b ⟨over cs o x.cells.toList, true⟩)
def gAp (sz bytes : Nat) (z : List Value) (s x : Value) (G : GH) (K : Value → GH → Prop) : Prop :=
  ∃ A n c B m d olds news, s = .slice A n c ∧ x = .slice B m d ∧ olds.length = n * sz ∧ (∀ (j : Nat) v, olds[j]? = some v → rd G (pa A j) = some v) ∧
    news.length = m * sz ∧ (∀ (j : Nat) v, news[j]? = some v → rd G (pa B j) = some v) ∧ (∀ v ∈ news, oneB v = true) ∧ 2 * (n + m) * bytes ≤ 2 ^ 48 ∧ n + m < 2 ^ 62 ∧
    (n + m ≤ c → (m = 0 ∧ ∃ G', Sub G' G ∧ K (.slice A n c) G') ∨ ∃ b o cs, A = some ⟨b, o, none⟩ ∧ G b = some ⟨cs, true⟩ ∧ o + (n + m) * sz ≤ cs.length ∧ ∃ G', Sub G' (put G b ⟨over cs (o + n * sz) news, true⟩) ∧ K (.slice A (n + m) c) G') ∧
    (c < n + m → ∀ b c', G b = none → n + m ≤ c' → ∃ G', Sub G' (put G b ⟨olds ++ news ++ zc z (c' - (n + m)), true⟩) ∧ K (.slice (some ⟨b, 0, none⟩) (n + m) c') G')

/-- So many zeros are laid behind a list that has no room for them. -/
def gApz (sz bytes : Nat) (z : List Value) (s x : Value) (G : GH) (K : Value → GH → Prop) : Prop :=
  ∃ A n c, ∃ m : Nat, ∃ olds, s = .slice A n c ∧ x = .int .i64 m ∧ olds.length = n * sz ∧ (∀ (j : Nat) v, olds[j]? = some v → rd G (pa A j) = some v) ∧
    2 * (n + m) * bytes ≤ 2 ^ 48 ∧ n + m < 2 ^ 62 ∧ 0 < m ∧ c < n + m ∧
    ∀ b c', G b = none → n + m ≤ c' → ∃ G', Sub G' (put G b ⟨olds ++ zc z m ++ zc z (c' - (n + m)), true⟩) ∧ K (.slice (some ⟨b, 0, none⟩) (n + m) c') G'

/-- All cells of a list are set to zero. -/
def gClr (sz : Nat) (z : List Value) (x : Value) (G : GH) (K : Value → GH → Prop) : Prop :=
  ∃ A n c, x = .slice A n c ∧ ((n = 0 ∧ K (.tuple #[]) G) ∨ ∃ b o cs, A = some ⟨b, o, none⟩ ∧ G b = some ⟨cs, true⟩ ∧ o + n * sz ≤ cs.length ∧ (∀ v ∈ zc z n, oneB v = true) ∧ K (.tuple #[]) (put G b ⟨over cs o (zc z n), true⟩))

def gH (P : Program) (i : Ins) (ev : Operand → Value) (G : GH) (K : Value → GH → Prop) : Prop :=
  match i with
  | .al z => gAl z G K
  | .bx x => gAl (ev x).cells.toList G K
  | .bs sz ps => gBs sz (ps.map ev) G K
  | .mk sz bytes z l c => gMk sz bytes z (ev l) (ev c) G K
  | .st n a x => gSt n (ev a) (ev x) G K
  | .ap sz bytes z s x => gAp sz bytes z (ev s) (ev x) G K
  | .call f args => gCl P (ev f) (args.map ev) G K
  | .bad => False
  | .s2b _ => False
  | .b2s x => gB2s (ev x) G K
  | .alB t z => gAlB t z G K
  | .apz sz bytes z s x => gApz sz bytes z (ev s) (ev x) G K
  | .clr sz z x => gClr sz z (ev x) G K
  | i => ∃ v, lv i ev G = some v ∧ K v G

def gO (P : Program) : List GOp → ((Nat → Value) → GH → Prop) → (Nat → Value) → GH → Prop
  | [], K, T, G => K T G
  | o :: r, K, T, G => if gwant o.g T = true then gH P o.i (evT T) G (fun v G' => gO P r K (setd T o.d v) G') else gO P r K (setd T o.d undef) G

end Go.Proofs.YtnaoeggecibkmaaDoor.Gh
