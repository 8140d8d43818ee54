/- A logic of knowledge heaps over the kit's Calls: what is known of memory, the light operations of a region, and that they yield what is said. -/
import Derived.OrdersHeld
import Derived.KernelRfl
import Derived.Below
import Derived.Laws.StructEq
import Derived.Laws.Cells
namespace Go.Proofs.YtnaoeggecibkmaaDoor.Gh
open Go Go.RowKit
set_option linter.unusedVariables false
set_option linter.unusedSimpArgs false

/-- What is known of a block of cells; rw: it is the call's own. -/
structure Rw where
  own : Bool
  tag : Option TypeId
instance : Coe Bool Rw := ⟨fun b => ⟨b, none⟩⟩
structure Ent where
  cells : List Value
  rw : Rw

/-- Whether a walk keeps count of the draws (what the library's sorting asks). -/
def Dr : Prop := False

abbrev GH := Nat → Option Ent
def pa (A : Option Addr) (k : Nat) : Option Addr := A.map (·.add k)
def sn (A : Option Addr) : Nat := if A.isSome then 1 else 0
def rd (G : GH) : Option Addr → Option Value
  | some ⟨b, o, none⟩ => (G b).bind fun e => e.cells[o]?
  | _ => none
def put (G : GH) (b : Nat) (e : Ent) : GH := fun x => if x = b then some e else G x
def rdn (G : GH) (A : Option Addr) : Nat → Nat → Option (List Value)
  | _, 0 => some []
  | i, n + 1 => (rd G (pa A i)).bind fun v => (rdn G A (i + 1) n).map (v :: ·)
def Sub (G G' : GH) : Prop := ∀ b e, G b = some e → G' b = some e

structure Holds (W w : World) (G : GH) : Prop where
  below : Below W.heap.size W w
  ent : ∀ b e, G b = some e → ∃ el fz, w.heap[b]? = some (.cells e.cells.toArray el fz) ∧ (e.rw.own = true → W.heap.size ≤ b ∧ ∀ i, i < e.cells.length → ¬ (fz.1 ≤ i ∧ i < fz.2)) ∧ ∀ t, e.rw.tag = some t → el = t ∧ fz = (0, 0)
  drawn : Dr → W.drawn ≤ w.drawn

theorem Sub.refl (G : GH) : Sub G G := fun _ _ h => h
theorem Sub.trans {A B C : GH} (h : Sub A B) (k : Sub B C) : Sub A C := fun b e x => k b e (h b e x)
theorem Holds.sub {W w : World} {G G' : GH} (h : Holds W w G') (s : Sub G G') : Holds W w G := ⟨h.below, fun b e x => h.ent b e (s b e x), h.drawn⟩

theorem Holds.rd {W w : World} {G : GH} (h : Holds W w G) {A : Option Addr} {v : Value} (hr : rd G A = some v) : ∃ a, A = some a ∧ w.cell? a = some v := by
  unfold Gh.rd at hr
  split at hr
  · rename_i b o
    cases hb : G b with
    | none => simp [hb] at hr
    | some e =>
      obtain ⟨el, fz, hw, _⟩ := h.ent b e hb
      refine ⟨_, rfl, ?_⟩
      simp [hb] at hr
      simp [World.cell?, hw, hr]
  · cases hr

theorem rd_sub {G G' : GH} (s : Sub G G') {A : Option Addr} {v : Value} (h : rd G A = some v) : rd G' A = some v := by
  unfold rd at *
  split at h
  · rename_i b o
    cases hb : G b with
    | none => simp [hb] at h
    | some e => simp [hb] at h; simp [s b e hb, h]
  · cases h

theorem add_add' (a : Addr) (i j : Nat) : (a.add i).add j = a.add (i + j) := by
  unfold Addr.add
  by_cases hi : i = 0
  · subst hi; simp
  · by_cases hj : j = 0
    · subst hj; simp [hi]
    · simp [hi, hj]; omega
theorem pa_pa (A : Option Addr) (i j : Nat) : pa (pa A i) j = pa A (i + j) := by cases A <;> simp [pa, add_add']
theorem pa_zero (A : Option Addr) : pa A 0 = A := by cases A <;> simp [pa, Addr.add]
theorem sn_pa (A : Option Addr) (i : Nat) : sn (pa A i) = sn A := by cases A <;> simp [pa, sn]
theorem rd_some {G : GH} {A : Option Addr} {v : Value} (h : rd G A = some v) : 0 < sn A := by
  unfold rd at h; split at h <;> simp_all [sn]

/-! ### instructions -/
inductive Ins where
  | mv (x : Operand)
  | pick (c a b : Operand)
  | ld (a : Operand)
  | ldn (n : Nat) (a : Operand)
  | bin (op : BinOp) (x y : Operand)
  | eqb (neg : Bool) (x y : Operand)
  | eqs (neg : Bool) (x y : Operand)
  | eqa (neg : Bool) (n : Nat) (x y : Operand)
  | un (op : UnOp) (x : Operand)
  | fa (off : Nat) (x : Operand)
  | ia (sz : Nat) (x i : Operand)
  | fl (off : Nat) (x : Operand)
  | fln (off n : Nat) (x : Operand)
  | ixs (x i : Operand)
  | ex (k : Nat) (x : Operand)
  | len (x : Operand)
  | lens (x : Operand)
  | cap (x : Operand)
  | mx (xs : List Operand)
  | mn (xs : List Operand)
  | cvi (k : IntKind) (x : Operand)
  | mf (f : Fn) (first captured : List Operand)
  | mi (t : TypeId) (x : Operand)
  | nc (x : Operand)
  | sl (sz : Nat) (x : Operand) (lo hi : Option Operand)
  | sls (x : Operand) (lo hi : Option Operand)
  | bld (z : List Value) (parts : List (Nat × Nat × Operand))
  | al (z : List Value)
  | bx (x : Operand)
  | bs (sz : Nat) (parts : List Operand)
  | mk (sz bytes : Nat) (z : List Value) (l c : Operand)
  | st (n : Nat) (a x : Operand)
  | ap (sz bytes : Nat) (z : List Value) (s x : Operand)
  | call (f : Operand) (args : List Operand)
  | bad
  | s2b (x : Operand)
  | b2s (x : Operand)
  | apz (sz bytes : Nat) (z : List Value) (s x : Operand)
  | clr (sz : Nat) (z : List Value) (x : Operand)
  | eqi (neg : Bool) (x y : Operand)
  | alB (t : TypeId) (z : List Value)

def onPtr {α : Type} (v : Value) (f : Option Addr → Option α) : Option α := match v with | .pointer A => f A | _ => none
def onBool {α : Type} (v : Value) (f : Bool → Option α) : Option α := match v with | .bool b => f b | _ => none
def onInt {α : Type} (v : Value) (f : IntKind → Int → Option α) : Option α := match v with | .int k n => f k n | _ => none
def onSl {α : Type} (v : Value) (f : Option Addr → Nat → Nat → Option α) : Option α := match v with | .slice A n c => f A n c | _ => none
def onStr {α : Type} (v : Value) (f : ByteArray → Option α) : Option α := match v with | .string s => f s | _ => none
def onAgg {α : Type} (v : Value) (f : List Value → Option α) : Option α := match v with | .agg cs => f cs.toList | _ => none
def onTup {α : Type} (v : Value) (f : List Value → Option α) : Option α := match v with | .tuple cs => f cs.toList | _ => none
section
variable {α : Type}
theorem onPtr_mk (A : Option Addr) (f : Option Addr → Option α) : onPtr (.pointer A) f = f A := rfl
theorem onBool_mk (b : Bool) (f : Bool → Option α) : onBool (.bool b) f = f b := rfl
theorem onInt_mk (k : IntKind) (n : Int) (f : IntKind → Int → Option α) : onInt (.int k n) f = f k n := rfl
theorem onSl_mk (A : Option Addr) (n c : Nat) (f : Option Addr → Nat → Nat → Option α) : onSl (.slice A n c) f = f A n c := rfl
theorem onStr_mk (s : ByteArray) (f : ByteArray → Option α) : onStr (.string s) f = f s := rfl
theorem onAgg_mk (cs : List Value) (f : List Value → Option α) : onAgg (.agg cs.toArray) f = f cs := rfl
theorem onTup_mk (cs : List Value) (f : List Value → Option α) : onTup (.tuple cs.toArray) f = f cs := rfl
end

/-- What a computation that asks nothing of the world gives. -/
def pureOf : Sem Value → Option Value | .pure v => some v | _ => none
theorem pureOf_run {s : Sem Value} {v : Value} (h : pureOf s = some v) (P : Program) (w : World) : s.run P w = .ok v w := by
  cases s <;> simp [pureOf] at h; subst h; rfl

def binV (op : BinOp) (x y : Value) : Option Value :=
  match x, y with
  | .int k a, .int k' b => pureOf (binOp op 0 (.int k a) (.int k' b))
  | .string a, .string b => pureOf (binOp op 0 (.string a) (.string b))
  | _, _ => none
def eqbV (neg : Bool) (x y : Value) : Option Value := onBool x fun a => onBool y fun b => some (.bool (neg != (a == b)))
def eqsV (neg : Bool) (x y : Value) : Option Value := onSl x fun A _ _ => onSl y fun B _ _ => if A = none then some (.bool (neg != B.isNone)) else if B = none then some (.bool (neg != A.isNone)) else none
/-- two values of an interface type, one of them the literal nil. -/
def nilI (x : Value) : Option Bool := match x with | .nilIface => some true | .iface _ _ => some false | _ => none
def eqiV (neg : Bool) (x y : Value) : Option Value := match y with | .nilIface => (nilI x).map fun b => .bool (neg != b) | _ => none
/-- two lists of cells, all of them integers of one kind each. -/
def eqCells : List Value → List Value → Option Bool
  | [], [] => some true
  | x :: xs, y :: ys => onInt x fun k a => onInt y fun k' b => if k = k' then (eqCells xs ys).map fun r => (a == b) && r else none
  | _, _ => none
def eqaV (neg : Bool) (n : Nat) (x y : Value) : Option Value := onAgg x fun xs => onAgg y fun ys => if xs.length = n then (eqCells xs ys).map fun r => .bool (neg != r) else none
def iaV (sz : Nat) (x i : Value) : Option Value := onSl x fun A n _ => onInt i fun _ j => if 0 ≤ j ∧ j < n ∧ 0 < sn A then some (.pointer (pa A (j.toNat * sz))) else none
def ncV (x : Value) : Option Value := match x with
  | .pointer (some a) => some (.pointer (some a))
  | .pointer none => none
  | .func (.func f) a b => some (.func (.func f) a b)
  | _ => none
def bndV (d : Nat) (m : Nat) (x : Option Value) : Option Nat := match x with
  | none => some d
  | some v => onInt v fun _ j => if 0 ≤ j ∧ j ≤ m then some j.toNat else none
def slV (sz : Nat) (x : Value) (lo hi : Option Value) : Option Value := onSl x fun A n c =>
  (bndV n c hi).bind fun h => (bndV 0 h lo).bind fun l => if l ≤ h then some (.slice (if c = l then A else pa A (l * sz)) (h - l) (c - l)) else none
def slsV (x : Value) (lo hi : Option Value) : Option Value := onStr x fun s =>
  (bndV s.size s.size hi).bind fun h => (bndV 0 h lo).bind fun l => if l ≤ h then some (.string (s.extract l h)) else none
def ixsV (x i : Value) : Option Value := onStr x fun s => onInt i fun _ j => if 0 ≤ j then (s[j.toNat]?).map fun b => .int .u8 b.toNat else none
/-- cells laid over others from a place on. -/
def over : List Value → Nat → List Value → List Value
  | cs, _, [] => cs
  | cs, o, v :: vs => over (cs.set o v) (o + 1) vs
def bldV : List Value → List (Nat × Nat × Value) → Option (List Value)
  | z, [] => some z
  | z, (o, n, v) :: r => if v.cells.size = n ∧ o + n ≤ z.length then bldV (over z o v.cells.toList) r else none

def lv (i : Ins) (ev : Operand → Value) (G : GH) : Option Value :=
  match i with
  | .mv x => some (ev x)
  | .pick c a b => onBool (ev c) fun t => some (if t = true then ev a else ev b)
  | .ld a => onPtr (ev a) (rd G)
  | .ldn n a => onPtr (ev a) fun A => (rdn G A 0 n).map fun l => .agg l.toArray
  | .bin op x y => binV op (ev x) (ev y)
  | .eqb neg x y => eqbV neg (ev x) (ev y)
  | .eqs neg x y => eqsV neg (ev x) (ev y)
  | .eqi neg x y => eqiV neg (ev x) (ev y)
  | .eqa neg n x y => eqaV neg n (ev x) (ev y)
  | .un op x => pureOf (Op.unary op (ev x))
  | .fa off x => onPtr (ev x) fun A => if 0 < sn A then some (.pointer (pa A off)) else none
  | .ia sz x j => iaV sz (ev x) (ev j)
  | .fl off x => onAgg (ev x) fun cs => cs[off]?
  | .fln off n x => onAgg (ev x) fun cs => some (.agg ((cs.drop off).take n).toArray)
  | .ixs x j => ixsV (ev x) (ev j)
  | .ex k x => onTup (ev x) fun cs => cs[k]?
  | .len x => onSl (ev x) fun _ n _ => some (.int .i64 n)
  | .lens x => onStr (ev x) fun s => some (.int .i64 s.size)
  | .cap x => onSl (ev x) fun _ _ c => some (.int .i64 c)
  | .mx xs => pureOf (Builtin.max_ #[] 0 (xs.map ev).toArray)
  | .mn xs => pureOf (Builtin.min_ #[] 0 (xs.map ev).toArray)
  | .cvi k x => onInt (ev x) fun _ n => some (.int k (k.wrap n))
  | .mf f a b => some (.func f (a.map ev).toArray (b.map ev).toArray)
  | .mi t x => some (.iface t (ev x))
  | .nc x => ncV (ev x)
  | .sl sz x lo hi => slV sz (ev x) (lo.map ev) (hi.map ev)
  | .sls x lo hi => slsV (ev x) (lo.map ev) (hi.map ev)
  | .bld z ps => (bldV z (ps.map fun p => (p.1, p.2.1, ev p.2.2))).map fun cs => .agg cs.toArray
  | _ => none

/-! ### decoding -/
def aggB : TypeDesc → Bool | .struct _ | .array _ _ => true | _ => false
def cellsZ (P : Program) (t : TypeId) : Option (List Value) := ((P.info? t).bind (·.zero)).map fun v => v.cells.toList
def szOf (P : Program) (t : TypeId) : Option Nat := (P.info? t).map (·.size)
def intFields (P : Program) : List Field → Nat → Bool
  | [], _ => true
  | f :: fs, i => f.name != "_" && f.offset == i && (match P.underlying f.type with | some (.int _) => true | _ => false) && intFields P fs (i + 1)
def constB : Operand → Bool | .const _ => true | _ => false
def decParts : List (Nat × Operand) → Nat → Option (List Operand)
  | [], _ => some []
  | (i, x) :: r, j => if i = j then (decParts r (j + 1)).map (x :: ·) else none
def decBld (P : Program) (fs : Array Field) : List (Nat × Operand) → Option (List (Nat × Nat × Operand))
  | [] => some []
  | (i, x) :: r => (fs[i]?).bind fun f => (szOf P f.type).bind fun n => (decBld P fs r).map ((f.offset, n, x) :: ·)
def isU8 (P : Program) (t : TypeId) : Bool := match P.underlying t with | some (.slice e) => (match P.underlying e with | some (.int .u8) => true | _ => false) | _ => false
/-- a struct whose first field is a pointer to itself (strings.Builder). -/
def isBld (P : Program) (t : TypeId) : Bool := match P.underlying t with
  | some (.struct fs) => (match fs[0]? with | some f => (match P.underlying f.type with | some (.pointer u) => u == t && fs.size == 2 | _ => false) | none => false)
  | _ => false
def dec (P : Program) (o : Op) : Option Ins :=
  match o with
  | .move x | .assign x => some (.mv x)
  | .pick c a b => some (.pick c a b)
  | .load t a => match P.underlying t, szOf P t with
    | some d, some n => if aggB d then (if 0 < n then some (.ldn n a) else none) else some (.ld a)
    | _, _ => none
  | .store t a x => (szOf P t).map fun n => .st n a x
  | .alloc t => (cellsZ P t).map fun z => if isBld P t = true then .alB t z else .al z
  | .box _ x => some (.bx x)
  | .build t ps => match P.underlying t, cellsZ P t with
    | some (.struct fs), some z => if fs.toList.all (fun f => (szOf P f.type).isSome) then (decBld P fs ps.toList).map (.bld z) else none
    | _, _ => none
  | .buildSlice t len ps => match P.underlying t with
    | some (.slice e) => match szOf P e, cellsZ P e with
      | some n, some z => (decParts ps.toList 0).bind fun l => if l.length = len ∧ z.length = n ∧ len * n ≤ 2 ^ 24 ∧ 0 < n then some (.bs n l) else none
      | _, _ => none
    | _ => none
  | .nilCheck x => some (.nc x)
  | .binOp op t x y _ =>
    match op with
    | .eql | .neq => match P.underlying t with
      | some .bool => some (.eqb (op matches .neq) x y)
      | some (.int _) | some .string => some (.bin op x y)
      | some (.slice _) => some (.eqs (op matches .neq) x y)
      | some (.interface _) => if constB y = true then some (.eqi (op matches .neq) x y) else none
      | some (.struct fs) => if !P.stoodInHeld t && !P.eqGuardType P.depth t && intFields P fs.toList 0 then some (.eqa (op matches .neq) fs.size x y) else none
      | _ => none
    | _ => some (.bin op x y)
  | .unOp op _ x => some (.un op x)
  | .convert s d x => match P.underlying s, P.underlying d with
    | some (.int _), some (.int k) => some (.cvi k x)
    | some .string, some (.slice e) => (match P.underlying e, szOf P e with | some (.int .u8), some 1 => some (.s2b x) | _, _ => none)
    | some (.slice e), some .string => (match P.underlying e with | some (.int .u8) => some (.b2s x) | _ => none)
    | _, _ => none
  | .makeInterface t x => match P.underlying t with
    | some (.interface _) => none
    | some _ => some (.mi t x)
    | none => none
  | .makeFunc f a b => some (.mf f a.toList b.toList)
  | .makeSlice t l c => match P.underlying t with
    | some (.slice e) => match P.info? e, cellsZ P e with
      | some i, some z => if z.length = i.size ∧ 0 < i.size then some (.mk i.size i.bytes z l c) else none
      | _, _ => none
    | _ => none
  | .slice t x lo hi none => match P.underlying t with
    | some .string => some (.sls x lo hi)
    | some (.slice e) => (szOf P e).map fun n => .sl n x lo hi
    | _ => none
  | .fieldAddr t x f => match P.underlying t with
    | some (.struct fs) => (fs[f]?).bind fun fd => (szOf P fd.type).bind fun n => if 0 < n then some (.fa fd.offset x) else none
    | _ => none
  | .field t x f => match P.underlying t with
    | some (.struct fs) => (fs[f]?).bind fun fd => match P.underlying fd.type, szOf P fd.type with
      | some d, some n => if aggB d then some (.fln fd.offset n x) else some (.fl fd.offset x)
      | _, _ => none
    | _ => none
  | .indexAddr t x i => match P.underlying t with
    | some (.slice e) => (szOf P e).map fun n => .ia n x i
    | _ => none
  | .index t x i => match P.underlying t with
    | some .string => some (.ixs x i)
    | _ => none
  | .extract x k => some (.ex k x)
  | .call c => match c.callee with
    | .value f => some (.call f c.args.toList)
    | .builtin .len => match c.args.toList, c.argTypes.toList with
      | [x], [t] => (match P.underlying t with | some (.slice _) => some (.len x) | some .string => some (.lens x) | _ => none)
      | _, _ => none
    | .builtin .cap => match c.args.toList, c.argTypes.toList with
      | [x], [t] => (match P.underlying t with | some (.slice _) => some (.cap x) | _ => none)
      | _, _ => none
    | .builtin .clear => match c.args.toList, c.argTypes.toList with
      | [x], [t] => (match P.underlying t with
        | some (.slice e) => (match szOf P e, cellsZ P e with
          | some n, some z => if z.length = n ∧ 0 < n then some (.clr n z x) else none
          | _, _ => none)
        | _ => none)
      | _, _ => none
    | .builtin .max => some (.mx c.args.toList)
    | .builtin .min => some (.mn c.args.toList)
    | .builtin .append => match c.args.toList, c.argTypes.toList with
      | [s, x], [t, t'] => (match P.underlying t, P.underlying t' with
        | some (.slice e), some (.slice _) => (match P.info? e, cellsZ P e with
          | some i, some z => if z.length = i.size ∧ 0 < i.size ∧ 0 < i.bytes then some (.ap i.size i.bytes z s x) else none
          | _, _ => none)
        | some (.slice e), some (.int _) => (match P.info? e, cellsZ P e with
          | some i, some z => if z.length = i.size ∧ 0 < i.size ∧ 0 < i.bytes then some (.apz i.size i.bytes z s x) else none
          | _, _ => none)
        | _, _ => none)
      | _, _ => none
    | _ => none
  | _ => none

end Go.Proofs.YtnaoeggecibkmaaDoor.Gh
