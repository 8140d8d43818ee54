/- Words for evaluation: what a step of a region or of code comes to, each as an equation. -/
import Derived.Test.YtnaoeggecibkmaaDoorFk
import Derived.IntWalk
namespace Go.Proofs.YtnaoeggecibkmaaDoor.Gh
open Go Go.RowKit
set_option linter.unusedVariables false
set_option linter.unusedSimpArgs false

section
variable {P : Program} {K : (Nat → Value) → GH → Prop} {T : Nat → Value} {G : GH} {r : List GOp} {d : Option Nat} {Q : Cont}
theorem evT_tmp (n : Nat) : evT T (.tmp n) = T n := rfl
theorem evT_const (v : Value) : evT T (.const v) = v := rfl
theorem evT_func (f : Nat) : evT T (.func f) = .func (.func f) #[] #[] := rfl
theorem upd_app (n : Nat) (v : Value) (m : Nat) : upd T n v m = if m = n then v else T m := rfl
theorem setd_some (n : Nat) (v : Value) : setd T (some n) v = upd T n v := rfl
theorem setd_none (v : Value) : setd T none v = T := rfl
theorem T0_zero (v : Value) (l : List Value) : T0 (v :: l) 0 = v := rfl
theorem T0_succ (v : Value) (l : List Value) (n : Nat) : T0 (v :: l) (n + 1) = T0 l n := rfl

def gL (P : Program) (r : List GOp) (K : (Nat → Value) → GH → Prop) (T : Nat → Value) (d : Option Nat) (G : GH) : Option Value → Prop
  | some v => gO P r K (setd T d v) G
  | none => False
def HK (P : Program) (r : List GOp) (K : (Nat → Value) → GH → Prop) (T : Nat → Value) (d : Option Nat) : Value → GH → Prop := fun v G => gO P r K (setd T d v) G
def gG (P : Program) (r : List GOp) (K : (Nat → Value) → GH → Prop) (T : Nat → Value) (d : Option Nat) (i : Ins) (G : GH) (w : Bool) : Value → Prop
  | .bool b => if b = w then gO P (⟨d, none, i⟩ :: r) K T G else gO P r K (setd T d undef) G
  | _ => gO P r K (setd T d undef) G
theorem gL_some (v : Value) : gL P r K T d G (some v) = gO P r K (setd T d v) G := rfl
theorem HK_app (v : Value) (G' : GH) : HK P r K T d v G' = gO P r K (setd T d v) G' := rfl
theorem gG_tt (i : Ins) : gG P r K T d i G true (.bool true) = gO P (⟨d, none, i⟩ :: r) K T G := rfl
theorem gG_ff (i : Ins) : gG P r K T d i G false (.bool false) = gO P (⟨d, none, i⟩ :: r) K T G := rfl
theorem gG_un (i : Ins) (w : Bool) : gG P r K T d i G w undef = gO P r K (setd T d undef) G := rfl
theorem gG_tf (i : Ins) : gG P r K T d i G true (.bool false) = gO P r K (setd T d undef) G := rfl
theorem gG_ft (i : Ins) : gG P r K T d i G false (.bool true) = gO P r K (setd T d undef) G := rfl
theorem gG_split (i : Ins) (w b : Bool) (h1 : b = true → gG P r K T d i G w (.bool true)) (h2 : b = false → gG P r K T d i G w (.bool false)) : gG P r K T d i G w (.bool b) := by
  cases b
  · exact h2 rfl
  · exact h1 rfl
theorem gO_nil : gO P [] K T G = K T G := rfl
theorem gO_grd (i : Ins) (t : Nat) (w : Bool) : gO P (⟨d, some (t, w), i⟩ :: r) K T G = gG P r K T d i G w (T t) := by
  have key : ∀ v : Value, (if (match v with | .bool b => b == w | _ => false) = true then gH P i (evT T) G (fun v G' => gO P r K (setd T d v) G') else gO P r K (setd T d undef) G) = gG P r K T d i G w v := by
    intro v
    cases v <;> simp [gG, gO, gwant]
  exact key (T t)
theorem ex_gL {o : Option Value} : (∃ v, o = some v ∧ gO P r K (setd T d v) G) = gL P r K T d G o := by
  cases o <;> simp [gL]
theorem gO_mv (x : Operand) : gO P (⟨d, none, .mv x⟩ :: r) K T G = gO P r K (setd T d (evT T x)) G := ex_gL
theorem gO_pick (c a b : Operand) : gO P (⟨d, none, .pick c a b⟩ :: r) K T G = gL P r K T d G (lv (.pick c a b) (evT T) G) := ex_gL
theorem gO_ld (a : Operand) : gO P (⟨d, none, .ld a⟩ :: r) K T G = gL P r K T d G (onPtr (evT T a) (rd G)) := ex_gL
theorem gO_ldn (n : Nat) (a : Operand) : gO P (⟨d, none, .ldn n a⟩ :: r) K T G = gL P r K T d G (lv (.ldn n a) (evT T) G) := ex_gL
theorem gO_bin (op : BinOp) (x y : Operand) : gO P (⟨d, none, .bin op x y⟩ :: r) K T G = gL P r K T d G (binV op (evT T x) (evT T y)) := ex_gL
theorem gO_eqb (n : Bool) (x y : Operand) : gO P (⟨d, none, .eqb n x y⟩ :: r) K T G = gL P r K T d G (eqbV n (evT T x) (evT T y)) := ex_gL
theorem gO_eqs (n : Bool) (x y : Operand) : gO P (⟨d, none, .eqs n x y⟩ :: r) K T G = gL P r K T d G (eqsV n (evT T x) (evT T y)) := ex_gL
theorem gO_eqa (n : Bool) (m : Nat) (x y : Operand) : gO P (⟨d, none, .eqa n m x y⟩ :: r) K T G = gL P r K T d G (eqaV n m (evT T x) (evT T y)) := ex_gL
def unV (op : UnOp) (x : Value) : Option Value := pureOf (Op.unary op x)
theorem gO_un (op : UnOp) (x : Operand) : gO P (⟨d, none, .un op x⟩ :: r) K T G = gL P r K T d G (unV op (evT T x)) := ex_gL
def faV (off : Nat) (x : Value) : Option Value := onPtr x fun A => if 0 < sn A then some (.pointer (pa A off)) else none
theorem gO_fa (off : Nat) (x : Operand) : gO P (⟨d, none, .fa off x⟩ :: r) K T G = gL P r K T d G (faV off (evT T x)) := ex_gL
theorem gO_ia (sz : Nat) (x i : Operand) : gO P (⟨d, none, .ia sz x i⟩ :: r) K T G = gL P r K T d G (iaV sz (evT T x) (evT T i)) := ex_gL
def flV (off : Nat) (x : Value) : Option Value := onAgg x fun cs => cs[off]?
theorem gO_fl (off : Nat) (x : Operand) : gO P (⟨d, none, .fl off x⟩ :: r) K T G = gL P r K T d G (flV off (evT T x)) := ex_gL
def flnV (off n : Nat) (x : Value) : Option Value := onAgg x fun cs => some (.agg ((cs.drop off).take n).toArray)
theorem gO_fln (off n : Nat) (x : Operand) : gO P (⟨d, none, .fln off n x⟩ :: r) K T G = gL P r K T d G (flnV off n (evT T x)) := ex_gL
theorem gO_ixs (x i : Operand) : gO P (⟨d, none, .ixs x i⟩ :: r) K T G = gL P r K T d G (ixsV (evT T x) (evT T i)) := ex_gL
def exV (k : Nat) (x : Value) : Option Value := onTup x fun cs => cs[k]?
theorem gO_ex (k : Nat) (x : Operand) : gO P (⟨d, none, .ex k x⟩ :: r) K T G = gL P r K T d G (exV k (evT T x)) := ex_gL
def lenV (x : Value) : Option Value := onSl x fun _ n _ => some (.int .i64 n)
theorem gO_len (x : Operand) : gO P (⟨d, none, .len x⟩ :: r) K T G = gL P r K T d G (lenV (evT T x)) := ex_gL
def lensV (x : Value) : Option Value := onStr x fun s => some (.int .i64 s.size)
def capV (x : Value) : Option Value := onSl x fun _ _ c => some (.int .i64 c)
theorem gO_cap (x : Operand) : gO P (⟨d, none, .cap x⟩ :: r) K T G = gL P r K T d G (capV (evT T x)) := ex_gL
theorem gO_lens (x : Operand) : gO P (⟨d, none, .lens x⟩ :: r) K T G = gL P r K T d G (lensV (evT T x)) := ex_gL
def mxV (xs : List Value) : Option Value := pureOf (Builtin.max_ #[] 0 xs.toArray)
def mnV (xs : List Value) : Option Value := pureOf (Builtin.min_ #[] 0 xs.toArray)
theorem gO_mx (xs : List Operand) : gO P (⟨d, none, .mx xs⟩ :: r) K T G = gL P r K T d G (mxV (xs.map (evT T))) := ex_gL
theorem gO_mn (xs : List Operand) : gO P (⟨d, none, .mn xs⟩ :: r) K T G = gL P r K T d G (mnV (xs.map (evT T))) := ex_gL
def cviV (k : IntKind) (x : Value) : Option Value := onInt x fun _ n => some (.int k (k.wrap n))
theorem gO_cvi (k : IntKind) (x : Operand) : gO P (⟨d, none, .cvi k x⟩ :: r) K T G = gL P r K T d G (cviV k (evT T x)) := ex_gL
theorem gO_mf (f : Fn) (a b : List Operand) : gO P (⟨d, none, .mf f a b⟩ :: r) K T G = gO P r K (setd T d (.func f (a.map (evT T)).toArray (b.map (evT T)).toArray)) G := ex_gL
theorem gO_mi (t : TypeId) (x : Operand) : gO P (⟨d, none, .mi t x⟩ :: r) K T G = gO P r K (setd T d (.iface t (evT T x))) G := ex_gL
theorem gO_nc (x : Operand) : gO P (⟨d, none, .nc x⟩ :: r) K T G = gL P r K T d G (ncV (evT T x)) := ex_gL
theorem gO_sl (sz : Nat) (x : Operand) (lo hi : Option Operand) : gO P (⟨d, none, .sl sz x lo hi⟩ :: r) K T G = gL P r K T d G (slV sz (evT T x) (lo.map (evT T)) (hi.map (evT T))) := ex_gL
theorem gO_sls (x : Operand) (lo hi : Option Operand) : gO P (⟨d, none, .sls x lo hi⟩ :: r) K T G = gL P r K T d G (slsV (evT T x) (lo.map (evT T)) (hi.map (evT T))) := ex_gL
theorem gO_bld (z : List Value) (ps : List (Nat × Nat × Operand)) : gO P (⟨d, none, .bld z ps⟩ :: r) K T G = gL P r K T d G ((bldV z (ps.map fun p => (p.1, p.2.1, evT T p.2.2))).map fun cs => .agg cs.toArray) := ex_gL
theorem gO_al (z : List Value) : gO P (⟨d, none, .al z⟩ :: r) K T G = gAl z G (HK P r K T d) := rfl
theorem gO_bx (x : Operand) : gO P (⟨d, none, .bx x⟩ :: r) K T G = gAl (evT T x).cells.toList G (HK P r K T d) := rfl
theorem gO_bs (sz : Nat) (ps : List Operand) : gO P (⟨d, none, .bs sz ps⟩ :: r) K T G = gBs sz (ps.map (evT T)) G (HK P r K T d) := rfl
theorem gO_mk (sz bytes : Nat) (z : List Value) (l c : Operand) : gO P (⟨d, none, .mk sz bytes z l c⟩ :: r) K T G = gMk sz bytes z (evT T l) (evT T c) G (HK P r K T d) := rfl
theorem gO_st (n : Nat) (a x : Operand) : gO P (⟨d, none, .st n a x⟩ :: r) K T G = gSt n (evT T a) (evT T x) G (HK P r K T d) := rfl
theorem gO_ap (sz bytes : Nat) (z : List Value) (s x : Operand) : gO P (⟨d, none, .ap sz bytes z s x⟩ :: r) K T G = gAp sz bytes z (evT T s) (evT T x) G (HK P r K T d) := rfl
theorem gO_apz (sz bytes : Nat) (z : List Value) (s x : Operand) : gO P (⟨d, none, .apz sz bytes z s x⟩ :: r) K T G = gApz sz bytes z (evT T s) (evT T x) G (HK P r K T d) := rfl
theorem gO_clr (sz : Nat) (z : List Value) (x : Operand) : gO P (⟨d, none, .clr sz z x⟩ :: r) K T G = gClr sz z (evT T x) G (HK P r K T d) := rfl
theorem gO_alB (t : TypeId) (z : List Value) : gO P (⟨d, none, .alB t z⟩ :: r) K T G = gAlB t z G (HK P r K T d) := rfl
theorem gO_b2s (x : Operand) : gO P (⟨d, none, .b2s x⟩ :: r) K T G = gB2s (evT T x) G (HK P r K T d) := rfl
theorem gO_eqi (n : Bool) (x y : Operand) : gO P (⟨d, none, .eqi n x y⟩ :: r) K T G = gL P r K T d G (eqiV n (evT T x) (evT T y)) := ex_gL
theorem gO_call (f : Operand) (as : List Operand) : gO P (⟨d, none, .call f as⟩ :: r) K T G = gCl P (evT T f) (as.map (evT T)) G (HK P r K T d) := rfl
theorem gCl_fn (g : Nat) (as : List Value) (K' : Value → GH → Prop) : gCl P (.func (.func g) #[] #[]) as G K' = GC P g as G K' := by simp [gCl]
theorem gCl_cl (g : Nat) (cs : List Value) (as : List Value) (K' : Value → GH → Prop) : gCl P (.func (.func g) #[] cs.toArray) as G K' = GC P g (as ++ cs) G K' := by simp [gCl]

/-! regions that draw -/
variable {KR : List (Nat × (GH → Prop)) → (Nat → Value) → GH → Prop} {dr : List DOp} {R : List (Nat × (GH → Prop))} {j : Nat}
def dL (P : Program) (r : List DOp) (R : List (Nat × (GH → Prop))) (KR : List (Nat × (GH → Prop)) → (Nat → Value) → GH → Prop) (T : Nat → Value) (d : Option Nat) (G : GH) : Option Value → Prop
  | some v => gD P r R KR (setd T d v) G
  | none => False
def dLd (P : Program) (r : List DOp) (R : List (Nat × (GH → Prop))) (KR : List (Nat × (GH → Prop)) → (Nat → Value) → GH → Prop) (T : Nat → Value) (d : Option Nat) (j : Nat) (i : Ins) (G : GH) : Option Value → Prop
  | some v => gD P r ((j, fun G' => lv i (evT T) G' = some v) :: R) KR (setd T d v) G
  | none => False
def DK (P : Program) (ks : List Nat) (r : List DOp) (R : List (Nat × (GH → Prop))) (KR : List (Nat × (GH → Prop)) → (Nat → Value) → GH → Prop) (T : Nat → Value) (d : Option Nat) : Value → GH → Prop := fun v G => keepAll ks R G ∧ gD P r R KR (setd T d v) G
theorem dL_some (v : Value) : dL P dr R KR T d G (some v) = gD P dr R KR (setd T d v) G := rfl
theorem dLd_some (i : Ins) (v : Value) : dLd P dr R KR T d j i G (some v) = gD P dr ((j, fun G' => lv i (evT T) G' = some v) :: R) KR (setd T d v) G := rfl
theorem DK_app (ks : List Nat) (v : Value) (G' : GH) : DK P ks dr R KR T d v G' = (keepAll ks R G' ∧ gD P dr R KR (setd T d v) G') := rfl
theorem gD_nil : gD P [] R KR T G = KR R T G := rfl
theorem gT_fin : gT P .fin R K T G = K T G := rfl
theorem gT_path (ds : List DOp) (t : DT) : gT P (.path ds t) R K T G = gD P ds R (fun R' T' G' => gT P t R' K T' G') T G := rfl
theorem gT_both (a b : DT) : gT P (.both a b) R K T G = (gT P a R K T G ∧ gT P b R K T G) := rfl
theorem ex_dL {o : Option Value} : (∃ v, o = some v ∧ gD P dr R KR (setd T d v) G) = dL P dr R KR T d G o := by
  cases o <;> simp [dL]
theorem gD_light (i : Ins) (h : isLd i = false) : gD P (⟨j, false, [], ⟨d, none, i⟩⟩ :: dr) R KR T G = dL P dr R KR T d G (lv i (evT T) G) := by
  simp only [gD, gwant, if_true, Bool.false_eq_true, if_false, h]; exact ex_dL
theorem gD_load (i : Ins) (h : isLd i = true) : gD P (⟨j, false, [], ⟨d, none, i⟩⟩ :: dr) R KR T G = dLd P dr R KR T d j i G (lv i (evT T) G) := by
  simp only [gD, gwant, if_true, Bool.false_eq_true, if_false, h]
  cases lv i (evT T) G <;> simp [dLd]
theorem gD_heavy (i : Ins) (ks : List Nat) : gD P (⟨j, true, ks, ⟨d, none, i⟩⟩ :: dr) R KR T G = gH P i (evT T) G (DK P ks dr R KR T d) := rfl
theorem gD_mv (x : Operand) : gD P (⟨j, false, [], ⟨d, none, .mv x⟩⟩ :: dr) R KR T G = gD P dr R KR (setd T d (evT T x)) G := gD_light _ rfl
theorem gD_pick (c a b : Operand) : gD P (⟨j, false, [], ⟨d, none, .pick c a b⟩⟩ :: dr) R KR T G = dL P dr R KR T d G (lv (.pick c a b) (evT T) G) := gD_light _ rfl
theorem gD_bin (op : BinOp) (x y : Operand) : gD P (⟨j, false, [], ⟨d, none, .bin op x y⟩⟩ :: dr) R KR T G = dL P dr R KR T d G (binV op (evT T x) (evT T y)) := gD_light _ rfl
theorem gD_eqb (n : Bool) (x y : Operand) : gD P (⟨j, false, [], ⟨d, none, .eqb n x y⟩⟩ :: dr) R KR T G = dL P dr R KR T d G (eqbV n (evT T x) (evT T y)) := gD_light _ rfl
theorem gD_eqs (n : Bool) (x y : Operand) : gD P (⟨j, false, [], ⟨d, none, .eqs n x y⟩⟩ :: dr) R KR T G = dL P dr R KR T d G (eqsV n (evT T x) (evT T y)) := gD_light _ rfl
theorem gD_eqa (n : Bool) (m : Nat) (x y : Operand) : gD P (⟨j, false, [], ⟨d, none, .eqa n m x y⟩⟩ :: dr) R KR T G = dL P dr R KR T d G (eqaV n m (evT T x) (evT T y)) := gD_light _ rfl
theorem gD_un (op : UnOp) (x : Operand) : gD P (⟨j, false, [], ⟨d, none, .un op x⟩⟩ :: dr) R KR T G = dL P dr R KR T d G (unV op (evT T x)) := gD_light _ rfl
theorem gD_fa (off : Nat) (x : Operand) : gD P (⟨j, false, [], ⟨d, none, .fa off x⟩⟩ :: dr) R KR T G = dL P dr R KR T d G (faV off (evT T x)) := gD_light _ rfl
theorem gD_ia (sz : Nat) (x i : Operand) : gD P (⟨j, false, [], ⟨d, none, .ia sz x i⟩⟩ :: dr) R KR T G = dL P dr R KR T d G (iaV sz (evT T x) (evT T i)) := gD_light _ rfl
theorem gD_fl (off : Nat) (x : Operand) : gD P (⟨j, false, [], ⟨d, none, .fl off x⟩⟩ :: dr) R KR T G = dL P dr R KR T d G (flV off (evT T x)) := gD_light _ rfl
theorem gD_fln (off n : Nat) (x : Operand) : gD P (⟨j, false, [], ⟨d, none, .fln off n x⟩⟩ :: dr) R KR T G = dL P dr R KR T d G (flnV off n (evT T x)) := gD_light _ rfl
theorem gD_ixs (x i : Operand) : gD P (⟨j, false, [], ⟨d, none, .ixs x i⟩⟩ :: dr) R KR T G = dL P dr R KR T d G (ixsV (evT T x) (evT T i)) := gD_light _ rfl
theorem gD_ex (k : Nat) (x : Operand) : gD P (⟨j, false, [], ⟨d, none, .ex k x⟩⟩ :: dr) R KR T G = dL P dr R KR T d G (exV k (evT T x)) := gD_light _ rfl
theorem gD_len (x : Operand) : gD P (⟨j, false, [], ⟨d, none, .len x⟩⟩ :: dr) R KR T G = dL P dr R KR T d G (lenV (evT T x)) := gD_light _ rfl
theorem gD_cap (x : Operand) : gD P (⟨j, false, [], ⟨d, none, .cap x⟩⟩ :: dr) R KR T G = dL P dr R KR T d G (capV (evT T x)) := gD_light _ rfl
theorem gD_lens (x : Operand) : gD P (⟨j, false, [], ⟨d, none, .lens x⟩⟩ :: dr) R KR T G = dL P dr R KR T d G (lensV (evT T x)) := gD_light _ rfl
theorem gD_mx (xs : List Operand) : gD P (⟨j, false, [], ⟨d, none, .mx xs⟩⟩ :: dr) R KR T G = dL P dr R KR T d G (mxV (xs.map (evT T))) := gD_light _ rfl
theorem gD_mn (xs : List Operand) : gD P (⟨j, false, [], ⟨d, none, .mn xs⟩⟩ :: dr) R KR T G = dL P dr R KR T d G (mnV (xs.map (evT T))) := gD_light _ rfl
theorem gD_cvi (k : IntKind) (x : Operand) : gD P (⟨j, false, [], ⟨d, none, .cvi k x⟩⟩ :: dr) R KR T G = dL P dr R KR T d G (cviV k (evT T x)) := gD_light _ rfl
theorem gD_mf (f : Fn) (a b : List Operand) : gD P (⟨j, false, [], ⟨d, none, .mf f a b⟩⟩ :: dr) R KR T G = gD P dr R KR (setd T d (.func f (a.map (evT T)).toArray (b.map (evT T)).toArray)) G := gD_light _ rfl
theorem gD_nc (x : Operand) : gD P (⟨j, false, [], ⟨d, none, .nc x⟩⟩ :: dr) R KR T G = dL P dr R KR T d G (ncV (evT T x)) := gD_light _ rfl
theorem gD_sl (sz : Nat) (x : Operand) (lo hi : Option Operand) : gD P (⟨j, false, [], ⟨d, none, .sl sz x lo hi⟩⟩ :: dr) R KR T G = dL P dr R KR T d G (slV sz (evT T x) (lo.map (evT T)) (hi.map (evT T))) := gD_light _ rfl
theorem gD_sls (x : Operand) (lo hi : Option Operand) : gD P (⟨j, false, [], ⟨d, none, .sls x lo hi⟩⟩ :: dr) R KR T G = dL P dr R KR T d G (slsV (evT T x) (lo.map (evT T)) (hi.map (evT T))) := gD_light _ rfl
theorem gD_bld (z : List Value) (ps : List (Nat × Nat × Operand)) : gD P (⟨j, false, [], ⟨d, none, .bld z ps⟩⟩ :: dr) R KR T G = dL P dr R KR T d G ((bldV z (ps.map fun p => (p.1, p.2.1, evT T p.2.2))).map fun cs => .agg cs.toArray) := gD_light _ rfl
theorem gD_ld (a : Operand) : gD P (⟨j, false, [], ⟨d, none, .ld a⟩⟩ :: dr) R KR T G = dLd P dr R KR T d j (.ld a) G (onPtr (evT T a) (rd G)) := gD_load _ rfl
theorem gD_ldn (n : Nat) (a : Operand) : gD P (⟨j, false, [], ⟨d, none, .ldn n a⟩⟩ :: dr) R KR T G = dLd P dr R KR T d j (.ldn n a) G (lv (.ldn n a) (evT T) G) := gD_load _ rfl
theorem gD_call (ks : List Nat) (f : Operand) (as : List Operand) : gD P (⟨j, true, ks, ⟨d, none, .call f as⟩⟩ :: dr) R KR T G = gCl P (evT T f) (as.map (evT T)) G (DK P ks dr R KR T d) := rfl
theorem gD_st (ks : List Nat) (n : Nat) (a x : Operand) : gD P (⟨j, true, ks, ⟨d, none, .st n a x⟩⟩ :: dr) R KR T G = gSt n (evT T a) (evT T x) G (DK P ks dr R KR T d) := rfl
theorem gD_bs (ks : List Nat) (sz : Nat) (ps : List Operand) : gD P (⟨j, true, ks, ⟨d, none, .bs sz ps⟩⟩ :: dr) R KR T G = gBs sz (ps.map (evT T)) G (DK P ks dr R KR T d) := rfl
theorem gD_bx (ks : List Nat) (x : Operand) : gD P (⟨j, true, ks, ⟨d, none, .bx x⟩⟩ :: dr) R KR T G = gAl (evT T x).cells.toList G (DK P ks dr R KR T d) := rfl
theorem gD_al (ks : List Nat) (z : List Value) : gD P (⟨j, true, ks, ⟨d, none, .al z⟩⟩ :: dr) R KR T G = gAl z G (DK P ks dr R KR T d) := rfl
theorem gD_mk (ks : List Nat) (sz bytes : Nat) (z : List Value) (l c : Operand) : gD P (⟨j, true, ks, ⟨d, none, .mk sz bytes z l c⟩⟩ :: dr) R KR T G = gMk sz bytes z (evT T l) (evT T c) G (DK P ks dr R KR T d) := rfl
theorem gD_ap (ks : List Nat) (sz bytes : Nat) (z : List Value) (s x : Operand) : gD P (⟨j, true, ks, ⟨d, none, .ap sz bytes z s x⟩⟩ :: dr) R KR T G = gAp sz bytes z (evT T s) (evT T x) G (DK P ks dr R KR T d) := rfl
def dG (P : Program) (r : List DOp) (R : List (Nat × (GH → Prop))) (KR : List (Nat × (GH → Prop)) → (Nat → Value) → GH → Prop) (T : Nat → Value) (d : Option Nat) (j : Nat) (hv : Bool) (ks : List Nat) (i : Ins) (G : GH) (w : Bool) : Value → Prop
  | .bool b => if b = w then gD P (⟨j, hv, ks, ⟨d, none, i⟩⟩ :: r) R KR T G else (if hv = true then keepAll ks R G else True) ∧ gD P r (if (isLd i && !hv) = true then (j, fun _ => True) :: R else R) KR (setd T d undef) G
  | _ => (if hv = true then keepAll ks R G else True) ∧ gD P r (if (isLd i && !hv) = true then (j, fun _ => True) :: R else R) KR (setd T d undef) G
theorem gD_grd (hv : Bool) (ks : List Nat) (i : Ins) (t : Nat) (w : Bool) : gD P (⟨j, hv, ks, ⟨d, some (t, w), i⟩⟩ :: dr) R KR T G = dG P dr R KR T d j hv ks i G w (T t) := by
  have key : ∀ v : Value, (if (match v with | .bool b => b == w | _ => false) = true then
      (if hv = true then gH P i (evT T) G (fun v G' => keepAll ks R G' ∧ gD P dr R KR (setd T d v) G')
       else ∃ v, lv i (evT T) G = some v ∧ gD P dr (if isLd i = true then (j, fun G' => lv i (evT T) G' = some v) :: R else R) KR (setd T d v) G)
      else (if hv = true then keepAll ks R G else True) ∧ gD P dr (if (isLd i && !hv) = true then (j, fun _ => True) :: R else R) KR (setd T d undef) G) = dG P dr R KR T d j hv ks i G w v := by
    intro v
    cases v <;> simp [dG, gD, gwant]
  exact key (T t)
theorem dG_tt (hv : Bool) (ks : List Nat) (i : Ins) : dG P dr R KR T d j hv ks i G true (.bool true) = gD P (⟨j, hv, ks, ⟨d, none, i⟩⟩ :: dr) R KR T G := rfl
theorem dG_ff (hv : Bool) (ks : List Nat) (i : Ins) : dG P dr R KR T d j hv ks i G false (.bool false) = gD P (⟨j, hv, ks, ⟨d, none, i⟩⟩ :: dr) R KR T G := rfl
theorem dG_un (hv : Bool) (ks : List Nat) (i : Ins) (w : Bool) : dG P dr R KR T d j hv ks i G w undef = ((if hv = true then keepAll ks R G else True) ∧ gD P dr (if (isLd i && !hv) = true then (j, fun _ => True) :: R else R) KR (setd T d undef) G) := rfl
theorem dG_tf (hv : Bool) (ks : List Nat) (i : Ins) : dG P dr R KR T d j hv ks i G true (.bool false) = ((if hv = true then keepAll ks R G else True) ∧ gD P dr (if (isLd i && !hv) = true then (j, fun _ => True) :: R else R) KR (setd T d undef) G) := rfl
theorem dG_ft (hv : Bool) (ks : List Nat) (i : Ins) : dG P dr R KR T d j hv ks i G false (.bool true) = ((if hv = true then keepAll ks R G else True) ∧ gD P dr (if (isLd i && !hv) = true then (j, fun _ => True) :: R else R) KR (setd T d undef) G) := rfl
theorem dG_split (hv : Bool) (ks : List Nat) (i : Ins) (w b : Bool) (h1 : b = true → dG P dr R KR T d j hv ks i G w (.bool true)) (h2 : b = false → dG P dr R KR T d j hv ks i G w (.bool false)) : dG P dr R KR T d j hv ks i G w (.bool b) := by
  cases b
  · exact h2 rfl
  · exact h1 rfl

/-! code -/
theorem gW_skip : gW P .skip Q T G = Q .nrm T G := rfl
theorem gW_reg (ops : List GOp) : gW P (.reg ops) Q T G = gO P ops (Q .nrm) T G := rfl
theorem gW_dreg (ops : List DOp) : gW P (.dreg ops) Q T G = gD P ops [] (fun _ => Q .nrm) T G := rfl
theorem gW_dtree (t : DT) : gW P (.dtree t) Q T G = gT P t [] (Q .nrm) T G := rfl
theorem gW_seq (a b : GCode) : gW P (.seq a b) Q T G = gW P a (SeqK (gW P b) Q) T G := rfl
theorem gW_blk (id : Nat) (c : GCode) : gW P (.blk id c) Q T G = gW P c (BlkK id Q) T G := rfl
theorem gW_loop (c : GCode) : gW P (.loop c) Q T G = gLoop (gW P c) Q T G := rfl
theorem gW_exit (id : Nat) : gW P (.exit id) Q T G = Q (.ex id) T G := rfl
theorem gW_ret : gW P .ret Q T G = Q .ret T G := rfl
def gC (P : Program) (a b : GCode) (Q : Cont) (T : Nat → Value) (G : GH) : Value → Prop
  | .bool t => if t = true then gW P a Q T G else gW P b Q T G
  | _ => False
theorem gW_cond (c : Operand) (a b : GCode) : gW P (.cond c a b) Q T G = gC P a b Q T G (evT T c) := rfl
theorem gC_t (a b : GCode) : gC P a b Q T G (.bool true) = gW P a Q T G := rfl
theorem gC_f (a b : GCode) : gC P a b Q T G (.bool false) = gW P b Q T G := rfl
theorem gC_split (a b : GCode) (t : Bool) (h1 : t = true → gW P a Q T G) (h2 : t = false → gW P b Q T G) : gC P a b Q T G (.bool t) := by
  cases t
  · exact h2 rfl
  · exact h1 rfl
theorem SeqK_nrm (F : Cont → (Nat → Value) → GH → Prop) : SeqK F Q .nrm T G = F Q T G := rfl
theorem SeqK_ex (F : Cont → (Nat → Value) → GH → Prop) (i : Nat) : SeqK F Q (.ex i) T G = Q (.ex i) T G := rfl
theorem SeqK_ret (F : Cont → (Nat → Value) → GH → Prop) : SeqK F Q .ret T G = Q .ret T G := rfl
theorem BlkK_nrm (id : Nat) : BlkK id Q .nrm T G = Q .nrm T G := rfl
theorem BlkK_ret (id : Nat) : BlkK id Q .ret T G = Q .ret T G := rfl
theorem BlkK_ex (id i : Nat) : BlkK id Q (.ex i) T G = if i = id then Q .nrm T G else Q (.ex i) T G := rfl
theorem LoopK_ex (I : Nat → (Nat → Value) → GH → Prop) (m i : Nat) : LoopK I m Q (.ex i) T G = Q (.ex i) T G := rfl
theorem LoopK_ret (I : Nat → (Nat → Value) → GH → Prop) (m : Nat) : LoopK I m Q .ret T G = Q .ret T G := rfl
theorem LoopK_nrm (I : Nat → (Nat → Value) → GH → Prop) (m : Nat) : LoopK I m Q .nrm T G = ∃ k, k < m ∧ ∃ G', Sub G' G ∧ I k T G' := rfl
theorem RetK_ret (rs : List RV) (K : Value → GH → Prop) : RetK rs K .ret T G = RetO K G (resV T G rs) := rfl
theorem RetK_nrm (rs : List RV) (K : Value → GH → Prop) : RetK rs K .nrm T G = RetO K G (resV T G rs) := rfl
theorem RetO_some (K : Value → GH → Prop) (v : Value) : RetO K G (some v) = K v G := rfl
theorem resV_t (a : Nat) : resV T G [.t a] = some (T a) := rfl
theorem resV_c (a : Nat) : resV T G [.c a] = onPtr (T a) (rd G) := rfl
theorem resV_cn (a n : Nat) : resV T G [.cn a n] = onPtr (T a) fun A => (rdn G A 0 n).map fun l => .agg l.toArray := rfl
theorem resV_nil : resV T G [] = some (.tuple [].toArray) := rfl
theorem resV_two (a b : RV) : resV T G [a, b] = (rvs T G [a, b]).map fun l => .tuple l.toArray := rfl
theorem resV_three (a b c : RV) : resV T G [a, b, c] = (rvs T G [a, b, c]).map fun l => .tuple l.toArray := rfl
theorem rvs_nil : rvs T G [] = some [] := rfl
theorem rvs_cons (r : RV) (rs : List RV) : rvs T G (r :: rs) = (rv1 T G r).bind fun v => (rvs T G rs).map (v :: ·) := rfl
theorem rv1_t (n : Nat) : rv1 T G (.t n) = some (T n) := rfl
theorem rv1_c (n : Nat) : rv1 T G (.c n) = onPtr (T n) (rd G) := rfl
theorem rv1_cn (a n : Nat) : rv1 T G (.cn a n) = onPtr (T a) fun A => (rdn G A 0 n).map fun l => .agg l.toArray := rfl
/-- A loop by an invariant that names what it needs of the state; the measure goes down at each round. -/
theorem gLoop_intro {F : Cont → (Nat → Value) → GH → Prop} (I : Nat → (Nat → Value) → GH → Prop) (m : Nat) (h0 : I m T G) (h : ∀ m T G, I m T G → F (LoopK I m Q) T G) : gLoop F Q T G := ⟨I, m, ⟨G, Sub.refl G, h0⟩, h⟩
end

/-! values -/
theorem bin_add (k : IntKind) (a b : Int) : binV .add (.int k a) (.int k b) = some (.int k (k.wrap (a + b))) := by simp [binV, binOp, Op.intArith, pureOf, pure]
theorem bin_sub (k : IntKind) (a b : Int) : binV .sub (.int k a) (.int k b) = some (.int k (k.wrap (a - b))) := by simp [binV, binOp, Op.intArith, pureOf, pure]
theorem bin_mul (k : IntKind) (a b : Int) : binV .mul (.int k a) (.int k b) = some (.int k (k.wrap (a * b))) := by simp [binV, binOp, Op.intArith, pureOf, pure]
theorem bin_lss (k : IntKind) (a b : Int) : binV .lss (.int k a) (.int k b) = some (.bool (decide (a < b))) := by simp [binV, binOp, Op.intCmp, pureOf, pure]
theorem bin_leq (k : IntKind) (a b : Int) : binV .leq (.int k a) (.int k b) = some (.bool (decide (a ≤ b))) := by simp [binV, binOp, Op.intCmp, pureOf, pure]
theorem bin_gtr (k : IntKind) (a b : Int) : binV .gtr (.int k a) (.int k b) = some (.bool (decide (b < a))) := by simp [binV, binOp, Op.intCmp, pureOf, pure]
theorem bin_geq (k : IntKind) (a b : Int) : binV .geq (.int k a) (.int k b) = some (.bool (decide (b ≤ a))) := by simp [binV, binOp, Op.intCmp, pureOf, pure]
theorem bin_eql (k : IntKind) (a b : Int) : binV .eql (.int k a) (.int k b) = some (.bool (decide (a = b))) := by
  simp [binV, binOp, Op.intCmp, pureOf, pure]; by_cases h : a = b <;> simp [h]
theorem bin_neq (k : IntKind) (a b : Int) : binV .neq (.int k a) (.int k b) = some (.bool (decide (¬ a = b))) := by
  simp [binV, binOp, Op.intCmp, pureOf, pure, bne]; by_cases h : a = b <;> simp [h]
theorem bin_quo (k : IntKind) (a b : Int) (h : b ≠ 0) : binV .quo (.int k a) (.int k b) = some (.int k (k.wrap (a.tdiv b))) := by simp [binV, binOp, Op.intDiv, pureOf, pure, h]
theorem bin_rem (k : IntKind) (a b : Int) (h : b ≠ 0) : binV .rem (.int k a) (.int k b) = some (.int k (a.tmod b)) := by simp [binV, binOp, Op.intDiv, pureOf, pure, h]
theorem bin_and (k : IntKind) (a b : Int) : binV .and (.int k a) (.int k b) = pureOf (binOp .and 0 (.int k a) (.int k b)) := rfl
theorem un_not (b : Bool) : unV .not (.bool b) = some (.bool !b) := rfl
theorem un_neg (k : IntKind) (n : Int) : unV .neg (.int k n) = some (.int k (k.wrap (0 - n))) := rfl
theorem lv_pick_t (c a b : Operand) (ev : Operand → Value) (G : GH) (h : ev c = .bool true) : lv (.pick c a b) ev G = some (ev a) := by simp [lv, h, onBool]
theorem lv_pick_f (c a b : Operand) (ev : Operand → Value) (G : GH) (h : ev c = .bool false) : lv (.pick c a b) ev G = some (ev b) := by simp [lv, h, onBool]
theorem lv_pick (c a b : Operand) (ev : Operand → Value) (G : GH) : lv (.pick c a b) ev G = onBool (ev c) fun t => some (if t = true then ev a else ev b) := rfl
theorem lv_ld (a : Operand) (ev : Operand → Value) (G : GH) : lv (.ld a) ev G = onPtr (ev a) (rd G) := rfl
theorem lv_ldn (n : Nat) (a : Operand) (ev : Operand → Value) (G : GH) : lv (.ldn n a) ev G = onPtr (ev a) fun A => (rdn G A 0 n).map fun l => .agg l.toArray := rfl
theorem sn_mk' (a : Addr) : sn (some a) = 1 := rfl
theorem ia_ok {sz n c : Nat} {A : Option Addr} {k : IntKind} {i : Int} (h0 : 0 ≤ i) (h1 : i < n) (h2 : 0 < sn A) : iaV sz (.slice A n c) (.int k i) = some (.pointer (pa A (i.toNat * sz))) := by
  simp only [iaV, onSl_mk, onInt_mk]; rw [if_pos ⟨h0, h1, h2⟩]
theorem fa_ok {off : Nat} {A : Option Addr} (h : 0 < sn A) : faV off (.pointer A) = some (.pointer (pa A off)) := by
  simp only [faV, onPtr_mk]; rw [if_pos h]
theorem nc_ok {A : Option Addr} (h : 0 < sn A) : ncV (.pointer A) = some (.pointer A) := by
  obtain ⟨a, rfl⟩ := sn_some h; rfl
theorem ia_some {sz n c : Nat} {a : Addr} {k : IntKind} {i : Int} (h0 : 0 ≤ i) (h1 : i < n) : iaV sz (.slice (some a) n c) (.int k i) = some (.pointer (pa (some a) (i.toNat * sz))) := ia_ok h0 h1 (by rw [sn_mk']; decide)
theorem fa_some {off : Nat} {a : Addr} : faV off (.pointer (some a)) = some (.pointer (pa (some a) off)) := fa_ok (by rw [sn_mk']; decide)
theorem fa_pa {off k : Nat} {A : Option Addr} (h : 0 < sn A) : faV off (.pointer (pa A k)) = some (.pointer (pa A (k + off))) := by rw [fa_ok (by rw [sn_pa]; exact h), pa_pa]
theorem nc_some {a : Addr} : ncV (.pointer (some a)) = some (.pointer (some a)) := rfl
theorem nc_pa {k : Nat} {A : Option Addr} (h : 0 < sn A) : ncV (.pointer (pa A k)) = some (.pointer (pa A k)) := nc_ok (by rw [sn_pa]; exact h)
theorem eqa3t (a b c x y z : Int) : eqaV true 3 (.agg [.int .i64 a, .int .i64 b, .int .i64 c].toArray) (.agg [.int .i64 x, .int .i64 y, .int .i64 z].toArray) = some (.bool (!decide (a = x ∧ b = y ∧ c = z))) := by
  simp only [eqaV, onAgg_mk, eqCells, onInt_mk, List.length_cons, List.length_nil, if_true, Option.map_some]
  by_cases h1 : a = x <;> by_cases h2 : b = y <;> by_cases h3 : c = z <;> simp [h1, h2, h3]
theorem eqa3f (a b c x y z : Int) : eqaV false 3 (.agg [.int .i64 a, .int .i64 b, .int .i64 c].toArray) (.agg [.int .i64 x, .int .i64 y, .int .i64 z].toArray) = some (.bool (decide (a = x ∧ b = y ∧ c = z))) := by
  simp only [eqaV, onAgg_mk, eqCells, onInt_mk, List.length_cons, List.length_nil, if_true, Option.map_some]
  by_cases h1 : a = x <;> by_cases h2 : b = y <;> by_cases h3 : c = z <;> simp [h1, h2, h3]
theorem eqb_tt (a b : Bool) : eqbV true (.bool a) (.bool b) = some (.bool (!decide (a = b))) := by cases a <;> cases b <;> rfl
theorem eqb_ff (a b : Bool) : eqbV false (.bool a) (.bool b) = some (.bool (decide (a = b))) := by cases a <;> cases b <;> rfl
theorem eqs_t (A : Option Addr) (n c : Nat) : eqsV true (.slice A n c) (.slice none 0 0) = some (.bool A.isSome) := by cases A <;> rfl
theorem eqi_tn : eqiV true .nilIface .nilIface = some (.bool false) := rfl
theorem eqi_ti (t : TypeId) (v : Value) : eqiV true (.iface t v) .nilIface = some (.bool true) := rfl
theorem eqi_fn : eqiV false .nilIface .nilIface = some (.bool true) := rfl
theorem eqi_fi (t : TypeId) (v : Value) : eqiV false (.iface t v) .nilIface = some (.bool false) := rfl
theorem eqs_f (A : Option Addr) (n c : Nat) : eqsV false (.slice A n c) (.slice none 0 0) = some (.bool A.isNone) := by cases A <;> rfl
theorem len_sl (A : Option Addr) (n c : Nat) : lenV (.slice A n c) = some (.int .i64 n) := rfl
theorem cap_sl (A : Option Addr) (n c : Nat) : capV (.slice A n c) = some (.int .i64 c) := rfl
theorem lens_st (s : ByteArray) : lensV (.string s) = some (.int .i64 s.size) := rfl
theorem ex_tup (k : Nat) (l : List Value) : exV k (.tuple l.toArray) = l[k]? := rfl
theorem fl_agg (k : Nat) (l : List Value) : flV k (.agg l.toArray) = l[k]? := rfl
theorem fln_agg (k n : Nat) (l : List Value) : flnV k n (.agg l.toArray) = some (.agg ((l.drop k).take n).toArray) := rfl
theorem cvi_ok (k k' : IntKind) (n : Int) : cviV k (.int k' n) = some (.int k (k.wrap n)) := rfl
theorem mx_two (k k' : IntKind) (a b : Int) : mxV [.int k a, .int k' b] = some (.int k (if a < b then b else a)) := rfl
theorem mn_two (k k' : IntKind) (a b : Int) : mnV [.int k a, .int k' b] = some (.int k (if b < a then b else a)) := rfl
theorem w64 (n : Int) (h0 : -9223372036854775808 ≤ n) (h1 : n ≤ 9223372036854775807) : IntKind.i64.wrap n = n := by rw [IntKind.wrap_i64]; omega
theorem cells_agg (l : List Value) : (Value.agg l.toArray).cells.toList = l := rfl
theorem cells_int (k : IntKind) (n : Int) : (Value.int k n).cells.toList = [.int k n] := rfl
theorem cells_bool (b : Bool) : (Value.bool b).cells.toList = [.bool b] := rfl
theorem cells_sl (A : Option Addr) (n c : Nat) : (Value.slice A n c).cells.toList = [.slice A n c] := rfl
theorem cells_ptr (A : Option Addr) : (Value.pointer A).cells.toList = [.pointer A] := rfl
theorem cells_str (s : ByteArray) : (Value.string s).cells.toList = [.string s] := rfl
theorem sn_mk (a : Addr) : sn (some a) = 1 := rfl
theorem pa_mk (b o k : Nat) : pa (some ⟨b, o, none⟩) k = some ⟨b, o + k, none⟩ := by unfold pa Addr.add; by_cases h : k = 0 <;> simp [h]
theorem rd_put (G : GH) (b : Nat) (cs : List Value) (w : Rw) (o : Nat) : rd (put G b ⟨cs, w⟩) (some ⟨b, o, none⟩) = cs[o]? := by simp [rd, put]
theorem rd_put_ne (G : GH) (b : Nat) (e : Ent) (b' o : Nat) (h : b' ≠ b) : rd (put G b e) (some ⟨b', o, none⟩) = rd G (some ⟨b', o, none⟩) := by simp [rd, put, h]
theorem keep_nil (ks : List Nat) (G : GH) : keepAll ks [] G = True := rfl
theorem keep_cons (ks : List Nat) (i : Nat) (p : GH → Prop) (R : List (Nat × (GH → Prop))) (G : GH) : keepAll ks ((i, p) :: R) G = ((if ks.contains i = true then p G else True) ∧ keepAll ks R G) := rfl
theorem rdn_zero (G : GH) (A : Option Addr) (i : Nat) : rdn G A i 0 = some [] := rfl
theorem rdn_succ (G : GH) (A : Option Addr) (i n : Nat) : rdn G A i (n + 1) = (rd G (pa A i)).bind fun v => (rdn G A (i + 1) n).map (v :: ·) := rfl

/-- All the words of evaluation in one, for 'simp only [gs]'. -/
theorem gs :
  type_of% @gW_skip ∧
  type_of% @gW_reg ∧
  type_of% @gW_dreg ∧
  type_of% @gW_dtree ∧
  type_of% @gT_fin ∧
  type_of% @gT_path ∧
  type_of% @gT_both ∧
  type_of% @gW_seq ∧
  type_of% @gW_blk ∧
  type_of% @gW_loop ∧
  type_of% @gW_exit ∧
  type_of% @gW_ret ∧
  type_of% @gW_cond ∧
  type_of% @gC_t ∧
  type_of% @gC_f ∧
  type_of% @SeqK_nrm ∧
  type_of% @SeqK_ex ∧
  type_of% @SeqK_ret ∧
  type_of% @BlkK_nrm ∧
  type_of% @BlkK_ret ∧
  type_of% @BlkK_ex ∧
  type_of% @LoopK_ex ∧
  type_of% @LoopK_ret ∧
  type_of% @LoopK_nrm ∧
  type_of% @RetK_ret ∧
  type_of% @RetK_nrm ∧
  type_of% @RetO_some ∧
  type_of% @resV_t ∧
  type_of% @resV_c ∧
  type_of% @resV_cn ∧
  type_of% @resV_nil ∧
  type_of% @resV_two ∧
  type_of% @resV_three ∧
  type_of% @rvs_nil ∧
  type_of% @rvs_cons ∧
  type_of% @rv1_t ∧
  type_of% @rv1_c ∧
  type_of% @rv1_cn ∧
  type_of% @gO_nil ∧
  type_of% @gO_grd ∧
  type_of% @gG_tt ∧
  type_of% @gG_ff ∧
  type_of% @gG_un ∧
  type_of% @gG_tf ∧
  type_of% @gG_ft ∧
  type_of% @gO_mv ∧
  type_of% @gO_pick ∧
  type_of% @gO_ld ∧
  type_of% @gO_ldn ∧
  type_of% @gO_bin ∧
  type_of% @gO_eqb ∧
  type_of% @gO_eqs ∧
  type_of% @gO_eqa ∧
  type_of% @gO_un ∧
  type_of% @gO_fa ∧
  type_of% @gO_ia ∧
  type_of% @gO_fl ∧
  type_of% @gO_fln ∧
  type_of% @gO_ixs ∧
  type_of% @gO_ex ∧
  type_of% @gO_len ∧
  type_of% @gO_cap ∧
  type_of% @gD_cap ∧
  type_of% @cap_sl ∧
  type_of% @gO_lens ∧
  type_of% @gO_mx ∧
  type_of% @gO_mn :=
  ⟨@gW_skip, @gW_reg, @gW_dreg, @gW_dtree, @gT_fin, @gT_path, @gT_both, @gW_seq, @gW_blk, @gW_loop, @gW_exit, @gW_ret, @gW_cond, @gC_t, @gC_f, @SeqK_nrm, @SeqK_ex, @SeqK_ret, @BlkK_nrm, @BlkK_ret, @BlkK_ex, @LoopK_ex, @LoopK_ret, @LoopK_nrm, @RetK_ret, @RetK_nrm, @RetO_some, @resV_t, @resV_c, @resV_cn, @resV_nil, @resV_two, @resV_three, @rvs_nil, @rvs_cons, @rv1_t, @rv1_c, @rv1_cn, @gO_nil, @gO_grd, @gG_tt, @gG_ff, @gG_un, @gG_tf, @gG_ft, @gO_mv, @gO_pick, @gO_ld, @gO_ldn, @gO_bin, @gO_eqb, @gO_eqs, @gO_eqa, @gO_un, @gO_fa, @gO_ia, @gO_fl, @gO_fln, @gO_ixs, @gO_ex, @gO_len, @gO_cap, @gD_cap, @cap_sl, @gO_lens, @gO_mx, @gO_mn⟩
theorem gs2 :
  type_of% @gO_cvi ∧
  type_of% @gO_mf ∧
  type_of% @gO_mi ∧
  type_of% @gO_nc ∧
  type_of% @gO_sl ∧
  type_of% @gO_sls ∧
  type_of% @gO_bld ∧
  type_of% @gO_al ∧
  type_of% @gO_bx ∧
  type_of% @gO_bs ∧
  type_of% @gO_mk ∧
  type_of% @gO_st ∧
  type_of% @gO_ap ∧
  type_of% @gO_apz ∧
  type_of% @gO_clr ∧
  type_of% @gO_call ∧
  type_of% @gCl_fn ∧
  type_of% @gCl_cl ∧
  type_of% @gL_some ∧
  type_of% @HK_app ∧
  type_of% @gD_nil ∧
  type_of% @gD_grd ∧
  type_of% @dG_tt ∧
  type_of% @dG_ff ∧
  type_of% @dG_un ∧
  type_of% @dG_tf ∧
  type_of% @dG_ft ∧
  type_of% @gD_mv ∧
  type_of% @gD_pick ∧
  type_of% @gD_bin ∧
  type_of% @gD_eqb ∧
  type_of% @gD_eqs ∧
  type_of% @gD_eqa ∧
  type_of% @gD_un ∧
  type_of% @gD_fa ∧
  type_of% @gD_ia ∧
  type_of% @gD_fl ∧
  type_of% @gD_fln ∧
  type_of% @gD_ixs ∧
  type_of% @gD_ex ∧
  type_of% @gD_len ∧
  type_of% @gD_lens ∧
  type_of% @gD_mx ∧
  type_of% @gD_mn ∧
  type_of% @gD_cvi ∧
  type_of% @gD_mf ∧
  type_of% @gD_nc ∧
  type_of% @gD_sl ∧
  type_of% @gD_sls ∧
  type_of% @gD_bld ∧
  type_of% @gD_ld ∧
  type_of% @gD_ldn ∧
  type_of% @gD_call ∧
  type_of% @gD_st ∧
  type_of% @gD_bs ∧
  type_of% @gD_bx ∧
  type_of% @gD_al ∧
  type_of% @gD_mk ∧
  type_of% @gD_ap ∧
  type_of% @dL_some ∧
  type_of% @dLd_some ∧
  type_of% @DK_app ∧
  type_of% @evT_tmp ∧
  type_of% @evT_const ∧
  type_of% @evT_func ∧
  type_of% @setd_some ∧
  type_of% @setd_none ∧
  type_of% @upd_app ∧
  type_of% @T0_zero :=
  ⟨@gO_cvi, @gO_mf, @gO_mi, @gO_nc, @gO_sl, @gO_sls, @gO_bld, @gO_al, @gO_bx, @gO_bs, @gO_mk, @gO_st, @gO_ap, @gO_apz, @gO_clr, @gO_call, @gCl_fn, @gCl_cl, @gL_some, @HK_app, @gD_nil, @gD_grd, @dG_tt, @dG_ff, @dG_un, @dG_tf, @dG_ft, @gD_mv, @gD_pick, @gD_bin, @gD_eqb, @gD_eqs, @gD_eqa, @gD_un, @gD_fa, @gD_ia, @gD_fl, @gD_fln, @gD_ixs, @gD_ex, @gD_len, @gD_lens, @gD_mx, @gD_mn, @gD_cvi, @gD_mf, @gD_nc, @gD_sl, @gD_sls, @gD_bld, @gD_ld, @gD_ldn, @gD_call, @gD_st, @gD_bs, @gD_bx, @gD_al, @gD_mk, @gD_ap, @dL_some, @dLd_some, @DK_app, @evT_tmp, @evT_const, @evT_func, @setd_some, @setd_none, @upd_app, @T0_zero⟩
theorem gs3 :
  type_of% @gO_alB ∧
  type_of% @gO_b2s ∧
  type_of% @gO_eqi ∧
  type_of% @eqi_tn ∧
  type_of% @eqi_ti ∧
  type_of% @eqi_fn ∧
  type_of% @eqi_fi ∧
  type_of% @T0_succ ∧
  type_of% @bin_add ∧
  type_of% @bin_sub ∧
  type_of% @bin_mul ∧
  type_of% @bin_lss ∧
  type_of% @bin_leq ∧
  type_of% @bin_gtr ∧
  type_of% @bin_geq ∧
  type_of% @bin_eql ∧
  type_of% @bin_neq ∧
  type_of% @un_not ∧
  type_of% @un_neg ∧
  type_of% @lv_pick ∧
  type_of% @lv_ld ∧
  type_of% @lv_ldn ∧
  type_of% (@onBool_mk Value) ∧
  type_of% (@onPtr_mk Value) ∧
  type_of% (@onInt_mk Value) ∧
  type_of% (@onSl_mk Value) ∧
  type_of% (@onStr_mk Value) ∧
  type_of% (@onAgg_mk Value) ∧
  type_of% (@onTup_mk Value) ∧
  type_of% @len_sl ∧
  type_of% @lens_st ∧
  type_of% @ex_tup ∧
  type_of% @fl_agg ∧
  type_of% @fln_agg ∧
  type_of% @cvi_ok ∧
  type_of% @mx_two ∧
  type_of% @mn_two ∧
  type_of% @cells_agg ∧
  type_of% @cells_int ∧
  type_of% @cells_bool ∧
  type_of% @cells_sl ∧
  type_of% @cells_ptr ∧
  type_of% @cells_str ∧
  type_of% @pa_pa ∧
  type_of% @pa_zero ∧
  type_of% @sn_pa ∧
  type_of% @sn_mk ∧
  type_of% @pa_mk ∧
  type_of% @eqa3t ∧
  type_of% @eqa3f ∧
  type_of% @eqb_tt ∧
  type_of% @eqb_ff ∧
  type_of% @eqs_t ∧
  type_of% @eqs_f ∧
  type_of% @ia_some ∧
  type_of% @fa_some ∧
  type_of% @fa_pa ∧
  type_of% @nc_some ∧
  type_of% @nc_pa ∧
  type_of% @ia_ok ∧
  type_of% @fa_ok ∧
  type_of% @nc_ok ∧
  type_of% @w64 ∧
  type_of% @rd_put ∧
  type_of% @rd_put_ne ∧
  type_of% @keep_nil ∧
  type_of% @keep_cons ∧
  type_of% @put_put ∧
  type_of% @rdn_zero ∧
  type_of% @rdn_succ ∧
  type_of% @bin_quo ∧
  type_of% @bin_rem :=
  ⟨@gO_alB, @gO_b2s, @gO_eqi, @eqi_tn, @eqi_ti, @eqi_fn, @eqi_fi, @T0_succ, @bin_add, @bin_sub, @bin_mul, @bin_lss, @bin_leq, @bin_gtr, @bin_geq, @bin_eql, @bin_neq, @un_not, @un_neg, @lv_pick, @lv_ld, @lv_ldn, (@onBool_mk Value), (@onPtr_mk Value), (@onInt_mk Value), (@onSl_mk Value), (@onStr_mk Value), (@onAgg_mk Value), (@onTup_mk Value), @len_sl, @lens_st, @ex_tup, @fl_agg, @fln_agg, @cvi_ok, @mx_two, @mn_two, @cells_agg, @cells_int, @cells_bool, @cells_sl, @cells_ptr, @cells_str, @pa_pa, @pa_zero, @sn_pa, @sn_mk, @pa_mk, @eqa3t, @eqa3f, @eqb_tt, @eqb_ff, @eqs_t, @eqs_f, @ia_some, @fa_some, @fa_pa, @nc_some, @nc_pa, @ia_ok, @fa_ok, @nc_ok, @w64, @rd_put, @rd_put_ne, @keep_nil, @keep_cons, @put_put, @rdn_zero, @rdn_succ, @bin_quo, @bin_rem⟩

end Go.Proofs.YtnaoeggecibkmaaDoor.Gh
