/- The first words of the program's order of starting, and what the rows ask of it. -/
import Derived.Test.YtnaoeggecibkmaaDoorProg
import Derived.JoinedOf
import Derived.KernelRfl
namespace Go.Proofs.YtnaoeggecibkmaaDoor.Gh
open Go Go.Proofs
set_option linter.unusedVariables false

theorem ws_word : ∀ (w : List Char) (r : List Char), (w.all fun c => !(c == Char.ofNat 32)) = true → wordsSigns (w ++ Char.ofNat 32 :: r) = w :: wordsSigns r
  | [], r, _ => rfl
  | c :: w, r, h => by
    rw [List.all_cons, Bool.and_eq_true] at h
    have ih := ws_word w r h.2
    have hc : c ≠ Char.ofNat 32 := fun e => by rw [e] at h; exact absurd h.1 (by decide)
    rw [List.cons_append, wordsSigns.eq_3 _ _ (fun e => hc e), ih]
def ioW1 : List Char := [Char.ofNat 104, Char.ofNat 97, Char.ofNat 114, Char.ofNat 110, Char.ofNat 101, Char.ofNat 115, Char.ofNat 115]
def ioW2 : List Char := [Char.ofNat 55, Char.ofNat 50, Char.ofNat 51, Char.ofNat 101, Char.ofNat 98, Char.ofNat 57, Char.ofNat 56, Char.ofNat 55, Char.ofNat 97, Char.ofNat 56, Char.ofNat 99, Char.ofNat 101, Char.ofNat 56, Char.ofNat 99, Char.ofNat 102, Char.ofNat 55, Char.ofNat 97, Char.ofNat 48, Char.ofNat 56, Char.ofNat 53, Char.ofNat 99, Char.ofNat 48, Char.ofNat 54, Char.ofNat 48, Char.ofNat 56, Char.ofNat 48, Char.ofNat 54, Char.ofNat 52, Char.ofNat 49, Char.ofNat 102, Char.ofNat 56, Char.ofNat 52, Char.ofNat 48, Char.ofNat 102, Char.ofNat 100, Char.ofNat 97, Char.ofNat 56, Char.ofNat 101, Char.ofNat 99, Char.ofNat 49, Char.ofNat 55, Char.ofNat 97, Char.ofNat 99, Char.ofNat 53, Char.ofNat 53, Char.ofNat 56, Char.ofNat 54, Char.ofNat 97, Char.ofNat 102, Char.ofNat 50, Char.ofNat 49, Char.ofNat 48, Char.ofNat 101, Char.ofNat 99, Char.ofNat 102, Char.ofNat 53, Char.ofNat 55, Char.ofNat 52, Char.ofNat 98, Char.ofNat 50, Char.ofNat 55, Char.ofNat 98, Char.ofNat 48, Char.ofNat 54]
def ioW3 : List Char := [Char.ofNat 99, Char.ofNat 117, Char.ofNat 116]
def ioR : List Char := [Char.ofNat 97, Char.ofNat 116, Char.ofNat 32, Char.ofNat 108, Char.ofNat 111, Char.ofNat 111, Char.ofNat 112, Char.ofNat 46, Char.ofNat 101, Char.ofNat 120, Char.ofNat 97, Char.ofNat 109, Char.ofNat 112, Char.ofNat 108, Char.ofNat 101, Char.ofNat 47, Char.ofNat 103, Char.ofNat 48, Char.ofNat 49, Char.ofNat 48, Char.ofNat 48, Char.ofNat 53, Char.ofNat 47, Char.ofNat 108, Char.ofNat 97, Char.ofNat 119, Char.ofNat 115, Char.ofNat 46, Char.ofNat 70, Char.ofNat 110, Char.ofNat 69, Char.ofNat 120, Char.ofNat 97, Char.ofNat 99, Char.ofNat 116, Char.ofNat 71, Char.ofNat 114, Char.ofNat 97, Char.ofNat 112, Char.ofNat 104, Char.ofNat 84, Char.ofNat 101, Char.ofNat 120, Char.ofNat 116, Char.ofNat 32, Char.ofNat 108, Char.ofNat 111, Char.ofNat 111, Char.ofNat 112, Char.ofNat 46, Char.ofNat 101, Char.ofNat 120, Char.ofNat 97, Char.ofNat 109, Char.ofNat 112, Char.ofNat 108, Char.ofNat 101, Char.ofNat 47, Char.ofNat 103, Char.ofNat 48, Char.ofNat 49, Char.ofNat 48, Char.ofNat 48, Char.ofNat 53, Char.ofNat 47, Char.ofNat 108, Char.ofNat 97, Char.ofNat 119, Char.ofNat 115, Char.ofNat 46, Char.ofNat 70, Char.ofNat 110, Char.ofNat 69, Char.ofNat 120, Char.ofNat 97, Char.ofNat 99, Char.ofNat 116, Char.ofNat 78, Char.ofNat 101, Char.ofNat 116, Char.ofNat 119, Char.ofNat 111, Char.ofNat 114, Char.ofNat 107, Char.ofNat 84, Char.ofNat 101, Char.ofNat 120, Char.ofNat 116, Char.ofNat 32, Char.ofNat 108, Char.ofNat 111, Char.ofNat 111, Char.ofNat 112, Char.ofNat 46, Char.ofNat 101, Char.ofNat 120, Char.ofNat 97, Char.ofNat 109, Char.ofNat 112, Char.ofNat 108, Char.ofNat 101, Char.ofNat 47, Char.ofNat 103, Char.ofNat 48, Char.ofNat 49, Char.ofNat 48, Char.ofNat 48, Char.ofNat 53, Char.ofNat 47, Char.ofNat 108, Char.ofNat 97, Char.ofNat 119, Char.ofNat 115, Char.ofNat 46, Char.ofNat 70, Char.ofNat 110, Char.ofNat 69, Char.ofNat 120, Char.ofNat 97, Char.ofNat 99, Char.ofNat 116, Char.ofNat 84, Char.ofNat 97, Char.ofNat 98, Char.ofNat 108, Char.ofNat 101, Char.ofNat 84, Char.ofNat 101, Char.ofNat 120, Char.ofNat 116, Char.ofNat 32, Char.ofNat 108, Char.ofNat 111, Char.ofNat 111, Char.ofNat 112, Char.ofNat 46, Char.ofNat 101, Char.ofNat 120, Char.ofNat 97, Char.ofNat 109, Char.ofNat 112, Char.ofNat 108, Char.ofNat 101, Char.ofNat 47, Char.ofNat 103, Char.ofNat 48, Char.ofNat 49, Char.ofNat 48, Char.ofNat 48, Char.ofNat 53, Char.ofNat 47, Char.ofNat 108, Char.ofNat 97, Char.ofNat 119, Char.ofNat 115, Char.ofNat 46, Char.ofNat 70, Char.ofNat 110, Char.ofNat 69, Char.ofNat 120, Char.ofNat 97, Char.ofNat 99, Char.ofNat 116, Char.ofNat 82, Char.ofNat 101, Char.ofNat 97, Char.ofNat 100, Char.ofNat 71, Char.ofNat 114, Char.ofNat 97, Char.ofNat 112, Char.ofNat 104, Char.ofNat 32, Char.ofNat 108, Char.ofNat 111, Char.ofNat 111, Char.ofNat 112, Char.ofNat 46, Char.ofNat 101, Char.ofNat 120, Char.ofNat 97, Char.ofNat 109, Char.ofNat 112, Char.ofNat 108, Char.ofNat 101, Char.ofNat 47, Char.ofNat 103, Char.ofNat 48, Char.ofNat 49, Char.ofNat 48, Char.ofNat 48, Char.ofNat 53, Char.ofNat 47, Char.ofNat 108, Char.ofNat 97, Char.ofNat 119, Char.ofNat 115, Char.ofNat 46, Char.ofNat 70, Char.ofNat 110, Char.ofNat 69, Char.ofNat 120, Char.ofNat 97, Char.ofNat 99, Char.ofNat 116, Char.ofNat 82, Char.ofNat 101, Char.ofNat 97, Char.ofNat 100, Char.ofNat 78, Char.ofNat 101, Char.ofNat 116, Char.ofNat 119, Char.ofNat 111, Char.ofNat 114, Char.ofNat 107, Char.ofNat 32, Char.ofNat 108, Char.ofNat 111, Char.ofNat 111, Char.ofNat 112, Char.ofNat 46, Char.ofNat 101, Char.ofNat 120, Char.ofNat 97, Char.ofNat 109, Char.ofNat 112, Char.ofNat 108, Char.ofNat 101, Char.ofNat 47, Char.ofNat 103, Char.ofNat 48, Char.ofNat 49, Char.ofNat 48, Char.ofNat 48, Char.ofNat 53, Char.ofNat 47, Char.ofNat 108, Char.ofNat 97, Char.ofNat 119, Char.ofNat 115, Char.ofNat 46, Char.ofNat 70, Char.ofNat 110, Char.ofNat 69, Char.ofNat 120, Char.ofNat 97, Char.ofNat 99, Char.ofNat 116, Char.ofNat 82, Char.ofNat 101, Char.ofNat 97, Char.ofNat 100, Char.ofNat 84, Char.ofNat 97, Char.ofNat 98, Char.ofNat 108, Char.ofNat 101]
theorem io_eq : Tryd.prog.initOrder = String.ofList (ioW1 ++ Char.ofNat 32 :: (ioW2 ++ Char.ofNat 32 :: (ioW3 ++ Char.ofNat 32 :: ioR))) := by kernel_rfl
theorem io_words : wordsSigns Tryd.prog.initOrder.toList = ioW1 :: ioW2 :: ioW3 :: wordsSigns ioR := by
  rw [io_eq, String.toList_ofList, ws_word _ _ (by decide +kernel), ws_word _ _ (by decide +kernel), ws_word _ _ (by decide +kernel)]
theorem io_behind (X : List (List Char)) : behindMainWord (ioW1 :: ioW2 :: ioW3 :: X) = ioW3 :: X := by kernel_rfl
theorem io_strip (X : List (List Char)) : stripLifts liftWords (ioW3 :: X) = ([], ioW3 :: X) := by kernel_rfl
theorem io_carried' : (some ioW3 == some "carried".toList) = false := by kernel_rfl
theorem io_cut : (some ioW3 == some "cut".toList) = true := by kernel_rfl
theorem io_later : Tryd.prog.laysLater = false := by kernel_rfl
theorem io_reflect : Tryd.prog.bearsReflect = false := by kernel_rfl
theorem io_door : Tryd.prog.doorFits [] = true := by kernel_rfl
theorem enter_of {P : Program} {c : List Char} {rest : List (List Char)} (hw : behindMainWord (wordsSigns P.initOrder.toList) = c :: rest) (hs : stripLifts liftWords (c :: rest) = ([], c :: rest)) (hc : (some c == some "cut".toList) = true) (hl : P.laysLater = false) (hr : P.bearsReflect = false) (hd : P.doorFits [] = true) : P.mayEnter = true := by
  unfold Program.mayEnter
  rw [hw]
  simp only [hs, List.head?_cons, hc, hl, hr, hd, Bool.not_false, Bool.or_true, Bool.and_true, List.contains_nil]
theorem io_enter : Tryd.prog.mayEnter = true := enter_of (by rw [io_words]; exact io_behind _) (io_strip _) io_cut io_later io_reflect io_door
theorem io_final : Tryd.prog.liftsFinal = false := by
  unfold Program.liftsFinal Program.headLifts
  rw [io_words, io_behind]
  simp only [io_strip, List.head?_cons, io_cut, io_carried', Bool.false_and, Bool.false_or, if_true, List.contains_nil]
theorem make_of {P : Program} {c : List Char} {rest : List (List Char)} (hw : behindMainWord (wordsSigns P.initOrder.toList) = c :: rest) (h1 : (c == "gc".toList) = false) (h2 : (c == "spec".toList) = false) (h3 : (c == "cut".toList) = true) : P.make = some .cut := by
  unfold Program.make
  rw [hw]
  simp only [h1, h2, h3, Bool.false_or, Bool.true_or, Bool.false_eq_true, if_false, if_true]
theorem io_make : Tryd.prog.make = some .cut := make_of (c := ioW3) (by rw [io_words]; exact io_behind _) (by kernel_rfl) (by kernel_rfl) (by kernel_rfl)
def jf (P : Program) (f : FuncId) (fn : Func) (s : ChangeSpec) (c : OpenClaim) : { g : Bool → Bool → Option Make → Bool // joinedFacts P f fn s c = g P.mayEnter P.liftsFinal P.make } := by
  refine ⟨?g, ?h⟩
  case h =>
    unfold joinedFacts
    generalize P.mayEnter = m
    generalize P.liftsFinal = l
    generalize P.make = k
    exact rfl
theorem joined_of {P : Program} {f : FuncId} {fn : Func} {s : ChangeSpec} {c : OpenClaim} (h1 : P.mayEnter = true) (h2 : P.liftsFinal = false) (h3 : P.make = some .cut) (h : (jf P f fn s c).1 true false (some .cut) = true) : joinedFacts P f fn s c = true := by
  have e := (jf P f fn s c).2
  revert h e
  generalize (jf P f fn s c).1 = g
  intro h e
  rw [e, h1, h2, h3]; exact h

end Go.Proofs.YtnaoeggecibkmaaDoor.Gh
