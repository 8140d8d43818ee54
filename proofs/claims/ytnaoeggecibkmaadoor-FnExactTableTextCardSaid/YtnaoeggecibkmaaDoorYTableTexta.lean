/- Code trees that the law TableText reaches: each is what the decoding gives (checked by the kernel). -/
import Derived.Test.YtnaoeggecibkmaaDoorC0
import Derived.Test.YtnaoeggecibkmaaDoorFm
import Derived.Test.YtnaoeggecibkmaaDoorFn
import Derived.Test.YtnaoeggecibkmaaDoorFz
namespace Go.Proofs.YtnaoeggecibkmaaDoor.Gh
open Go Go.RowKit Go.Proofs
open Nat (reduceEqDiff reduceMul reduceAdd)
open Int (reduceToNat)
set_option linter.unusedVariables false
set_option linter.unusedSimpArgs false
set_option maxHeartbeats 4000000

abbrev k0_ : List GOp := [oo 4 (.mv (ci 0))]
abbrev k1_ : List GOp := [oo 7 (.mv (tt 0)), oo 8 (.call (ff 110) [tt 7]), oo 5 (.mv (tt 8))]
abbrev k2_ : List GOp := [oo 9 (.mv (tt 1)), oo 10 (.call (ff 110) [tt 9]), oo 6 (.mv (tt 10))]
abbrev k3_ : List GOp := [oo 11 (.mv (tt 5))]
abbrev k4 : List GOp := [oo 12 (.mv (tt 6))]
abbrev k5 : List GOp := [oo 4 (.mv (ci 0))]
abbrev k6 : List GOp := [oo 4 (.mv (ci (-1)))]
abbrev k7 : List GOp := [oo 13 (.mv (tt 6))]
abbrev k8 : List GOp := [oo 4 (.mv (ci 1))]
abbrev k9 : List GOp := [oo 14 (.mv (tt 0)), oo 15 (.mv (tt 1)), oo 16 (.bin .lss (tt 14) (tt 15))]
abbrev ka : List GOp := [oo 4 (.mv (ci (-1)))]
abbrev kb : List GOp := [oo 17 (.mv (tt 0)), oo 18 (.mv (tt 1)), oo 19 (.bin .gtr (tt 17) (tt 18))]
abbrev kc : List GOp := [oo 4 (.mv (ci 1))]
abbrev kd : List GOp := [oo 4 (.mv (ci 0))]
abbrev ke : GCode := .seq (.reg k0_) (.seq (.reg k1_) (.seq (.reg k2_) (.seq (.seq (.reg k3_) (.cond (tt 11) (.seq (.seq (.reg k4) (.cond (tt 12) (.seq (.reg k5) (.ret)) (.skip))) (.seq (.reg k6) (.ret))) (.skip))) (.seq (.seq (.reg k7) (.cond (tt 13) (.seq (.reg k8) (.ret)) (.skip))) (.seq (.seq (.reg k9) (.cond (tt 16) (.seq (.reg ka) (.ret)) (.skip))) (.seq (.seq (.reg kb) (.cond (tt 19) (.seq (.reg kc) (.ret)) (.skip))) (.seq (.reg kd) (.ret))))))))
theorem kf : decFn Tryd.prog Tryd.f92 = some (20, [.t 4], ke) := by kernel_rfl
theorem kg {args : List Value} {G : GH} {K : Value → GH → Prop} (hn : args.length ≤ 20) (h : gW Tryd.prog ke (RetK [.t 4] K) (T0 args) G) : GC Tryd.prog 92 args G K := GC_intro mixed Tryd.func92 kf hn h
abbrev kh : List GOp := [oo 2 (.mv (cb  false))]
abbrev ki : List GOp := [oo 3 (.mv (tt 0)), oo 4 (.mv (tt 0)), oo 5 (.bin .neq (tt 3) (tt 4)), oo 2 (.mv (tt 5))]
abbrev kj : GCode := .seq (.reg kh) (.seq (.reg ki) (.ret))
theorem kk : decFn Tryd.prog Tryd.f110 = some (6, [.t 2], kj) := by kernel_rfl
theorem kl {args : List Value} {G : GH} {K : Value → GH → Prop} (hn : args.length ≤ 6) (h : gW Tryd.prog kj (RetK [.t 2] K) (T0 args) G) : GC Tryd.prog 110 args G K := GC_intro mixed Tryd.func110 kk hn h
abbrev km : List GOp := [oo 2 (.mv (.const (.string ByteArray.empty)))]
abbrev kn : List GOp := [oo 3 (.mv (tt 0)), oo 4 (.call (ff 86) [tt 3, (ci 10)]), oo 2 (.mv (tt 4))]
abbrev ko : GCode := .seq (.reg km) (.seq (.reg kn) (.ret))
theorem kp : decFn Tryd.prog Tryd.f42 = some (5, [.t 2], ko) := by kernel_rfl
theorem kq {args : List Value} {G : GH} {K : Value → GH → Prop} (hn : args.length ≤ 5) (h : gW Tryd.prog ko (RetK [.t 2] K) (T0 args) G) : GC Tryd.prog 42 args G K := GC_intro mixed Tryd.func42 kp hn h
abbrev kr : List GOp := [oo 2 (.mv (.const (.string ByteArray.empty)))]
abbrev ks_ : List GOp := [oo 6 (.mv (tt 0)), oo 7 (.len (tt 6)), oo 8 (.bin .gtr (tt 7) (ci 64)), oo 9 (.mv (tt 8)), og 10 9 false (.mv (tt 0)), og 11 9 false (.call (ff 93) [tt 10, (ff 94)]), oo 12 (.pick (tt 9) (cb  true) (tt 11))]
abbrev kt : List GOp := [oo 2 (.mv (.const (.string ByteArray.empty)))]
abbrev ku_ : List GOp := [oo 13 (.mv (tt 0)), oo 14 (.len (tt 13)), oo 15 (.bin .eql (tt 14) (ci 0))]
abbrev kv_ : List GOp := [oo 2 (.mv (.const (.string ⟨#[45]⟩)))]
abbrev kw : List GOp := [oo 3 (.mv (.const (.slice none 0 0)))]
abbrev kx : List GOp := [oo 16 (.mv (tt 0)), oo 17 (.len (tt 16)), oo 18 (.mv (ci 0))]
abbrev ky : List GOp := [oo 19 (.bin .lss (tt 18) (tt 17))]
abbrev kz : List GOp := [oo 20 (.ia 1 (tt 16) (tt 18)), oo 21 (.ld (tt 20)), oo 5 (.mv (tt 21))]
abbrev k10 : List GOp := [oo 22 (.mv (tt 3)), oo 23 (.mv (tt 5)), oo 24 (.call (ff 42) [tt 23]), oo 25 (.bs 1 [tt 24]), oo 26 (.ap 1 16 [.string ByteArray.empty] (tt 22) (tt 25)), oo 3 (.mv (tt 26))]
abbrev k11 : List GOp := [oo 27 (.bin .add (tt 18) (ci 1)), oo 18 (.mv (tt 27))]
abbrev k12 : GCode := .seq (.reg ky) (.seq (.cond (tt 19) (.skip) (.exit 0)) (.seq (.blk 1 (.seq (.reg kz) (.reg k10))) (.reg k11)))
abbrev k13 : List GOp := [oo 28 (.mv (tt 3)), oo 29 (.call (ff 51) [tt 28, (.const (.string ⟨#[44]⟩))]), oo 2 (.mv (tt 29))]
abbrev k14 : GCode := .seq (.reg kr) (.seq (.seq (.reg ks_) (.cond (tt 12) (.seq (.reg kt) (.ret)) (.skip))) (.seq (.seq (.reg ku_) (.cond (tt 15) (.seq (.reg kv_) (.ret)) (.skip))) (.seq (.reg kw) (.seq (.seq (.reg kx) (.blk 0 (.loop k12))) (.seq (.reg k13) (.ret))))))
theorem k15 : decFn Tryd.prog Tryd.f50 = some (30, [.t 2], k14) := by kernel_rfl
theorem k16 {args : List Value} {G : GH} {K : Value → GH → Prop} (hn : args.length ≤ 30) (h : gW Tryd.prog k14 (RetK [.t 2] K) (T0 args) G) : GC Tryd.prog 50 args G K := GC_intro mixed Tryd.func50 k15 hn h
abbrev k17 : List GOp := [oo 2 (.mv (cb  false))]
abbrev k18 : List GOp := [oo 3 (.mv (tt 0)), oo 4 (.call (ff 95) [tt 3]), oo 5 (.un .not (tt 4)), oo 2 (.mv (tt 5))]
abbrev k19 : GCode := .seq (.reg k17) (.seq (.reg k18) (.ret))
theorem k1a : decFn Tryd.prog Tryd.f94 = some (6, [.t 2], k19) := by kernel_rfl
theorem k1b {args : List Value} {G : GH} {K : Value → GH → Prop} (hn : args.length ≤ 6) (h : gW Tryd.prog k19 (RetK [.t 2] K) (T0 args) G) : GC Tryd.prog 94 args G K := GC_intro mixed Tryd.func94 k1a hn h
abbrev k1c : List GOp := [oo 1 (.bx (tt 0)), oo 2 (.mv (.const (.string ByteArray.empty)))]
abbrev k1d : List GOp := [oo 3 (.ldn 2 (tt 1)), oo 4 (.call (ff 59) [tt 3]), oo 5 (.un .not (tt 4)), oo 6 (.mv (tt 5)), og 7 6 false (.fa 0 (tt 1)), og 8 6 false (.ld (tt 7)), og 9 6 false (.len (tt 8)), og 10 6 false (.bin .eql (tt 9) (ci 0)), oo 11 (.pick (tt 6) (cb  true) (tt 10))]
abbrev k1e : List GOp := [oo 2 (.mv (.const (.string ByteArray.empty)))]
abbrev k1f : List DOp := [dl 0 (oo 12 (.fa 0 (tt 1))), dl 1 (oo 13 (.ld (tt 12))), dl 3 (oo 15 (.fa 1 (tt 1))), dl 4 (oo 16 (.ld (tt 15))), dh 2 [4] (oo 14 (.call (ff 50) [tt 13])), dh 5 [1] (oo 17 (.call (ff 60) [tt 16])), dl 6 (oo 18 (.bin .add (tt 14) (tt 17))), dl 7 (oo 2 (.mv (tt 18)))]
abbrev k1g : GCode := .seq (.reg k1c) (.seq (.seq (.reg k1d) (.cond (tt 11) (.seq (.reg k1e) (.ret)) (.skip))) (.seq (.dreg k1f) (.ret)))
theorem k1h : decFn Tryd.prog Tryd.f22 = some (19, [.t 2], k1g) := by kernel_rfl
theorem k1i {args : List Value} {G : GH} {K : Value → GH → Prop} (hn : args.length ≤ 19) (h : gW Tryd.prog k1g (RetK [.t 2] K) (T0 args) G) : GC Tryd.prog 22 args G K := GC_intro mixed Tryd.func22 k1h hn h
abbrev k1j : List GOp := [oo 1 (.bx (tt 0)), oo 2 (.mv (cb  false))]
abbrev k1k : List GOp := [oo 5 (.fa 0 (tt 1)), oo 6 (.ld (tt 5)), oo 7 (.call (ff 100) [tt 6]), oo 8 (.un .not (tt 7)), oo 9 (.mv (tt 8)), og 10 9 false (.fa 0 (tt 1)), og 11 9 false (.ld (tt 10)), og 12 9 false (.call (ff 101) [tt 11, (ci 8)]), og 13 9 false (.un .not (tt 12)), oo 14 (.pick (tt 9) (cb  true) (tt 13)), oo 15 (.mv (tt 14)), og 16 15 false (.fa 1 (tt 1)), og 17 15 false (.ld (tt 16)), og 18 15 false (.len (tt 17)), og 19 15 false (.bin .gtr (tt 18) (ci 24)), oo 20 (.pick (tt 15) (cb  true) (tt 19))]
abbrev k1l : List GOp := [oo 2 (.mv (cb  false))]
abbrev k1m : List GOp := [oo 21 (.fa 1 (tt 1)), oo 22 (.ld (tt 21)), oo 23 (.len (tt 22)), oo 24 (.mv (ci 0))]
abbrev k1n : List GOp := [oo 25 (.bin .lss (tt 24) (tt 23))]
abbrev k1o : List GOp := [oo 26 (.mv (tt 24)), oo 27 (.ia 1 (tt 22) (tt 24)), oo 28 (.ld (tt 27)), oo 3 (.mv (tt 26)), oo 4 (.mv (tt 28))]
abbrev k1p : List GOp := [oo 29 (.mv (tt 4)), oo 30 (.len (tt 29)), oo 31 (.fa 0 (tt 1)), oo 32 (.ld (tt 31)), oo 33 (.len (tt 32)), oo 34 (.bin .neq (tt 30) (tt 33)), oo 35 (.mv (tt 34)), og 36 35 false (.mv (tt 4)), og 37 35 false (.call (ff 101) [tt 36, (ci 4)]), og 38 35 false (.un .not (tt 37)), oo 39 (.pick (tt 35) (cb  true) (tt 38)), oo 40 (.mv (tt 39)), og 41 40 false (.mv (tt 3)), og 42 40 false (.bin .gtr (tt 41) (ci 0)), og 43 40 false (.mv (tt 42)), og 44 43 true (.fa 1 (tt 1)), og 45 43 true (.ld (tt 44)), og 46 43 true (.mv (tt 3)), og 47 43 true (.bin .sub (tt 46) (ci 1)), og 48 43 true (.ia 1 (tt 45) (tt 47)), og 49 43 true (.ld (tt 48)), og 50 43 true (.mv (tt 4)), og 51 43 true (.call (ff 102) [tt 49, tt 50]), og 52 43 true (.bin .geq (tt 51) (ci 0)), og 53 40 false (.pick (tt 43) (tt 52) (cb  false)), oo 54 (.pick (tt 40) (cb  true) (tt 53))]
abbrev k1q : List GOp := [oo 2 (.mv (cb  false))]
abbrev k1r : List GOp := [oo 55 (.bin .add (tt 24) (ci 1)), oo 24 (.mv (tt 55))]
abbrev k1s : GCode := .seq (.reg k1n) (.seq (.cond (tt 25) (.skip) (.exit 0)) (.seq (.blk 1 (.seq (.reg k1o) (.seq (.reg k1p) (.cond (tt 54) (.seq (.reg k1q) (.ret)) (.skip))))) (.reg k1r)))
abbrev k1t : List GOp := [oo 2 (.mv (cb  true))]
abbrev k1u : GCode := .seq (.reg k1j) (.seq (.seq (.reg k1k) (.cond (tt 20) (.seq (.reg k1l) (.ret)) (.skip))) (.seq (.seq (.reg k1m) (.blk 0 (.loop k1s))) (.seq (.reg k1t) (.ret))))
theorem k1v : decFn Tryd.prog Tryd.f59 = some (56, [.t 2], k1u) := by kernel_rfl
theorem k1w {args : List Value} {G : GH} {K : Value → GH → Prop} (hn : args.length ≤ 56) (h : gW Tryd.prog k1u (RetK [.t 2] K) (T0 args) G) : GC Tryd.prog 59 args G K := GC_intro mixed Tryd.func59 k1v hn h
abbrev k1x : List GOp := [oo 3 (.bx (tt 1)), oo 4 (.mv (cb  false))]
abbrev k1y : List GOp := [oo 5 (.mv (tt 0)), oo 6 (.mf (.func 113) [] [tt 3]), oo 7 (.call (ff 93) [tt 5, tt 6]), oo 8 (.un .not (tt 7)), oo 4 (.mv (tt 8))]
abbrev k1z : GCode := .seq (.reg k1x) (.seq (.reg k1y) (.ret))
theorem k20 : decFn Tryd.prog Tryd.f101 = some (9, [.t 4], k1z) := by kernel_rfl
theorem k21 {args : List Value} {G : GH} {K : Value → GH → Prop} (hn : args.length ≤ 9) (h : gW Tryd.prog k1z (RetK [.t 4] K) (T0 args) G) : GC Tryd.prog 101 args G K := GC_intro mixed Tryd.func101 k20 hn h
abbrev k22 : List GOp := [oo 3 (.mv (cb  false))]
abbrev k23 : List GOp := [oo 4 (.mv (tt 0)), oo 5 (.ld (tt 1)), oo 6 (.call (ff 90) [tt 4, tt 5]), oo 7 (.un .not (tt 6)), oo 3 (.mv (tt 7))]
abbrev k24 : GCode := .seq (.reg k22) (.seq (.reg k23) (.ret))
theorem k25 : decFn Tryd.prog Tryd.f113 = some (8, [.t 3], k24) := by kernel_rfl
theorem k26 {args : List Value} {G : GH} {K : Value → GH → Prop} (hn : args.length ≤ 8) (h : gW Tryd.prog k24 (RetK [.t 3] K) (T0 args) G) : GC Tryd.prog 113 args G K := GC_intro mixed Tryd.func113 k25 hn h
abbrev k27 : List GOp := [oo 4 (.mv (cb  false))]
abbrev k28 : List GOp := [oo 5 (.mv (tt 0)), oo 6 (.mv (tt 1)), oo 7 (.bin .sub (tt 6) (ci 1)), oo 8 (.call (ff 83) [tt 5, (ci 0), tt 7]), oo 4 (.mv (tt 8))]
abbrev k29 : GCode := .seq (.reg k27) (.seq (.reg k28) (.ret))
theorem k2a : decFn Tryd.prog Tryd.f90 = some (9, [.t 4], k29) := by kernel_rfl
theorem k2b {args : List Value} {G : GH} {K : Value → GH → Prop} (hn : args.length ≤ 9) (h : gW Tryd.prog k29 (RetK [.t 4] K) (T0 args) G) : GC Tryd.prog 90 args G K := GC_intro mixed Tryd.func90 k2a hn h
abbrev k2c : List GOp := [oo 2 (.mv (cb  false))]
abbrev k2d : List GOp := [oo 3 (.mv (ci 1))]
abbrev k2e : List GOp := [oo 4 (.mv (tt 3)), oo 5 (.mv (tt 0)), oo 6 (.len (tt 5)), oo 7 (.bin .lss (tt 4) (tt 6))]
abbrev k2f : List DOp := [dl 0 (oo 10 (.mv (tt 0))), dl 1 (oo 11 (.mv (tt 3))), dl 2 (oo 12 (.bin .sub (tt 11) (ci 1))), dl 3 (oo 13 (.ia 1 (tt 10) (tt 12))), dl 4 (oo 14 (.ld (tt 13))), dl 5 (oo 15 (.mv (tt 0))), dl 6 (oo 16 (.mv (tt 3))), dl 7 (oo 17 (.ia 1 (tt 15) (tt 16))), dl 8 (oo 18 (.ld (tt 17))), dl 9 (oo 19 (.bin .geq (tt 14) (tt 18)))]
abbrev k2g : List GOp := [oo 2 (.mv (cb  false))]
abbrev k2h : List GOp := [oo 8 (.mv (tt 3)), oo 9 (.bin .add (tt 8) (ci 1)), oo 3 (.mv (tt 9))]
abbrev k2i : GCode := .seq (.seq (.reg k2e) (.cond (tt 7) (.skip) (.exit 0))) (.seq (.blk 1 (.seq (.dreg k2f) (.cond (tt 19) (.seq (.reg k2g) (.ret)) (.skip)))) (.reg k2h))
abbrev k2j : List GOp := [oo 2 (.mv (cb  true))]
abbrev k2k : GCode := .seq (.reg k2c) (.seq (.seq (.reg k2d) (.blk 0 (.loop k2i))) (.seq (.reg k2j) (.ret)))
theorem k2l : decFn Tryd.prog Tryd.f100 = some (20, [.t 2], k2k) := by kernel_rfl
theorem k2m {args : List Value} {G : GH} {K : Value → GH → Prop} (hn : args.length ≤ 20) (h : gW Tryd.prog k2k (RetK [.t 2] K) (T0 args) G) : GC Tryd.prog 100 args G K := GC_intro mixed Tryd.func100 k2l hn h
abbrev k2n : List GOp := [oo 2 (.mv (cb  false))]
abbrev k2o : List GOp := [oo 3 (.mv (tt 0)), oo 4 (.call (ff 83) [tt 3, (ci (-1000000000000)), (ci 1000000000000)]), oo 2 (.mv (tt 4))]
abbrev k2p : GCode := .seq (.reg k2n) (.seq (.reg k2o) (.ret))
theorem k2q : decFn Tryd.prog Tryd.f95 = some (5, [.t 2], k2p) := by kernel_rfl
theorem k2r {args : List Value} {G : GH} {K : Value → GH → Prop} (hn : args.length ≤ 5) (h : gW Tryd.prog k2p (RetK [.t 2] K) (T0 args) G) : GC Tryd.prog 95 args G K := GC_intro mixed Tryd.func95 k2q hn h
abbrev k2s : List GOp := [oo 2 (.mv (.const (.string ByteArray.empty)))]
abbrev k2t : List GOp := [oo 3 (.alB 73 [.pointer none, .slice none 0 0])]
abbrev k2u : List GOp := [oo 6 (.mv (tt 0)), oo 7 (.len (tt 6)), oo 8 (.mv (ci 0))]
abbrev k2v : List GOp := [oo 9 (.bin .lss (tt 8) (tt 7))]
abbrev k2w : List GOp := [oo 10 (.ia 1 (tt 6) (tt 8)), oo 11 (.ld (tt 10)), oo 5 (.mv (tt 11))]
abbrev k2x : List GOp := [oo 12 (.mv (tt 5)), oo 13 (.call (ff 50) [tt 12]), oo 14 (.bin .add (.const (.string ⟨#[47]⟩)) (tt 13)), oo 15 (.call (ff 41) [tt 3, tt 14])]
abbrev k2y : List GOp := [oo 16 (.bin .add (tt 8) (ci 1)), oo 8 (.mv (tt 16))]
abbrev k2z : GCode := .seq (.reg k2v) (.seq (.cond (tt 9) (.skip) (.exit 0)) (.seq (.blk 1 (.seq (.reg k2w) (.reg k2x))) (.reg k2y)))
abbrev k30 : List GOp := [oo 17 (.call (ff 43) [tt 3]), oo 2 (.mv (tt 17))]
abbrev k31 : GCode := .seq (.reg k2s) (.seq (.reg k2t) (.seq (.seq (.reg k2u) (.blk 0 (.loop k2z))) (.seq (.reg k30) (.ret))))
theorem k32 : decFn Tryd.prog Tryd.f60 = some (18, [.t 2], k31) := by kernel_rfl
theorem k33 {args : List Value} {G : GH} {K : Value → GH → Prop} (hn : args.length ≤ 18) (h : gW Tryd.prog k31 (RetK [.t 2] K) (T0 args) G) : GC Tryd.prog 60 args G K := GC_intro mixed Tryd.func60 k32 hn h
abbrev k34 : List GOp := [oo 6 (.mv (cb  false))]
abbrev k35 : List GOp := [oo 7 (.mv (tt 0)), oo 8 (.mv (tt 1)), oo 9 (.bin .geq (tt 7) (tt 8)), oo 10 (.mv (tt 9)), og 11 10 true (.mv (tt 0)), og 12 10 true (.mv (tt 2)), og 13 10 true (.bin .leq (tt 11) (tt 12)), oo 14 (.pick (tt 10) (tt 13) (cb  false)), oo 6 (.mv (tt 14))]
abbrev k36 : GCode := .seq (.reg k34) (.seq (.reg k35) (.ret))
theorem k37 : decFn Tryd.prog Tryd.f83 = some (15, [.t 6], k36) := by kernel_rfl
theorem k38 {args : List Value} {G : GH} {K : Value → GH → Prop} (hn : args.length ≤ 15) (h : gW Tryd.prog k36 (RetK [.t 6] K) (T0 args) G) : GC Tryd.prog 83 args G K := GC_intro mixed Tryd.func83 k37 hn h
abbrev k39 : List GOp := [oo 1 (.bx (tt 0)), oo 2 (.mv (cb  false))]
abbrev k3a : List GOp := [oo 3 (.mv (ci 1048576))]
abbrev k3b : List GOp := [oo 7 (.ldn 2 (tt 1)), oo 8 (.mv (tt 3)), oo 9 (.call (ff 19) [tt 7, tt 8]), oo 3 (.mv (tt 9))]
abbrev k3c : List GOp := [oo 10 (.mv (tt 3)), oo 11 (.bin .lss (tt 10) (ci 0))]
abbrev k3d : List GOp := [oo 2 (.mv (cb  true))]
abbrev k3e : List GOp := [oo 12 (.ldn 2 (tt 1)), oo 13 (.call (ff 21) [tt 12]), oo 14 (.call (ff 20) [tt 13]), oo 4 (.mv (tt 14))]
abbrev k3f : List GOp := [oo 15 (.ldn 2 (tt 1)), oo 16 (.call (ff 21) [tt 15]), oo 5 (.al [.slice none 0 0, .slice none 0 0]), on (.st 2 (tt 5) (tt 16))]
abbrev k3g : List GOp := [oo 17 (.ldn 2 (tt 5)), oo 18 (.call (ff 22) [tt 17]), oo 6 (.mv (tt 18))]
abbrev k3h : List GOp := [oo 19 (.mv (tt 6)), oo 20 (.mv (tt 4)), oo 21 (.bin .neq (tt 19) (tt 20))]
abbrev k3i : List GOp := [oo 2 (.mv (cb  false))]
abbrev k3j : List DOp := [dl 0 (oo 22 (.ldn 2 (tt 5))), dl 1 (oo 23 (.ldn 2 (tt 1))), dh 2 [0] (oo 24 (.call (ff 21) [tt 23])), dh 3 [1] (oo 25 (.call (ff 23) [tt 22, tt 24])), dl 4 (oo 26 (.un .not (tt 25)))]
abbrev k3k : List GOp := [oo 2 (.mv (cb  false))]
abbrev k3l : List GOp := [oo 2 (.mv (cb  true))]
abbrev k3m : GCode := .seq (.reg k39) (.seq (.reg k3a) (.seq (.reg k3b) (.seq (.seq (.reg k3c) (.cond (tt 11) (.seq (.reg k3d) (.ret)) (.skip))) (.seq (.reg k3e) (.seq (.reg k3f) (.seq (.reg k3g) (.seq (.seq (.reg k3h) (.cond (tt 21) (.seq (.reg k3i) (.ret)) (.skip))) (.seq (.seq (.dreg k3j) (.cond (tt 26) (.seq (.reg k3k) (.ret)) (.skip))) (.seq (.reg k3l) (.ret))))))))))
theorem k3n : decFn Tryd.prog Tryd.f5 = some (27, [.t 2], k3m) := by kernel_rfl
theorem k3o {args : List Value} {G : GH} {K : Value → GH → Prop} (hn : args.length ≤ 27) (h : gW Tryd.prog k3m (RetK [.t 2] K) (T0 args) G) : GC Tryd.prog 5 args G K := GC_intro mixed Tryd.func5 k3n hn h
abbrev k3p : List GOp := [oo 4 (.mv (cb  false))]
abbrev k3q : List GOp := [oo 6 (.mv (tt 0)), oo 7 (.len (tt 6)), oo 8 (.mv (tt 1)), oo 9 (.len (tt 8)), oo 10 (.bin .neq (tt 7) (tt 9))]
abbrev k3r : List GOp := [oo 4 (.mv (cb  false))]
abbrev k3s : List GOp := [oo 5 (.mv (ci 0))]
abbrev k3t : List GOp := [oo 11 (.mv (tt 5)), oo 12 (.mv (tt 0)), oo 13 (.len (tt 12)), oo 14 (.bin .lss (tt 11) (tt 13))]
abbrev k3u : List DOp := [dl 0 (oo 17 (.mv (tt 0))), dl 1 (oo 18 (.mv (tt 5))), dl 2 (oo 19 (.ia 1 (tt 17) (tt 18))), dl 3 (oo 20 (.ld (tt 19))), dl 4 (oo 21 (.mv (tt 1))), dl 5 (oo 22 (.mv (tt 5))), dl 6 (oo 23 (.ia 1 (tt 21) (tt 22))), dl 7 (oo 24 (.ld (tt 23))), dl 8 (oo 25 (.bin .neq (tt 20) (tt 24)))]
abbrev k3v : List GOp := [oo 4 (.mv (cb  false))]
abbrev k3w : List GOp := [oo 15 (.mv (tt 5)), oo 16 (.bin .add (tt 15) (ci 1)), oo 5 (.mv (tt 16))]
abbrev k3x : GCode := .seq (.seq (.reg k3t) (.cond (tt 14) (.skip) (.exit 0))) (.seq (.blk 1 (.seq (.dreg k3u) (.cond (tt 25) (.seq (.reg k3v) (.ret)) (.skip)))) (.reg k3w))
abbrev k3y : List GOp := [oo 4 (.mv (cb  true))]
abbrev k3z : GCode := .seq (.reg k3p) (.seq (.seq (.reg k3q) (.cond (tt 10) (.seq (.reg k3r) (.ret)) (.skip))) (.seq (.seq (.reg k3s) (.blk 0 (.loop k3x))) (.seq (.reg k3y) (.ret))))
theorem k40 : decFn Tryd.prog Tryd.f61 = some (26, [.t 4], k3z) := by kernel_rfl
theorem k41 {args : List Value} {G : GH} {K : Value → GH → Prop} (hn : args.length ≤ 26) (h : gW Tryd.prog k3z (RetK [.t 4] K) (T0 args) G) : GC Tryd.prog 61 args G K := GC_intro mixed Tryd.func61 k40 hn h
abbrev k42 : List GOp := [oo 4 (.mv (cb  false))]
abbrev k43 : List GOp := [oo 6 (.mv (tt 0)), oo 7 (.len (tt 6)), oo 8 (.mv (tt 1)), oo 9 (.len (tt 8)), oo 10 (.bin .neq (tt 7) (tt 9))]
abbrev k44 : List GOp := [oo 4 (.mv (cb  false))]
abbrev k45 : List GOp := [oo 5 (.mv (ci 0))]
abbrev k46 : List GOp := [oo 11 (.mv (tt 5)), oo 12 (.mv (tt 0)), oo 13 (.len (tt 12)), oo 14 (.bin .lss (tt 11) (tt 13))]
abbrev k47 : List DOp := [dl 0 (oo 17 (.mv (tt 0))), dl 1 (oo 18 (.mv (tt 5))), dl 2 (oo 19 (.ia 1 (tt 17) (tt 18))), dl 3 (oo 20 (.ld (tt 19))), dl 4 (oo 21 (.mv (tt 1))), dl 5 (oo 22 (.mv (tt 5))), dl 6 (oo 23 (.ia 1 (tt 21) (tt 22))), dl 7 (oo 24 (.ld (tt 23))), dh 8 [] (oo 25 (.call (ff 61) [tt 20, tt 24])), dl 9 (oo 26 (.un .not (tt 25)))]
abbrev k48 : List GOp := [oo 4 (.mv (cb  false))]
abbrev k49 : List GOp := [oo 15 (.mv (tt 5)), oo 16 (.bin .add (tt 15) (ci 1)), oo 5 (.mv (tt 16))]
abbrev k4a : GCode := .seq (.seq (.reg k46) (.cond (tt 14) (.skip) (.exit 0))) (.seq (.blk 1 (.seq (.dreg k47) (.cond (tt 26) (.seq (.reg k48) (.ret)) (.skip)))) (.reg k49))
abbrev k4b : List GOp := [oo 4 (.mv (cb  true))]
abbrev k4c : GCode := .seq (.reg k42) (.seq (.seq (.reg k43) (.cond (tt 10) (.seq (.reg k44) (.ret)) (.skip))) (.seq (.seq (.reg k45) (.blk 0 (.loop k4a))) (.seq (.reg k4b) (.ret))))
theorem k4d : decFn Tryd.prog Tryd.f62 = some (27, [.t 4], k4c) := by kernel_rfl
theorem k4e {args : List Value} {G : GH} {K : Value → GH → Prop} (hn : args.length ≤ 27) (h : gW Tryd.prog k4c (RetK [.t 4] K) (T0 args) G) : GC Tryd.prog 62 args G K := GC_intro mixed Tryd.func62 k4d hn h
abbrev k4f : List GOp := [oo 2 (.bx (tt 0)), oo 3 (.bx (tt 1)), oo 4 (.mv (cb  false))]
abbrev k4g : List GOp := [oo 5 (.fa 0 (tt 2)), oo 6 (.ld (tt 5)), oo 7 (.fa 0 (tt 3)), oo 8 (.ld (tt 7)), oo 9 (.call (ff 61) [tt 6, tt 8]), oo 10 (.un .not (tt 9))]
abbrev k4h : List GOp := [oo 4 (.mv (cb  false))]
abbrev k4i : List GOp := [oo 11 (.fa 1 (tt 2)), oo 12 (.ld (tt 11)), oo 13 (.fa 1 (tt 3)), oo 14 (.ld (tt 13)), oo 15 (.call (ff 62) [tt 12, tt 14]), oo 16 (.un .not (tt 15))]
abbrev k4j : List GOp := [oo 4 (.mv (cb  false))]
abbrev k4k : List GOp := [oo 4 (.mv (cb  true))]
abbrev k4l : GCode := .seq (.reg k4f) (.seq (.seq (.reg k4g) (.cond (tt 10) (.seq (.reg k4h) (.ret)) (.skip))) (.seq (.seq (.reg k4i) (.cond (tt 16) (.seq (.reg k4j) (.ret)) (.skip))) (.seq (.reg k4k) (.ret))))
theorem k4m : decFn Tryd.prog Tryd.f23 = some (17, [.t 4], k4l) := by kernel_rfl
theorem k4n {args : List Value} {G : GH} {K : Value → GH → Prop} (hn : args.length ≤ 17) (h : gW Tryd.prog k4l (RetK [.t 4] K) (T0 args) G) : GC Tryd.prog 23 args G K := GC_intro mixed Tryd.func23 k4m hn h
abbrev k4o : List GOp := [oo 4 (.mv (ci 0))]
abbrev k4p : List GOp := [oo 5 (.mv (tt 1)), oo 6 (.mv (tt 0)), oo 7 (.len (tt 6)), oo 8 (.bin .sub (tt 5) (tt 7)), oo 1 (.mv (tt 8))]
abbrev k4q : List GOp := [oo 9 (.mv (tt 1)), oo 10 (.bin .lss (tt 9) (ci 0))]
abbrev k4r : List GOp := [oo 4 (.mv (ci (-1)))]
abbrev k4s : List GOp := [oo 11 (.mv (tt 1)), oo 4 (.mv (tt 11))]
abbrev k4t : GCode := .seq (.reg k4o) (.seq (.reg k4p) (.seq (.seq (.reg k4q) (.cond (tt 10) (.seq (.reg k4r) (.ret)) (.skip))) (.seq (.reg k4s) (.ret))))
theorem k4u : decFn Tryd.prog Tryd.f53 = some (12, [.t 4], k4t) := by kernel_rfl
theorem k4v {args : List Value} {G : GH} {K : Value → GH → Prop} (hn : args.length ≤ 12) (h : gW Tryd.prog k4t (RetK [.t 4] K) (T0 args) G) : GC Tryd.prog 53 args G K := GC_intro mixed Tryd.func53 k4u hn h
abbrev k4w : List GOp := [oo 4 (.mv (ci 0))]
abbrev k4x : List GOp := [oo 6 (.mv (tt 1)), oo 7 (.mv (tt 0)), oo 8 (.len (tt 7)), oo 9 (.bin .sub (tt 6) (tt 8)), oo 1 (.mv (tt 9))]
abbrev k4y : List GOp := [oo 10 (.mv (tt 1)), oo 11 (.bin .lss (tt 10) (ci 0))]
abbrev k4z : List GOp := [oo 4 (.mv (ci (-1)))]
abbrev k50 : List GOp := [oo 5 (.mv (ci 0))]
abbrev k51 : List GOp := [oo 12 (.mv (tt 5)), oo 13 (.mv (tt 0)), oo 14 (.len (tt 13)), oo 15 (.bin .lss (tt 12) (tt 14))]
abbrev k52 : List GOp := [oo 18 (.mv (tt 0)), oo 19 (.mv (tt 5)), oo 20 (.ia 1 (tt 18) (tt 19)), oo 21 (.ld (tt 20)), oo 22 (.mv (tt 1)), oo 23 (.call (ff 53) [tt 21, tt 22]), oo 1 (.mv (tt 23))]
abbrev k53 : List GOp := [oo 24 (.mv (tt 1)), oo 25 (.bin .lss (tt 24) (ci 0))]
abbrev k54 : List GOp := [oo 4 (.mv (ci (-1)))]
abbrev k55 : List GOp := [oo 16 (.mv (tt 5)), oo 17 (.bin .add (tt 16) (ci 1)), oo 5 (.mv (tt 17))]
abbrev k56 : GCode := .seq (.seq (.reg k51) (.cond (tt 15) (.skip) (.exit 0))) (.seq (.blk 1 (.seq (.reg k52) (.seq (.reg k53) (.cond (tt 25) (.seq (.reg k54) (.ret)) (.skip))))) (.reg k55))
abbrev k57 : List GOp := [oo 26 (.mv (tt 1)), oo 4 (.mv (tt 26))]
abbrev k58 : GCode := .seq (.reg k4w) (.seq (.reg k4x) (.seq (.seq (.reg k4y) (.cond (tt 11) (.seq (.reg k4z) (.ret)) (.skip))) (.seq (.seq (.reg k50) (.blk 0 (.loop k56))) (.seq (.reg k57) (.ret)))))
theorem k59 : decFn Tryd.prog Tryd.f54 = some (27, [.t 4], k58) := by kernel_rfl
theorem k5a {args : List Value} {G : GH} {K : Value → GH → Prop} (hn : args.length ≤ 27) (h : gW Tryd.prog k58 (RetK [.t 4] K) (T0 args) G) : GC Tryd.prog 54 args G K := GC_intro mixed Tryd.func54 k59 hn h
abbrev k5b : List GOp := [oo 2 (.bx (tt 0)), oo 4 (.mv (ci 0))]
abbrev k5c : List GOp := [oo 5 (.fa 0 (tt 2)), oo 6 (.ld (tt 5)), oo 7 (.mv (tt 1)), oo 8 (.call (ff 53) [tt 6, tt 7]), oo 1 (.mv (tt 8))]
abbrev k5d : List GOp := [oo 9 (.mv (tt 1)), oo 10 (.bin .lss (tt 9) (ci 0))]
abbrev k5e : List GOp := [oo 4 (.mv (ci (-1)))]
abbrev k5f : List GOp := [oo 11 (.fa 1 (tt 2)), oo 12 (.ld (tt 11)), oo 13 (.mv (tt 1)), oo 14 (.call (ff 54) [tt 12, tt 13]), oo 1 (.mv (tt 14))]
abbrev k5g : List GOp := [oo 15 (.mv (tt 1)), oo 16 (.bin .lss (tt 15) (ci 0))]
abbrev k5h : List GOp := [oo 4 (.mv (ci (-1)))]
abbrev k5i : List GOp := [oo 17 (.mv (tt 1)), oo 4 (.mv (tt 17))]
abbrev k5j : GCode := .seq (.reg k5b) (.seq (.reg k5c) (.seq (.seq (.reg k5d) (.cond (tt 10) (.seq (.reg k5e) (.ret)) (.skip))) (.seq (.reg k5f) (.seq (.seq (.reg k5g) (.cond (tt 16) (.seq (.reg k5h) (.ret)) (.skip))) (.seq (.reg k5i) (.ret))))))
theorem k5k : decFn Tryd.prog Tryd.f19 = some (18, [.t 4], k5j) := by kernel_rfl
theorem k5l {args : List Value} {G : GH} {K : Value → GH → Prop} (hn : args.length ≤ 18) (h : gW Tryd.prog k5j (RetK [.t 4] K) (T0 args) G) : GC Tryd.prog 19 args G K := GC_intro mixed Tryd.func19 k5k hn h
abbrev k5m : List GOp := [oo 2 (.mv (.const (.slice none 0 0)))]
abbrev k5n : List GOp := [oo 5 (.mv (tt 0)), oo 6 (.len (tt 5)), oo 7 (.mk 1 8 [.int .i64 0] (tt 6) (tt 6)), oo 3 (.mv (tt 7))]
abbrev k5o : List GOp := [oo 4 (.mv (ci 0))]
abbrev k5p : List GOp := [oo 8 (.mv (tt 4)), oo 9 (.mv (tt 0)), oo 10 (.len (tt 9)), oo 11 (.bin .lss (tt 8) (tt 10))]
abbrev k5q : List GOp := [oo 14 (.mv (tt 3)), oo 15 (.mv (tt 4)), oo 16 (.mv (tt 0)), oo 17 (.mv (tt 4)), oo 18 (.ia 1 (tt 16) (tt 17)), oo 19 (.ld (tt 18)), oo 20 (.ia 1 (tt 14) (tt 15)), on (.st 1 (tt 20) (tt 19))]
abbrev k5r : List GOp := [oo 12 (.mv (tt 4)), oo 13 (.bin .add (tt 12) (ci 1)), oo 4 (.mv (tt 13))]
abbrev k5s : GCode := .seq (.seq (.reg k5p) (.cond (tt 11) (.skip) (.exit 0))) (.seq (.blk 1 (.reg k5q)) (.reg k5r))
abbrev k5t : List GOp := [oo 21 (.mv (tt 3)), oo 2 (.mv (tt 21))]
abbrev k5u : GCode := .seq (.reg k5m) (.seq (.reg k5n) (.seq (.seq (.reg k5o) (.blk 0 (.loop k5s))) (.seq (.reg k5t) (.ret))))
theorem k5v : decFn Tryd.prog Tryd.f57 = some (22, [.t 2], k5u) := by kernel_rfl
theorem k5w {args : List Value} {G : GH} {K : Value → GH → Prop} (hn : args.length ≤ 22) (h : gW Tryd.prog k5u (RetK [.t 2] K) (T0 args) G) : GC Tryd.prog 57 args G K := GC_intro mixed Tryd.func57 k5v hn h
abbrev k5x : List GOp := [oo 2 (.mv (.const (.slice none 0 0)))]
abbrev k5y : List GOp := [oo 5 (.mv (tt 0)), oo 6 (.len (tt 5)), oo 7 (.mk 1 24 [.slice none 0 0] (tt 6) (tt 6)), oo 3 (.mv (tt 7))]
abbrev k5z : List GOp := [oo 4 (.mv (ci 0))]
abbrev k60 : List GOp := [oo 8 (.mv (tt 4)), oo 9 (.mv (tt 0)), oo 10 (.len (tt 9)), oo 11 (.bin .lss (tt 8) (tt 10))]
abbrev k61 : List GOp := [oo 14 (.mv (tt 3)), oo 15 (.mv (tt 4)), oo 16 (.mv (tt 0)), oo 17 (.mv (tt 4)), oo 18 (.ia 1 (tt 16) (tt 17)), oo 19 (.ld (tt 18)), oo 20 (.call (ff 57) [tt 19]), oo 21 (.ia 1 (tt 14) (tt 15)), on (.st 1 (tt 21) (tt 20))]
abbrev k62 : List GOp := [oo 12 (.mv (tt 4)), oo 13 (.bin .add (tt 12) (ci 1)), oo 4 (.mv (tt 13))]
abbrev k63 : GCode := .seq (.seq (.reg k60) (.cond (tt 11) (.skip) (.exit 0))) (.seq (.blk 1 (.reg k61)) (.reg k62))
abbrev k64 : List GOp := [oo 22 (.mv (tt 3)), oo 2 (.mv (tt 22))]
abbrev k65 : GCode := .seq (.reg k5x) (.seq (.reg k5y) (.seq (.seq (.reg k5z) (.blk 0 (.loop k63))) (.seq (.reg k64) (.ret))))
theorem k66 : decFn Tryd.prog Tryd.f58 = some (23, [.t 2], k65) := by kernel_rfl
theorem k67 {args : List Value} {G : GH} {K : Value → GH → Prop} (hn : args.length ≤ 23) (h : gW Tryd.prog k65 (RetK [.t 2] K) (T0 args) G) : GC Tryd.prog 58 args G K := GC_intro mixed Tryd.func58 k66 hn h
abbrev k68 : List GOp := [oo 1 (.bx (tt 0)), oo 2 (.al [.slice none 0 0, .slice none 0 0])]
abbrev k69 : List GOp := [oo 3 (.al [.slice none 0 0, .slice none 0 0])]
abbrev k6a : List GOp := [oo 4 (.fa 0 (tt 1)), oo 5 (.ld (tt 4)), oo 6 (.call (ff 57) [tt 5]), oo 7 (.fa 0 (tt 3)), on (.st 1 (tt 7) (tt 6))]
abbrev k6b : List GOp := [oo 8 (.fa 1 (tt 1)), oo 9 (.ld (tt 8)), oo 10 (.call (ff 58) [tt 9]), oo 11 (.fa 1 (tt 3)), on (.st 1 (tt 11) (tt 10))]
abbrev k6c : List GOp := [oo 12 (.ldn 2 (tt 3)), on (.st 2 (tt 2) (tt 12))]
abbrev k6d : GCode := .seq (.reg k68) (.seq (.reg k69) (.seq (.reg k6a) (.seq (.reg k6b) (.seq (.reg k6c) (.ret)))))
theorem k6e : decFn Tryd.prog Tryd.f21 = some (13, [.cn 2 2], k6d) := by kernel_rfl
theorem k6f {args : List Value} {G : GH} {K : Value → GH → Prop} (hn : args.length ≤ 13) (h : gW Tryd.prog k6d (RetK [.cn 2 2] K) (T0 args) G) : GC Tryd.prog 21 args G K := GC_intro mixed Tryd.func21 k6e hn h
abbrev k6g : List GOp := [oo 4 (.mv (ci 0))]
abbrev k6h : List GOp := [oo 9 (.mv (tt 0)), oo 10 (.len (tt 9)), oo 11 (.mv (ci 0))]
abbrev k6i : List GOp := [oo 12 (.bin .lss (tt 11) (tt 10))]
abbrev k6j : List GOp := [oo 13 (.mv (tt 11)), oo 14 (.ia 1 (tt 9) (tt 11)), oo 15 (.ld (tt 14)), oo 5 (.mv (tt 13)), oo 6 (.mv (tt 15))]
abbrev k6k : List GOp := [oo 16 (.mv (tt 5)), oo 17 (.mv (tt 1)), oo 18 (.len (tt 17)), oo 19 (.bin .geq (tt 16) (tt 18))]
abbrev k6l : List GOp := [oo 4 (.mv (ci 1))]
abbrev k6m : List GOp := [oo 20 (.mv (tt 1)), oo 21 (.mv (tt 5)), oo 22 (.ia 1 (tt 20) (tt 21)), oo 23 (.ld (tt 22)), oo 7 (.mv (tt 23))]
abbrev k6n : List GOp := [oo 24 (.mv (tt 6)), oo 25 (.mv (tt 7)), oo 26 (.call (ff 92) [tt 24, tt 25]), oo 8 (.mv (tt 26))]
abbrev k6o : List GOp := [oo 27 (.mv (tt 8)), oo 28 (.bin .neq (tt 27) (ci 0))]
abbrev k6p : List GOp := [oo 29 (.mv (tt 8)), oo 4 (.mv (tt 29))]
abbrev k6q : List GOp := [oo 30 (.bin .add (tt 11) (ci 1)), oo 11 (.mv (tt 30))]
abbrev k6r : GCode := .seq (.reg k6i) (.seq (.cond (tt 12) (.skip) (.exit 0)) (.seq (.blk 1 (.seq (.reg k6j) (.seq (.seq (.reg k6k) (.cond (tt 19) (.seq (.reg k6l) (.ret)) (.skip))) (.seq (.reg k6m) (.seq (.reg k6n) (.seq (.reg k6o) (.cond (tt 28) (.seq (.reg k6p) (.ret)) (.skip)))))))) (.reg k6q)))
abbrev k6s : List GOp := [oo 31 (.mv (tt 0)), oo 32 (.len (tt 31)), oo 33 (.mv (tt 1)), oo 34 (.len (tt 33)), oo 35 (.bin .lss (tt 32) (tt 34))]
abbrev k6t : List GOp := [oo 4 (.mv (ci (-1)))]
abbrev k6u : List GOp := [oo 4 (.mv (ci 0))]
abbrev k6v : GCode := .seq (.reg k6g) (.seq (.seq (.reg k6h) (.blk 0 (.loop k6r))) (.seq (.seq (.reg k6s) (.cond (tt 35) (.seq (.reg k6t) (.ret)) (.skip))) (.seq (.reg k6u) (.ret))))
theorem k6w : decFn Tryd.prog Tryd.f102 = some (36, [.t 4], k6v) := by kernel_rfl
theorem k6x {args : List Value} {G : GH} {K : Value → GH → Prop} (hn : args.length ≤ 36) (h : gW Tryd.prog k6v (RetK [.t 4] K) (T0 args) G) : GC Tryd.prog 102 args G K := GC_intro mixed Tryd.func102 k6w hn h
abbrev k6y : List GOp := [oo 4 (.mv (cb  false))]
abbrev k6z : List GOp := [oo 5 (.mv (tt 0)), oo 6 (.mv (tt 1)), oo 7 (.call (ff 111) [tt 5, tt 6]), oo 8 (.bin .geq (tt 7) (ci 0)), oo 4 (.mv (tt 8))]
abbrev k70 : GCode := .seq (.reg k6y) (.seq (.reg k6z) (.ret))
theorem k71 : decFn Tryd.prog Tryd.f93 = some (9, [.t 4], k70) := by kernel_rfl
theorem k72 {args : List Value} {G : GH} {K : Value → GH → Prop} (hn : args.length ≤ 9) (h : gW Tryd.prog k70 (RetK [.t 4] K) (T0 args) G) : GC Tryd.prog 93 args G K := GC_intro mixed Tryd.func93 k71 hn h
abbrev k73 : List GOp := [oo 4 (.mv (ci 0))]
abbrev k74 : List GOp := [oo 6 (.mv (tt 0)), oo 7 (.len (tt 6)), oo 8 (.mv (ci 0))]
abbrev k75 : List GOp := [oo 9 (.bin .lss (tt 8) (tt 7))]
abbrev k76 : List GOp := [oo 10 (.mv (tt 8)), oo 5 (.mv (tt 10))]
abbrev k77 : List GOp := [oo 11 (.mv (tt 1)), oo 12 (.mv (tt 0)), oo 13 (.mv (tt 5)), oo 14 (.ia 1 (tt 12) (tt 13)), oo 15 (.ld (tt 14)), oo 16 (.call (tt 11) [tt 15])]
abbrev k78 : List GOp := [oo 17 (.mv (tt 5)), oo 4 (.mv (tt 17))]
abbrev k79 : List GOp := [oo 18 (.bin .add (tt 8) (ci 1)), oo 8 (.mv (tt 18))]
abbrev k7a : GCode := .seq (.reg k75) (.seq (.cond (tt 9) (.skip) (.exit 0)) (.seq (.blk 1 (.seq (.reg k76) (.seq (.reg k77) (.cond (tt 16) (.seq (.reg k78) (.ret)) (.skip))))) (.reg k79)))
abbrev k7b : List GOp := [oo 4 (.mv (ci (-1)))]
abbrev k7c : GCode := .seq (.reg k73) (.seq (.seq (.reg k74) (.blk 0 (.loop k7a))) (.seq (.reg k7b) (.ret)))
theorem k7d : decFn Tryd.prog Tryd.f111 = some (19, [.t 4], k7c) := by kernel_rfl
theorem k7e {args : List Value} {G : GH} {K : Value → GH → Prop} (hn : args.length ≤ 19) (h : gW Tryd.prog k7c (RetK [.t 4] K) (T0 args) G) : GC Tryd.prog 111 args G K := GC_intro mixed Tryd.func111 k7d hn h
abbrev k7f : List GOp := [oo 1 (.bx (tt 0)), oo 2 (.mv (.const (.string ByteArray.empty)))]
abbrev k7g : List GOp := [oo 3 (.call (ff 55) [tt 1]), oo 4 (.un .not (tt 3)), oo 5 (.mv (tt 4)), og 6 5 false (.fa 0 (tt 1)), og 7 5 false (.ld (tt 6)), og 8 5 false (.len (tt 7)), og 9 5 false (.bin .eql (tt 8) (ci 0)), oo 10 (.pick (tt 5) (cb  true) (tt 9))]
abbrev k7h : List GOp := [oo 2 (.mv (.const (.string ByteArray.empty)))]
abbrev k7i : List GOp := [oo 11 (.call (ff 56) [tt 1]), oo 2 (.mv (tt 11))]
abbrev k7j : GCode := .seq (.reg k7f) (.seq (.seq (.reg k7g) (.cond (tt 10) (.seq (.reg k7h) (.ret)) (.skip))) (.seq (.reg k7i) (.ret)))
theorem k7k : decFn Tryd.prog Tryd.f20 = some (12, [.t 2], k7j) := by kernel_rfl
theorem k7l {args : List Value} {G : GH} {K : Value → GH → Prop} (hn : args.length ≤ 12) (h : gW Tryd.prog k7j (RetK [.t 2] K) (T0 args) G) : GC Tryd.prog 20 args G K := GC_intro mixed Tryd.func20 k7k hn h
abbrev k7m : List GOp := [oo 6 (.mv (cb  false))]
abbrev k7n : List GOp := [oo 7 (.mv (tt 0)), oo 8 (.mv (tt 1)), oo 9 (.bin .geq (tt 7) (tt 8)), oo 10 (.mv (tt 9)), og 11 10 true (.mv (tt 0)), og 12 10 true (.mv (tt 2)), og 13 10 true (.bin .leq (tt 11) (tt 12)), oo 14 (.pick (tt 10) (tt 13) (cb  false)), oo 6 (.mv (tt 14))]
abbrev k7o : GCode := .seq (.reg k7m) (.seq (.reg k7n) (.ret))
theorem k7p : decFn Tryd.prog Tryd.f80 = some (15, [.t 6], k7o) := by kernel_rfl
theorem k7q {args : List Value} {G : GH} {K : Value → GH → Prop} (hn : args.length ≤ 15) (h : gW Tryd.prog k7o (RetK [.t 6] K) (T0 args) G) : GC Tryd.prog 80 args G K := GC_intro mixed Tryd.func80 k7p hn h
abbrev k7r : List GOp := [oo 6 (.mv (cb  false))]
abbrev k7s : List GOp := [oo 7 (.mv (ci 0))]
abbrev k7t : List GOp := [oo 8 (.mv (tt 7)), oo 9 (.mv (tt 0)), oo 10 (.len (tt 9)), oo 11 (.bin .lss (tt 8) (tt 10))]
abbrev k7u : List DOp := [dl 0 (oo 14 (.mv (tt 0))), dl 1 (oo 15 (.mv (tt 7))), dl 2 (oo 16 (.ia 1 (tt 14) (tt 15))), dl 3 (oo 17 (.ld (tt 16))), dl 4 (oo 18 (.mv (tt 1))), dl 5 (oo 19 (.mv (tt 2))), dh 6 [] (oo 20 (.call (ff 80) [tt 17, tt 18, tt 19])), dl 7 (oo 21 (.un .not (tt 20))), dl 8 (oo 22 (.mv (tt 21))), dl 9 (og 23 22 false (.mv (tt 7))), dl 10 (og 24 22 false (.bin .gtr (tt 23) (ci 0))), dl 11 (og 25 22 false (.mv (tt 24))), dl 12 (og 26 25 true (.mv (tt 0))), dl 13 (og 27 25 true (.mv (tt 7))), dl 14 (og 28 25 true (.bin .sub (tt 27) (ci 1))), dl 15 (og 29 25 true (.ia 1 (tt 26) (tt 28))), dl 16 (og 30 25 true (.ld (tt 29))), dl 17 (og 31 25 true (.mv (tt 0))), dl 18 (og 32 25 true (.mv (tt 7))), dl 19 (og 33 25 true (.ia 1 (tt 31) (tt 32))), dl 20 (og 34 25 true (.ld (tt 33))), dl 21 (og 35 25 true (.bin .geq (tt 30) (tt 34))), dl 22 (og 36 22 false (.pick (tt 25) (tt 35) (cb  false))), dl 23 (oo 37 (.pick (tt 22) (cb  true) (tt 36)))]
abbrev k7v : List GOp := [oo 6 (.mv (cb  false))]
abbrev k7w : List GOp := [oo 12 (.mv (tt 7)), oo 13 (.bin .add (tt 12) (ci 1)), oo 7 (.mv (tt 13))]
abbrev k7x : GCode := .seq (.seq (.reg k7t) (.cond (tt 11) (.skip) (.exit 0))) (.seq (.blk 1 (.seq (.dreg k7u) (.cond (tt 37) (.seq (.reg k7v) (.ret)) (.skip)))) (.reg k7w))
abbrev k7y : List GOp := [oo 6 (.mv (cb  true))]
abbrev k7z : GCode := .seq (.reg k7r) (.seq (.seq (.reg k7s) (.blk 0 (.loop k7x))) (.seq (.reg k7y) (.ret)))
theorem k80 : decFn Tryd.prog Tryd.f98 = some (38, [.t 6], k7z) := by kernel_rfl
theorem k81 {args : List Value} {G : GH} {K : Value → GH → Prop} (hn : args.length ≤ 38) (h : gW Tryd.prog k7z (RetK [.t 6] K) (T0 args) G) : GC Tryd.prog 98 args G K := GC_intro mixed Tryd.func98 k80 hn h
abbrev k82 : List GOp := [oo 2 (.mv (.const (.string ByteArray.empty)))]
abbrev k83 : List GOp := [oo 8 (.mv (tt 0)), oo 9 (.bin .eql (tt 8) (ci 0))]
abbrev k84 : List GOp := [oo 2 (.mv (.const (.string ⟨#[48]⟩)))]
abbrev k85 : List GOp := [oo 10 (.bs 1 []), oo 3 (.mv (tt 10))]
abbrev k86 : List GOp := [oo 11 (.mv (tt 0)), oo 4 (.mv (tt 11))]
abbrev k87 : List GOp := [oo 12 (.mv (tt 4)), oo 13 (.bin .neq (tt 12) (ci 0))]
abbrev k88 : List GOp := [oo 16 (.mv (tt 4)), oo 17 (.bin .rem (tt 16) (ci 10)), oo 5 (.mv (tt 17))]
abbrev k89 : List GOp := [oo 18 (.mv (tt 5)), oo 19 (.bin .lss (tt 18) (ci 0))]
abbrev k8a : List GOp := [oo 20 (.mv (tt 5)), oo 21 (.un .neg (tt 20)), oo 5 (.mv (tt 21))]
abbrev k8b : List GOp := [oo 22 (.mv (tt 3)), oo 23 (.mv (tt 5)), oo 24 (.bin .add (ci 48) (tt 23)), oo 25 (.cvi .u8 (tt 24)), oo 26 (.bs 1 [tt 25]), oo 27 (.ap 1 1 [.int .u8 0] (tt 22) (tt 26)), oo 3 (.mv (tt 27))]
abbrev k8c : List GOp := [oo 14 (.mv (tt 4)), oo 15 (.bin .quo (tt 14) (ci 10)), oo 4 (.mv (tt 15))]
abbrev k8d : GCode := .seq (.seq (.reg k87) (.cond (tt 13) (.skip) (.exit 0))) (.seq (.blk 1 (.seq (.reg k88) (.seq (.seq (.reg k89) (.cond (tt 19) (.reg k8a) (.skip))) (.reg k8b)))) (.reg k8c))
abbrev k8e : List GOp := [oo 28 (.mv (tt 0)), oo 29 (.bin .lss (tt 28) (ci 0))]
abbrev k8f : List GOp := [oo 30 (.mv (tt 3)), oo 31 (.bs 1 [(.const (.int .u8 45))]), oo 32 (.ap 1 1 [.int .u8 0] (tt 30) (tt 31)), oo 3 (.mv (tt 32))]
abbrev k8g : List GOp := [oo 33 (.bs 1 []), oo 6 (.mv (tt 33))]
abbrev k8h : List GOp := [oo 34 (.mv (tt 3)), oo 35 (.len (tt 34)), oo 36 (.bin .sub (tt 35) (ci 1)), oo 7 (.mv (tt 36))]
abbrev k8i : List GOp := [oo 37 (.mv (tt 7)), oo 38 (.bin .geq (tt 37) (ci 0))]
abbrev k8j : List GOp := [oo 41 (.mv (tt 6)), oo 42 (.mv (tt 3)), oo 43 (.mv (tt 7)), oo 44 (.ia 1 (tt 42) (tt 43)), oo 45 (.ld (tt 44)), oo 46 (.bs 1 [tt 45]), oo 47 (.ap 1 1 [.int .u8 0] (tt 41) (tt 46)), oo 6 (.mv (tt 47))]
abbrev k8k : List GOp := [oo 39 (.mv (tt 7)), oo 40 (.bin .sub (tt 39) (ci 1)), oo 7 (.mv (tt 40))]
abbrev k8l : GCode := .seq (.seq (.reg k8i) (.cond (tt 38) (.skip) (.exit 2))) (.seq (.blk 3 (.reg k8j)) (.reg k8k))
abbrev k8m : List GOp := [oo 48 (.mv (tt 6)), oo 49 (.b2s (tt 48)), oo 2 (.mv (tt 49))]
abbrev k8n : GCode := .seq (.reg k82) (.seq (.seq (.reg k83) (.cond (tt 9) (.seq (.reg k84) (.ret)) (.skip))) (.seq (.reg k85) (.seq (.seq (.reg k86) (.blk 0 (.loop k8d))) (.seq (.seq (.reg k8e) (.cond (tt 29) (.reg k8f) (.skip))) (.seq (.reg k8g) (.seq (.seq (.reg k8h) (.blk 2 (.loop k8l))) (.seq (.reg k8m) (.ret))))))))
theorem k8o : decFn Tryd.prog Tryd.f81 = some (50, [.t 2], k8n) := by kernel_rfl
theorem k8p {args : List Value} {G : GH} {K : Value → GH → Prop} (hn : args.length ≤ 50) (h : gW Tryd.prog k8n (RetK [.t 2] K) (T0 args) G) : GC Tryd.prog 81 args G K := GC_intro mixed Tryd.func81 k8o hn h
abbrev k8q : List GOp := [oo 2 (.mv (.const (.string ByteArray.empty)))]
abbrev k8r : List GOp := [oo 5 (.mv (tt 0)), oo 6 (.len (tt 5)), oo 7 (.bin .eql (tt 6) (ci 0))]
abbrev k8s : List GOp := [oo 2 (.mv (.const (.string ⟨#[45]⟩)))]
abbrev k8t : List GOp := [oo 3 (.mv (.const (.string ByteArray.empty)))]
abbrev k8u : List GOp := [oo 4 (.mv (ci 0))]
abbrev k8v : List GOp := [oo 8 (.mv (tt 4)), oo 9 (.mv (tt 0)), oo 10 (.len (tt 9)), oo 11 (.bin .lss (tt 8) (tt 10))]
abbrev k8w : List GOp := [oo 14 (.mv (tt 4)), oo 15 (.bin .gtr (tt 14) (ci 0))]
abbrev k8x : List GOp := [oo 16 (.mv (tt 3)), oo 17 (.bin .add (tt 16) (.const (.string ⟨#[44]⟩))), oo 3 (.mv (tt 17))]
abbrev k8y : List GOp := [oo 18 (.mv (tt 3)), oo 19 (.mv (tt 0)), oo 20 (.mv (tt 4)), oo 21 (.ia 1 (tt 19) (tt 20)), oo 22 (.ld (tt 21)), oo 23 (.call (ff 81) [tt 22]), oo 24 (.bin .add (tt 18) (tt 23)), oo 3 (.mv (tt 24))]
abbrev k8z : List GOp := [oo 12 (.mv (tt 4)), oo 13 (.bin .add (tt 12) (ci 1)), oo 4 (.mv (tt 13))]
abbrev k90 : GCode := .seq (.seq (.reg k8v) (.cond (tt 11) (.skip) (.exit 0))) (.seq (.blk 1 (.seq (.seq (.reg k8w) (.cond (tt 15) (.reg k8x) (.skip))) (.reg k8y))) (.reg k8z))
abbrev k91 : List GOp := [oo 25 (.mv (tt 3)), oo 2 (.mv (tt 25))]
abbrev k92 : GCode := .seq (.reg k8q) (.seq (.seq (.reg k8r) (.cond (tt 7) (.seq (.reg k8s) (.ret)) (.skip))) (.seq (.reg k8t) (.seq (.seq (.reg k8u) (.blk 0 (.loop k90))) (.seq (.reg k91) (.ret)))))
theorem k93 : decFn Tryd.prog Tryd.f88 = some (26, [.t 2], k92) := by kernel_rfl
theorem k94 {args : List Value} {G : GH} {K : Value → GH → Prop} (hn : args.length ≤ 26) (h : gW Tryd.prog k92 (RetK [.t 2] K) (T0 args) G) : GC Tryd.prog 88 args G K := GC_intro mixed Tryd.func88 k93 hn h
abbrev k95 : List GOp := [oo 4 (.mv (cb  false))]
abbrev k96 : List GOp := [oo 5 (.mv (ci 0))]
abbrev k97 : List GOp := [oo 6 (.mv (tt 5)), oo 7 (.mv (tt 0)), oo 8 (.len (tt 7)), oo 9 (.bin .lss (tt 6) (tt 8)), oo 10 (.mv (tt 9)), og 11 10 true (.mv (tt 5)), og 12 10 true (.mv (tt 1)), og 13 10 true (.len (tt 12)), og 14 10 true (.bin .lss (tt 11) (tt 13)), oo 15 (.pick (tt 10) (tt 14) (cb  false))]
abbrev k98 : List DOp := [dl 0 (oo 18 (.mv (tt 0))), dl 1 (oo 19 (.mv (tt 5))), dl 2 (oo 20 (.ia 1 (tt 18) (tt 19))), dl 3 (oo 21 (.ld (tt 20))), dl 4 (oo 22 (.mv (tt 1))), dl 5 (oo 23 (.mv (tt 5))), dl 6 (oo 24 (.ia 1 (tt 22) (tt 23))), dl 7 (oo 25 (.ld (tt 24))), dl 8 (oo 26 (.bin .neq (tt 21) (tt 25)))]
abbrev k99 : List DOp := [dl 0 (oo 27 (.mv (tt 0))), dl 1 (oo 28 (.mv (tt 5))), dl 2 (oo 29 (.ia 1 (tt 27) (tt 28))), dl 3 (oo 30 (.ld (tt 29))), dl 4 (oo 31 (.mv (tt 1))), dl 5 (oo 32 (.mv (tt 5))), dl 6 (oo 33 (.ia 1 (tt 31) (tt 32))), dl 7 (oo 34 (.ld (tt 33))), dl 8 (oo 35 (.bin .lss (tt 30) (tt 34))), dl 9 (oo 4 (.mv (tt 35)))]
abbrev k9a : List GOp := [oo 16 (.mv (tt 5)), oo 17 (.bin .add (tt 16) (ci 1)), oo 5 (.mv (tt 17))]
abbrev k9b : GCode := .seq (.seq (.reg k97) (.cond (tt 15) (.skip) (.exit 0))) (.seq (.blk 1 (.seq (.dreg k98) (.cond (tt 26) (.seq (.dreg k99) (.ret)) (.skip)))) (.reg k9a))
abbrev k9c : List GOp := [oo 36 (.mv (tt 0)), oo 37 (.len (tt 36)), oo 38 (.mv (tt 1)), oo 39 (.len (tt 38)), oo 40 (.bin .lss (tt 37) (tt 39)), oo 4 (.mv (tt 40))]
abbrev k9d : GCode := .seq (.reg k95) (.seq (.seq (.reg k96) (.blk 0 (.loop k9b))) (.seq (.reg k9c) (.ret)))
theorem k9e : decFn Tryd.prog Tryd.f99 = some (41, [.t 4], k9d) := by kernel_rfl
theorem k9f {args : List Value} {G : GH} {K : Value → GH → Prop} (hn : args.length ≤ 41) (h : gW Tryd.prog k9d (RetK [.t 4] K) (T0 args) G) : GC Tryd.prog 99 args G K := GC_intro mixed Tryd.func99 k9e hn h
abbrev k9g : List GOp := [oo 2 (.mv (cb  false))]
abbrev k9h : List GOp := [oo 5 (.mv (tt 0)), oo 6 (.nc (tt 5)), oo 7 (.fa 0 (tt 6)), oo 8 (.ld (tt 7)), oo 9 (.call (ff 98) [tt 8, (ci 0), (ci 7)]), oo 10 (.un .not (tt 9)), oo 11 (.mv (tt 10)), og 12 11 false (.mv (tt 0)), og 13 11 false (.nc (tt 12)), og 14 11 false (.fa 1 (tt 13)), og 15 11 false (.ld (tt 14)), og 16 11 false (.len (tt 15)), og 17 11 false (.bin .gtr (tt 16) (ci 24)), oo 18 (.pick (tt 11) (cb  true) (tt 17))]
abbrev k9i : List GOp := [oo 2 (.mv (cb  false))]
abbrev k9j : List GOp := [oo 3 (.mv (ci 0))]
abbrev k9k : List GOp := [oo 19 (.mv (tt 3)), oo 20 (.mv (tt 0)), oo 21 (.nc (tt 20)), oo 22 (.fa 1 (tt 21)), oo 23 (.ld (tt 22)), oo 24 (.len (tt 23)), oo 25 (.bin .lss (tt 19) (tt 24))]
abbrev k9l : List DOp := [dl 0 (oo 28 (.mv (tt 0))), dl 1 (oo 29 (.nc (tt 28))), dl 2 (oo 30 (.fa 1 (tt 29))), dl 3 (oo 31 (.ld (tt 30))), dl 4 (oo 32 (.mv (tt 3))), dl 5 (oo 33 (.ia 1 (tt 31) (tt 32))), dl 6 (oo 34 (.ld (tt 33))), dl 7 (oo 35 (.len (tt 34))), dl 8 (oo 36 (.mv (tt 0))), dl 9 (oo 37 (.nc (tt 36))), dl 10 (oo 38 (.fa 0 (tt 37))), dl 11 (oo 39 (.ld (tt 38))), dl 12 (oo 40 (.len (tt 39))), dl 13 (oo 41 (.bin .neq (tt 35) (tt 40))), dl 14 (oo 42 (.mv (tt 41))), dl 15 (og 43 42 false (.mv (tt 3))), dl 16 (og 44 42 false (.bin .gtr (tt 43) (ci 0))), dl 17 (og 45 42 false (.mv (tt 44))), dl 18 (og 46 45 true (.mv (tt 0))), dl 19 (og 47 45 true (.nc (tt 46))), dl 20 (og 48 45 true (.fa 1 (tt 47))), dl 21 (og 49 45 true (.ld (tt 48))), dl 22 (og 50 45 true (.mv (tt 3))), dl 23 (og 51 45 true (.bin .sub (tt 50) (ci 1))), dl 24 (og 52 45 true (.ia 1 (tt 49) (tt 51))), dl 25 (og 53 45 true (.ld (tt 52))), dl 26 (og 54 45 true (.mv (tt 0))), dl 27 (og 55 45 true (.nc (tt 54))), dl 28 (og 56 45 true (.fa 1 (tt 55))), dl 29 (og 57 45 true (.ld (tt 56))), dl 30 (og 58 45 true (.mv (tt 3))), dl 31 (og 59 45 true (.ia 1 (tt 57) (tt 58))), dl 32 (og 60 45 true (.ld (tt 59))), dh 33 [29, 21, 11, 6, 3] (og 61 45 true (.call (ff 99) [tt 53, tt 60])), dl 34 (og 62 45 true (.un .not (tt 61))), dl 35 (og 63 42 false (.pick (tt 45) (tt 62) (cb  false))), dl 36 (oo 64 (.pick (tt 42) (cb  true) (tt 63)))]
abbrev k9m : List GOp := [oo 2 (.mv (cb  false))]
abbrev k9n : List GOp := [oo 4 (.mv (ci 0))]
abbrev k9o : List GOp := [oo 65 (.mv (tt 4)), oo 66 (.mv (tt 0)), oo 67 (.nc (tt 66)), oo 68 (.fa 1 (tt 67)), oo 69 (.ld (tt 68)), oo 70 (.mv (tt 3)), oo 71 (.ia 1 (tt 69) (tt 70)), oo 72 (.ld (tt 71)), oo 73 (.len (tt 72)), oo 74 (.bin .lss (tt 65) (tt 73))]
abbrev k9p : List GOp := [oo 77 (.mv (tt 0)), oo 78 (.nc (tt 77)), oo 79 (.fa 1 (tt 78)), oo 80 (.ld (tt 79)), oo 81 (.mv (tt 3)), oo 82 (.ia 1 (tt 80) (tt 81)), oo 83 (.ld (tt 82)), oo 84 (.mv (tt 4)), oo 85 (.ia 1 (tt 83) (tt 84)), oo 86 (.ld (tt 85)), oo 87 (.call (ff 80) [tt 86, (ci 0), (ci 3)]), oo 88 (.un .not (tt 87))]
abbrev k9q : List GOp := [oo 2 (.mv (cb  false))]
abbrev k9r : List GOp := [oo 75 (.mv (tt 4)), oo 76 (.bin .add (tt 75) (ci 1)), oo 4 (.mv (tt 76))]
abbrev k9s : GCode := .seq (.seq (.reg k9o) (.cond (tt 74) (.skip) (.exit 2))) (.seq (.blk 3 (.seq (.reg k9p) (.cond (tt 88) (.seq (.reg k9q) (.ret)) (.skip)))) (.reg k9r))
abbrev k9t : List GOp := [oo 26 (.mv (tt 3)), oo 27 (.bin .add (tt 26) (ci 1)), oo 3 (.mv (tt 27))]
abbrev k9u : GCode := .seq (.seq (.reg k9k) (.cond (tt 25) (.skip) (.exit 0))) (.seq (.blk 1 (.seq (.seq (.dreg k9l) (.cond (tt 64) (.seq (.reg k9m) (.ret)) (.skip))) (.seq (.reg k9n) (.blk 2 (.loop k9s))))) (.reg k9t))
abbrev k9v : List GOp := [oo 2 (.mv (cb  true))]
abbrev k9w : GCode := .seq (.reg k9g) (.seq (.seq (.reg k9h) (.cond (tt 18) (.seq (.reg k9i) (.ret)) (.skip))) (.seq (.seq (.reg k9j) (.blk 0 (.loop k9u))) (.seq (.reg k9v) (.ret))))
theorem k9x : decFn Tryd.prog Tryd.f55 = some (89, [.t 2], k9w) := by kernel_rfl
theorem k9y {args : List Value} {G : GH} {K : Value → GH → Prop} (hn : args.length ≤ 89) (h : gW Tryd.prog k9w (RetK [.t 2] K) (T0 args) G) : GC Tryd.prog 55 args G K := GC_intro mixed Tryd.func55 k9x hn h
abbrev k9z : List GOp := [oo 2 (.mv (.const (.string ByteArray.empty)))]
abbrev ka0 : List GOp := [oo 5 (.mv (tt 0)), oo 6 (.nc (tt 5)), oo 7 (.fa 0 (tt 6)), oo 8 (.ld (tt 7)), oo 9 (.call (ff 88) [tt 8]), oo 3 (.mv (tt 9))]
abbrev ka1 : List GOp := [oo 4 (.mv (ci 0))]
abbrev ka2 : List GOp := [oo 10 (.mv (tt 4)), oo 11 (.mv (tt 0)), oo 12 (.nc (tt 11)), oo 13 (.fa 1 (tt 12)), oo 14 (.ld (tt 13)), oo 15 (.len (tt 14)), oo 16 (.bin .lss (tt 10) (tt 15))]
abbrev ka3 : List GOp := [oo 19 (.mv (tt 3)), oo 20 (.mv (tt 0)), oo 21 (.nc (tt 20)), oo 22 (.fa 1 (tt 21)), oo 23 (.ld (tt 22)), oo 24 (.mv (tt 4)), oo 25 (.ia 1 (tt 23) (tt 24)), oo 26 (.ld (tt 25)), oo 27 (.call (ff 88) [tt 26]), oo 28 (.bin .add (.const (.string ⟨#[47]⟩)) (tt 27)), oo 29 (.bin .add (tt 19) (tt 28)), oo 3 (.mv (tt 29))]
abbrev ka4 : List GOp := [oo 17 (.mv (tt 4)), oo 18 (.bin .add (tt 17) (ci 1)), oo 4 (.mv (tt 18))]
abbrev ka5 : GCode := .seq (.seq (.reg ka2) (.cond (tt 16) (.skip) (.exit 0))) (.seq (.blk 1 (.reg ka3)) (.reg ka4))
abbrev ka6 : List GOp := [oo 30 (.mv (tt 3)), oo 2 (.mv (tt 30))]
abbrev ka7 : GCode := .seq (.reg k9z) (.seq (.reg ka0) (.seq (.seq (.reg ka1) (.blk 0 (.loop ka5))) (.seq (.reg ka6) (.ret))))
theorem ka8 : decFn Tryd.prog Tryd.f56 = some (31, [.t 2], ka7) := by kernel_rfl
theorem ka9 {args : List Value} {G : GH} {K : Value → GH → Prop} (hn : args.length ≤ 31) (h : gW Tryd.prog ka7 (RetK [.t 2] K) (T0 args) G) : GC Tryd.prog 56 args G K := GC_intro mixed Tryd.func56 ka8 hn h

end Go.Proofs.YtnaoeggecibkmaaDoor.Gh
