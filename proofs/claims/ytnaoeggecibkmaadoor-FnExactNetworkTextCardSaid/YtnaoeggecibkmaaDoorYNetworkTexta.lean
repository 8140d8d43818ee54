/- Code trees that the law NetworkText reaches: each is what the decoding gives (checked by the kernel). -/
import Derived.Test.YtnaoeggecibkmaaDoorC0
import Derived.Test.YtnaoeggecibkmaaDoorFm
import Derived.Test.YtnaoeggecibkmaaDoorFn
import Derived.Test.YtnaoeggecibkmaaDoorFz
namespace Go.Proofs.YtnaoeggecibkmaaDoor.Gh
open Go Go.RowKit Go.Proofs
open Nat (reduceEqDiff reduceMul reduceAdd)
open Int (reduceToNat)
set_option linter.unusedVariables false
set_option linter.unusedSimpArgs false
set_option maxHeartbeats 4000000

abbrev k0_ : List GOp := [oo 4 (.mv (ci 0))]
abbrev k1_ : List GOp := [oo 7 (.mv (tt 0)), oo 8 (.call (ff 110) [tt 7]), oo 5 (.mv (tt 8))]
abbrev k2_ : List GOp := [oo 9 (.mv (tt 1)), oo 10 (.call (ff 110) [tt 9]), oo 6 (.mv (tt 10))]
abbrev k3_ : List GOp := [oo 11 (.mv (tt 5))]
abbrev k4 : List GOp := [oo 12 (.mv (tt 6))]
abbrev k5 : List GOp := [oo 4 (.mv (ci 0))]
abbrev k6 : List GOp := [oo 4 (.mv (ci (-1)))]
abbrev k7 : List GOp := [oo 13 (.mv (tt 6))]
abbrev k8 : List GOp := [oo 4 (.mv (ci 1))]
abbrev k9 : List GOp := [oo 14 (.mv (tt 0)), oo 15 (.mv (tt 1)), oo 16 (.bin .lss (tt 14) (tt 15))]
abbrev ka : List GOp := [oo 4 (.mv (ci (-1)))]
abbrev kb : List GOp := [oo 17 (.mv (tt 0)), oo 18 (.mv (tt 1)), oo 19 (.bin .gtr (tt 17) (tt 18))]
abbrev kc : List GOp := [oo 4 (.mv (ci 1))]
abbrev kd : List GOp := [oo 4 (.mv (ci 0))]
abbrev ke : GCode := .seq (.reg k0_) (.seq (.reg k1_) (.seq (.reg k2_) (.seq (.seq (.reg k3_) (.cond (tt 11) (.seq (.seq (.reg k4) (.cond (tt 12) (.seq (.reg k5) (.ret)) (.skip))) (.seq (.reg k6) (.ret))) (.skip))) (.seq (.seq (.reg k7) (.cond (tt 13) (.seq (.reg k8) (.ret)) (.skip))) (.seq (.seq (.reg k9) (.cond (tt 16) (.seq (.reg ka) (.ret)) (.skip))) (.seq (.seq (.reg kb) (.cond (tt 19) (.seq (.reg kc) (.ret)) (.skip))) (.seq (.reg kd) (.ret))))))))
theorem kf : decFn Tryd.prog Tryd.f92 = some (20, [.t 4], ke) := by kernel_rfl
theorem kg {args : List Value} {G : GH} {K : Value → GH → Prop} (hn : args.length ≤ 20) (h : gW Tryd.prog ke (RetK [.t 4] K) (T0 args) G) : GC Tryd.prog 92 args G K := GC_intro mixed Tryd.func92 kf hn h
abbrev kh : List GOp := [oo 2 (.mv (ci 0))]
abbrev ki : List GOp := [oo 3 (.mv (ci 0))]
abbrev kj : List GOp := [oo 6 (.mv (tt 0)), oo 7 (.len (tt 6)), oo 8 (.mv (ci 0))]
abbrev kk : List GOp := [oo 9 (.bin .lss (tt 8) (tt 7))]
abbrev kl : List GOp := [oo 10 (.ia 1 (tt 6) (tt 8)), oo 11 (.ld (tt 10)), oo 5 (.mv (tt 11))]
abbrev km : List GOp := [oo 12 (.mv (tt 5)), oo 13 (.mv (tt 3)), oo 14 (.bin .neq (tt 12) (tt 13))]
abbrev kn : List GOp := [oo 15 (.mv (tt 5)), oo 2 (.mv (tt 15))]
abbrev ko : List GOp := [oo 16 (.bin .add (tt 8) (ci 1)), oo 8 (.mv (tt 16))]
abbrev kp : GCode := .seq (.reg kk) (.seq (.cond (tt 9) (.skip) (.exit 0)) (.seq (.blk 1 (.seq (.reg kl) (.seq (.reg km) (.cond (tt 14) (.seq (.reg kn) (.ret)) (.skip))))) (.reg ko)))
abbrev kq : List GOp := [oo 17 (.mv (tt 3)), oo 2 (.mv (tt 17))]
abbrev kr : GCode := .seq (.reg kh) (.seq (.reg ki) (.seq (.seq (.reg kj) (.blk 0 (.loop kp))) (.seq (.reg kq) (.ret))))
theorem ks_ : decFn Tryd.prog Tryd.f91 = some (18, [.t 2], kr) := by kernel_rfl
theorem kt {args : List Value} {G : GH} {K : Value → GH → Prop} (hn : args.length ≤ 18) (h : gW Tryd.prog kr (RetK [.t 2] K) (T0 args) G) : GC Tryd.prog 91 args G K := GC_intro mixed Tryd.func91 ks_ hn h
abbrev ku_ : List GOp := [oo 2 (.mv (cb  false))]
abbrev kv_ : List GOp := [oo 3 (.mv (tt 0)), oo 4 (.mv (tt 0)), oo 5 (.bin .neq (tt 3) (tt 4)), oo 2 (.mv (tt 5))]
abbrev kw : GCode := .seq (.reg ku_) (.seq (.reg kv_) (.ret))
theorem kx : decFn Tryd.prog Tryd.f110 = some (6, [.t 2], kw) := by kernel_rfl
theorem ky {args : List Value} {G : GH} {K : Value → GH → Prop} (hn : args.length ≤ 6) (h : gW Tryd.prog kw (RetK [.t 2] K) (T0 args) G) : GC Tryd.prog 110 args G K := GC_intro mixed Tryd.func110 kx hn h
abbrev kz : List GOp := [oo 2 (.mv (.const (.string ByteArray.empty)))]
abbrev k10 : List GOp := [oo 3 (.mv (tt 0)), oo 4 (.call (ff 86) [tt 3, (ci 10)]), oo 2 (.mv (tt 4))]
abbrev k11 : GCode := .seq (.reg kz) (.seq (.reg k10) (.ret))
theorem k12 : decFn Tryd.prog Tryd.f42 = some (5, [.t 2], k11) := by kernel_rfl
theorem k13 {args : List Value} {G : GH} {K : Value → GH → Prop} (hn : args.length ≤ 5) (h : gW Tryd.prog k11 (RetK [.t 2] K) (T0 args) G) : GC Tryd.prog 42 args G K := GC_intro mixed Tryd.func42 k12 hn h
abbrev k14 : List GOp := [oo 2 (.mv (.const (.string ByteArray.empty)))]
abbrev k15 : List GOp := [oo 6 (.mv (tt 0)), oo 7 (.len (tt 6)), oo 8 (.bin .gtr (tt 7) (ci 64)), oo 9 (.mv (tt 8)), og 10 9 false (.mv (tt 0)), og 11 9 false (.call (ff 93) [tt 10, (ff 94)]), oo 12 (.pick (tt 9) (cb  true) (tt 11))]
abbrev k16 : List GOp := [oo 2 (.mv (.const (.string ByteArray.empty)))]
abbrev k17 : List GOp := [oo 13 (.mv (tt 0)), oo 14 (.len (tt 13)), oo 15 (.bin .eql (tt 14) (ci 0))]
abbrev k18 : List GOp := [oo 2 (.mv (.const (.string ⟨#[45]⟩)))]
abbrev k19 : List GOp := [oo 3 (.mv (.const (.slice none 0 0)))]
abbrev k1a : List GOp := [oo 16 (.mv (tt 0)), oo 17 (.len (tt 16)), oo 18 (.mv (ci 0))]
abbrev k1b : List GOp := [oo 19 (.bin .lss (tt 18) (tt 17))]
abbrev k1c : List GOp := [oo 20 (.ia 1 (tt 16) (tt 18)), oo 21 (.ld (tt 20)), oo 5 (.mv (tt 21))]
abbrev k1d : List GOp := [oo 22 (.mv (tt 3)), oo 23 (.mv (tt 5)), oo 24 (.call (ff 42) [tt 23]), oo 25 (.bs 1 [tt 24]), oo 26 (.ap 1 16 [.string ByteArray.empty] (tt 22) (tt 25)), oo 3 (.mv (tt 26))]
abbrev k1e : List GOp := [oo 27 (.bin .add (tt 18) (ci 1)), oo 18 (.mv (tt 27))]
abbrev k1f : GCode := .seq (.reg k1b) (.seq (.cond (tt 19) (.skip) (.exit 0)) (.seq (.blk 1 (.seq (.reg k1c) (.reg k1d))) (.reg k1e)))
abbrev k1g : List GOp := [oo 28 (.mv (tt 3)), oo 29 (.call (ff 51) [tt 28, (.const (.string ⟨#[44]⟩))]), oo 2 (.mv (tt 29))]
abbrev k1h : GCode := .seq (.reg k14) (.seq (.seq (.reg k15) (.cond (tt 12) (.seq (.reg k16) (.ret)) (.skip))) (.seq (.seq (.reg k17) (.cond (tt 15) (.seq (.reg k18) (.ret)) (.skip))) (.seq (.reg k19) (.seq (.seq (.reg k1a) (.blk 0 (.loop k1f))) (.seq (.reg k1g) (.ret))))))
theorem k1i : decFn Tryd.prog Tryd.f50 = some (30, [.t 2], k1h) := by kernel_rfl
theorem k1j {args : List Value} {G : GH} {K : Value → GH → Prop} (hn : args.length ≤ 30) (h : gW Tryd.prog k1h (RetK [.t 2] K) (T0 args) G) : GC Tryd.prog 50 args G K := GC_intro mixed Tryd.func50 k1i hn h
abbrev k1k : List GOp := [oo 2 (.mv (cb  false))]
abbrev k1l : List GOp := [oo 3 (.mv (tt 0)), oo 4 (.call (ff 95) [tt 3]), oo 5 (.un .not (tt 4)), oo 2 (.mv (tt 5))]
abbrev k1m : GCode := .seq (.reg k1k) (.seq (.reg k1l) (.ret))
theorem k1n : decFn Tryd.prog Tryd.f94 = some (6, [.t 2], k1m) := by kernel_rfl
theorem k1o {args : List Value} {G : GH} {K : Value → GH → Prop} (hn : args.length ≤ 6) (h : gW Tryd.prog k1m (RetK [.t 2] K) (T0 args) G) : GC Tryd.prog 94 args G K := GC_intro mixed Tryd.func94 k1n hn h
abbrev k1p : List GOp := [oo 1 (.bx (tt 0)), oo 2 (.mv (.const (.string ByteArray.empty)))]
abbrev k1q : List GOp := [oo 6 (.ldn 4 (tt 1)), oo 7 (.call (ff 49) [tt 6]), oo 8 (.un .not (tt 7))]
abbrev k1r : List GOp := [oo 2 (.mv (.const (.string ByteArray.empty)))]
abbrev k1s : List GOp := [oo 9 (.fa 0 (tt 1)), oo 10 (.ld (tt 9)), oo 11 (.fa 1 (tt 1)), oo 12 (.ld (tt 11)), oo 13 (.fa 2 (tt 1)), oo 14 (.ld (tt 13)), oo 15 (.bs 1 [tt 10, tt 12, tt 14]), oo 16 (.call (ff 50) [tt 15]), oo 17 (.bs 1 [tt 16]), oo 3 (.mv (tt 17))]
abbrev k1t : List GOp := [oo 18 (.fa 3 (tt 1)), oo 19 (.ld (tt 18)), oo 20 (.len (tt 19)), oo 21 (.mv (ci 0))]
abbrev k1u : List GOp := [oo 22 (.bin .lss (tt 21) (tt 20))]
abbrev k1v : List GOp := [oo 23 (.ia 3 (tt 19) (tt 21)), oo 24 (.ldn 3 (tt 23)), oo 5 (.al [.int .i64 0, .int .i64 0, .int .i64 0]), on (.st 3 (tt 5) (tt 24))]
abbrev k1w : List GOp := [oo 25 (.mv (tt 3)), oo 26 (.fa 0 (tt 5)), oo 27 (.ld (tt 26)), oo 28 (.fa 1 (tt 5)), oo 29 (.ld (tt 28)), oo 30 (.fa 2 (tt 5)), oo 31 (.ld (tt 30)), oo 32 (.bs 1 [tt 27, tt 29, tt 31]), oo 33 (.call (ff 50) [tt 32]), oo 34 (.bs 1 [tt 33]), oo 35 (.ap 1 16 [.string ByteArray.empty] (tt 25) (tt 34)), oo 3 (.mv (tt 35))]
abbrev k1x : List GOp := [oo 36 (.bin .add (tt 21) (ci 1)), oo 21 (.mv (tt 36))]
abbrev k1y : GCode := .seq (.reg k1u) (.seq (.cond (tt 22) (.skip) (.exit 0)) (.seq (.blk 1 (.seq (.reg k1v) (.reg k1w))) (.reg k1x)))
abbrev k1z : List GOp := [oo 37 (.mv (tt 3)), oo 38 (.call (ff 51) [tt 37, (.const (.string ⟨#[32]⟩))]), oo 2 (.mv (tt 38))]
abbrev k20 : GCode := .seq (.reg k1p) (.seq (.seq (.reg k1q) (.cond (tt 8) (.seq (.reg k1r) (.ret)) (.skip))) (.seq (.reg k1s) (.seq (.seq (.reg k1t) (.blk 0 (.loop k1y))) (.seq (.reg k1z) (.ret)))))
theorem k21 : decFn Tryd.prog Tryd.f17 = some (39, [.t 2], k20) := by kernel_rfl
theorem k22 {args : List Value} {G : GH} {K : Value → GH → Prop} (hn : args.length ≤ 39) (h : gW Tryd.prog k20 (RetK [.t 2] K) (T0 args) G) : GC Tryd.prog 17 args G K := GC_intro mixed Tryd.func17 k21 hn h
abbrev k23 : List GOp := [oo 1 (.bx (tt 0)), oo 2 (.mv (cb  false))]
abbrev k24 : List GOp := [oo 5 (.fa 3 (tt 1)), oo 6 (.ld (tt 5)), oo 7 (.len (tt 6)), oo 8 (.mv (ci 0))]
abbrev k25 : List GOp := [oo 9 (.bin .lss (tt 8) (tt 7))]
abbrev k26 : List GOp := [oo 10 (.mv (tt 8)), oo 11 (.ia 3 (tt 6) (tt 8)), oo 12 (.ldn 3 (tt 11)), oo 4 (.al [.int .i64 0, .int .i64 0, .int .i64 0]), oo 3 (.mv (tt 10)), on (.st 3 (tt 4) (tt 12))]
abbrev k27 : List GOp := [oo 13 (.fa 0 (tt 4)), oo 14 (.ld (tt 13)), oo 15 (.fa 0 (tt 1)), oo 16 (.ld (tt 15)), oo 17 (.call (ff 90) [tt 14, tt 16]), oo 18 (.un .not (tt 17)), oo 19 (.mv (tt 18)), og 20 19 false (.fa 1 (tt 4)), og 21 19 false (.ld (tt 20)), og 22 19 false (.fa 0 (tt 1)), og 23 19 false (.ld (tt 22)), og 24 19 false (.call (ff 90) [tt 21, tt 23]), og 25 19 false (.un .not (tt 24)), oo 26 (.pick (tt 19) (cb  true) (tt 25)), oo 27 (.mv (tt 26)), og 28 27 false (.fa 0 (tt 4)), og 29 27 false (.ld (tt 28)), og 30 27 false (.fa 1 (tt 4)), og 31 27 false (.ld (tt 30)), og 32 27 false (.bin .eql (tt 29) (tt 31)), oo 33 (.pick (tt 27) (cb  true) (tt 32)), oo 34 (.mv (tt 33)), og 35 34 false (.fa 2 (tt 4)), og 36 34 false (.ld (tt 35)), og 37 34 false (.call (ff 83) [tt 36, (ci 0), (ci 1000000)]), og 38 34 false (.un .not (tt 37)), oo 39 (.pick (tt 34) (cb  true) (tt 38))]
abbrev k28 : List GOp := [oo 2 (.mv (cb  false))]
abbrev k29 : List DOp := [dl 0 (oo 40 (.mv (tt 3))), dl 1 (oo 41 (.bin .gtr (tt 40) (ci 0))), dl 2 (oo 42 (.mv (tt 41))), dl 3 (og 43 42 true (.fa 3 (tt 1))), dl 4 (og 44 42 true (.ld (tt 43))), dl 5 (og 45 42 true (.mv (tt 3))), dl 6 (og 46 42 true (.bin .sub (tt 45) (ci 1))), dl 7 (og 47 42 true (.ia 3 (tt 44) (tt 46))), dl 8 (og 48 42 true (.fa 0 (tt 47))), dl 9 (og 49 42 true (.ld (tt 48))), dl 10 (og 50 42 true (.fa 0 (tt 4))), dl 11 (og 51 42 true (.ld (tt 50))), dl 13 (og 53 42 true (.fa 3 (tt 1))), dl 14 (og 54 42 true (.ld (tt 53))), dl 15 (og 55 42 true (.mv (tt 3))), dl 16 (og 56 42 true (.bin .sub (tt 55) (ci 1))), dl 17 (og 57 42 true (.ia 3 (tt 54) (tt 56))), dl 18 (og 58 42 true (.fa 1 (tt 57))), dl 19 (og 59 42 true (.ld (tt 58))), dl 20 (og 60 42 true (.fa 1 (tt 4))), dl 21 (og 61 42 true (.ld (tt 60))), dh 12 [21, 19, 14, 4] (og 52 42 true (.call (ff 92) [tt 49, tt 51])), dh 22 [14, 11, 9, 4] (og 62 42 true (.call (ff 92) [tt 59, tt 61])), dh 23 [21, 19, 14, 11, 9, 4] (og 63 42 true (.bs 1 [tt 52, tt 62])), dh 24 [21, 19, 14, 11, 9, 4] (og 64 42 true (.call (ff 91) [tt 63])), dl 25 (og 65 42 true (.bin .geq (tt 64) (ci 0))), dl 26 (oo 66 (.pick (tt 42) (tt 65) (cb  false)))]
abbrev k2a : List GOp := [oo 2 (.mv (cb  false))]
abbrev k2b : List GOp := [oo 67 (.bin .add (tt 8) (ci 1)), oo 8 (.mv (tt 67))]
abbrev k2c : GCode := .seq (.reg k25) (.seq (.cond (tt 9) (.skip) (.exit 0)) (.seq (.blk 1 (.seq (.reg k26) (.seq (.seq (.reg k27) (.cond (tt 39) (.seq (.reg k28) (.ret)) (.skip))) (.seq (.dreg k29) (.cond (tt 66) (.seq (.reg k2a) (.ret)) (.skip)))))) (.reg k2b)))
abbrev k2d : List GOp := [oo 68 (.fa 0 (tt 1)), oo 69 (.ld (tt 68)), oo 70 (.call (ff 83) [tt 69, (ci 2), (ci 12)]), oo 71 (.mv (tt 70)), og 72 71 true (.fa 1 (tt 1)), og 73 71 true (.ld (tt 72)), og 74 71 true (.fa 0 (tt 1)), og 75 71 true (.ld (tt 74)), og 76 71 true (.call (ff 90) [tt 73, tt 75]), oo 77 (.pick (tt 71) (tt 76) (cb  false)), oo 78 (.mv (tt 77)), og 79 78 true (.fa 2 (tt 1)), og 80 78 true (.ld (tt 79)), og 81 78 true (.fa 0 (tt 1)), og 82 78 true (.ld (tt 81)), og 83 78 true (.call (ff 90) [tt 80, tt 82]), oo 84 (.pick (tt 78) (tt 83) (cb  false)), oo 85 (.mv (tt 84)), og 86 85 true (.fa 1 (tt 1)), og 87 85 true (.ld (tt 86)), og 88 85 true (.fa 2 (tt 1)), og 89 85 true (.ld (tt 88)), og 90 85 true (.bin .neq (tt 87) (tt 89)), oo 91 (.pick (tt 85) (tt 90) (cb  false)), oo 92 (.mv (tt 91)), og 93 92 true (.fa 3 (tt 1)), og 94 92 true (.ld (tt 93)), og 95 92 true (.len (tt 94)), og 96 92 true (.bin .leq (tt 95) (ci 24)), oo 97 (.pick (tt 92) (tt 96) (cb  false)), oo 2 (.mv (tt 97))]
abbrev k2e : GCode := .seq (.reg k23) (.seq (.seq (.reg k24) (.blk 0 (.loop k2c))) (.seq (.reg k2d) (.ret)))
theorem k2f : decFn Tryd.prog Tryd.f49 = some (98, [.t 2], k2e) := by kernel_rfl
theorem k2g {args : List Value} {G : GH} {K : Value → GH → Prop} (hn : args.length ≤ 98) (h : gW Tryd.prog k2e (RetK [.t 2] K) (T0 args) G) : GC Tryd.prog 49 args G K := GC_intro mixed Tryd.func49 k2f hn h
abbrev k2h : List GOp := [oo 4 (.mv (cb  false))]
abbrev k2i : List GOp := [oo 5 (.mv (tt 0)), oo 6 (.mv (tt 1)), oo 7 (.bin .sub (tt 6) (ci 1)), oo 8 (.call (ff 83) [tt 5, (ci 0), tt 7]), oo 4 (.mv (tt 8))]
abbrev k2j : GCode := .seq (.reg k2h) (.seq (.reg k2i) (.ret))
theorem k2k : decFn Tryd.prog Tryd.f90 = some (9, [.t 4], k2j) := by kernel_rfl
theorem k2l {args : List Value} {G : GH} {K : Value → GH → Prop} (hn : args.length ≤ 9) (h : gW Tryd.prog k2j (RetK [.t 4] K) (T0 args) G) : GC Tryd.prog 90 args G K := GC_intro mixed Tryd.func90 k2k hn h
abbrev k2m : List GOp := [oo 2 (.mv (cb  false))]
abbrev k2n : List GOp := [oo 3 (.mv (tt 0)), oo 4 (.call (ff 83) [tt 3, (ci (-1000000000000)), (ci 1000000000000)]), oo 2 (.mv (tt 4))]
abbrev k2o : GCode := .seq (.reg k2m) (.seq (.reg k2n) (.ret))
theorem k2p : decFn Tryd.prog Tryd.f95 = some (5, [.t 2], k2o) := by kernel_rfl
theorem k2q {args : List Value} {G : GH} {K : Value → GH → Prop} (hn : args.length ≤ 5) (h : gW Tryd.prog k2o (RetK [.t 2] K) (T0 args) G) : GC Tryd.prog 95 args G K := GC_intro mixed Tryd.func95 k2p hn h
abbrev k2r : List GOp := [oo 6 (.mv (cb  false))]
abbrev k2s : List GOp := [oo 7 (.mv (tt 0)), oo 8 (.mv (tt 1)), oo 9 (.bin .geq (tt 7) (tt 8)), oo 10 (.mv (tt 9)), og 11 10 true (.mv (tt 0)), og 12 10 true (.mv (tt 2)), og 13 10 true (.bin .leq (tt 11) (tt 12)), oo 14 (.pick (tt 10) (tt 13) (cb  false)), oo 6 (.mv (tt 14))]
abbrev k2t : GCode := .seq (.reg k2r) (.seq (.reg k2s) (.ret))
theorem k2u : decFn Tryd.prog Tryd.f83 = some (15, [.t 6], k2t) := by kernel_rfl
theorem k2v {args : List Value} {G : GH} {K : Value → GH → Prop} (hn : args.length ≤ 15) (h : gW Tryd.prog k2t (RetK [.t 6] K) (T0 args) G) : GC Tryd.prog 83 args G K := GC_intro mixed Tryd.func83 k2u hn h
abbrev k2w : List GOp := [oo 1 (.bx (tt 0)), oo 2 (.mv (cb  false))]
abbrev k2x : List GOp := [oo 3 (.mv (ci 1048576))]
abbrev k2y : List GOp := [oo 7 (.ldn 4 (tt 1)), oo 8 (.mv (tt 3)), oo 9 (.call (ff 14) [tt 7, tt 8]), oo 3 (.mv (tt 9))]
abbrev k2z : List GOp := [oo 10 (.mv (tt 3)), oo 11 (.bin .lss (tt 10) (ci 0))]
abbrev k30 : List GOp := [oo 2 (.mv (cb  true))]
abbrev k31 : List GOp := [oo 12 (.ldn 4 (tt 1)), oo 13 (.call (ff 16) [tt 12]), oo 14 (.call (ff 15) [tt 13]), oo 4 (.mv (tt 14))]
abbrev k32 : List GOp := [oo 15 (.ldn 4 (tt 1)), oo 16 (.call (ff 16) [tt 15]), oo 5 (.al [.int .i64 0, .int .i64 0, .int .i64 0, .slice none 0 0]), on (.st 4 (tt 5) (tt 16))]
abbrev k33 : List GOp := [oo 17 (.ldn 4 (tt 5)), oo 18 (.call (ff 17) [tt 17]), oo 6 (.mv (tt 18))]
abbrev k34 : List GOp := [oo 19 (.mv (tt 6)), oo 20 (.mv (tt 4)), oo 21 (.bin .neq (tt 19) (tt 20))]
abbrev k35 : List GOp := [oo 2 (.mv (cb  false))]
abbrev k36 : List DOp := [dl 0 (oo 22 (.ldn 4 (tt 5))), dl 1 (oo 23 (.ldn 4 (tt 1))), dh 2 [0] (oo 24 (.call (ff 16) [tt 23])), dh 3 [1] (oo 25 (.call (ff 18) [tt 22, tt 24])), dl 4 (oo 26 (.un .not (tt 25)))]
abbrev k37 : List GOp := [oo 2 (.mv (cb  false))]
abbrev k38 : List GOp := [oo 2 (.mv (cb  true))]
abbrev k39 : GCode := .seq (.reg k2w) (.seq (.reg k2x) (.seq (.reg k2y) (.seq (.seq (.reg k2z) (.cond (tt 11) (.seq (.reg k30) (.ret)) (.skip))) (.seq (.reg k31) (.seq (.reg k32) (.seq (.reg k33) (.seq (.seq (.reg k34) (.cond (tt 21) (.seq (.reg k35) (.ret)) (.skip))) (.seq (.seq (.dreg k36) (.cond (tt 26) (.seq (.reg k37) (.ret)) (.skip))) (.seq (.reg k38) (.ret))))))))))
theorem k3a : decFn Tryd.prog Tryd.f4 = some (27, [.t 2], k39) := by kernel_rfl
theorem k3b {args : List Value} {G : GH} {K : Value → GH → Prop} (hn : args.length ≤ 27) (h : gW Tryd.prog k39 (RetK [.t 2] K) (T0 args) G) : GC Tryd.prog 4 args G K := GC_intro mixed Tryd.func4 k3a hn h
abbrev k3c : List GOp := [oo 2 (.bx (tt 0)), oo 3 (.bx (tt 1)), oo 4 (.mv (cb  false))]
abbrev k3d : List GOp := [oo 5 (.fa 0 (tt 2)), oo 6 (.ld (tt 5)), oo 7 (.fa 0 (tt 3)), oo 8 (.ld (tt 7)), oo 9 (.bin .neq (tt 6) (tt 8))]
abbrev k3e : List GOp := [oo 4 (.mv (cb  false))]
abbrev k3f : List GOp := [oo 10 (.fa 1 (tt 2)), oo 11 (.ld (tt 10)), oo 12 (.fa 1 (tt 3)), oo 13 (.ld (tt 12)), oo 14 (.bin .neq (tt 11) (tt 13))]
abbrev k3g : List GOp := [oo 4 (.mv (cb  false))]
abbrev k3h : List GOp := [oo 15 (.fa 2 (tt 2)), oo 16 (.ld (tt 15)), oo 17 (.fa 2 (tt 3)), oo 18 (.ld (tt 17)), oo 19 (.bin .neq (tt 16) (tt 18))]
abbrev k3i : List GOp := [oo 4 (.mv (cb  false))]
abbrev k3j : List GOp := [oo 4 (.mv (cb  true))]
abbrev k3k : GCode := .seq (.reg k3c) (.seq (.seq (.reg k3d) (.cond (tt 9) (.seq (.reg k3e) (.ret)) (.skip))) (.seq (.seq (.reg k3f) (.cond (tt 14) (.seq (.reg k3g) (.ret)) (.skip))) (.seq (.seq (.reg k3h) (.cond (tt 19) (.seq (.reg k3i) (.ret)) (.skip))) (.seq (.reg k3j) (.ret)))))
theorem k3l : decFn Tryd.prog Tryd.f97 = some (20, [.t 4], k3k) := by kernel_rfl
theorem k3m {args : List Value} {G : GH} {K : Value → GH → Prop} (hn : args.length ≤ 20) (h : gW Tryd.prog k3k (RetK [.t 4] K) (T0 args) G) : GC Tryd.prog 97 args G K := GC_intro mixed Tryd.func97 k3l hn h
abbrev k3n : List GOp := [oo 4 (.mv (cb  false))]
abbrev k3o : List GOp := [oo 6 (.mv (tt 0)), oo 7 (.len (tt 6)), oo 8 (.mv (tt 1)), oo 9 (.len (tt 8)), oo 10 (.bin .neq (tt 7) (tt 9))]
abbrev k3p : List GOp := [oo 4 (.mv (cb  false))]
abbrev k3q : List GOp := [oo 5 (.mv (ci 0))]
abbrev k3r : List GOp := [oo 11 (.mv (tt 5)), oo 12 (.mv (tt 0)), oo 13 (.len (tt 12)), oo 14 (.bin .lss (tt 11) (tt 13))]
abbrev k3s : List DOp := [dl 0 (oo 17 (.mv (tt 0))), dl 1 (oo 18 (.mv (tt 5))), dl 2 (oo 19 (.ia 3 (tt 17) (tt 18))), dl 3 (oo 20 (.ldn 3 (tt 19))), dl 4 (oo 21 (.mv (tt 1))), dl 5 (oo 22 (.mv (tt 5))), dl 6 (oo 23 (.ia 3 (tt 21) (tt 22))), dl 7 (oo 24 (.ldn 3 (tt 23))), dh 8 [] (oo 25 (.call (ff 97) [tt 20, tt 24])), dl 9 (oo 26 (.un .not (tt 25)))]
abbrev k3t : List GOp := [oo 4 (.mv (cb  false))]
abbrev k3u : List GOp := [oo 15 (.mv (tt 5)), oo 16 (.bin .add (tt 15) (ci 1)), oo 5 (.mv (tt 16))]
abbrev k3v : GCode := .seq (.seq (.reg k3r) (.cond (tt 14) (.skip) (.exit 0))) (.seq (.blk 1 (.seq (.dreg k3s) (.cond (tt 26) (.seq (.reg k3t) (.ret)) (.skip)))) (.reg k3u))
abbrev k3w : List GOp := [oo 4 (.mv (cb  true))]
abbrev k3x : GCode := .seq (.reg k3n) (.seq (.seq (.reg k3o) (.cond (tt 10) (.seq (.reg k3p) (.ret)) (.skip))) (.seq (.seq (.reg k3q) (.blk 0 (.loop k3v))) (.seq (.reg k3w) (.ret))))
theorem k3y : decFn Tryd.prog Tryd.f52 = some (27, [.t 4], k3x) := by kernel_rfl
theorem k3z {args : List Value} {G : GH} {K : Value → GH → Prop} (hn : args.length ≤ 27) (h : gW Tryd.prog k3x (RetK [.t 4] K) (T0 args) G) : GC Tryd.prog 52 args G K := GC_intro mixed Tryd.func52 k3y hn h
abbrev k40 : List GOp := [oo 2 (.bx (tt 0)), oo 3 (.bx (tt 1)), oo 4 (.mv (cb  false))]
abbrev k41 : List GOp := [oo 5 (.fa 0 (tt 2)), oo 6 (.ld (tt 5)), oo 7 (.fa 0 (tt 3)), oo 8 (.ld (tt 7)), oo 9 (.bin .neq (tt 6) (tt 8))]
abbrev k42 : List GOp := [oo 4 (.mv (cb  false))]
abbrev k43 : List GOp := [oo 10 (.fa 1 (tt 2)), oo 11 (.ld (tt 10)), oo 12 (.fa 1 (tt 3)), oo 13 (.ld (tt 12)), oo 14 (.bin .neq (tt 11) (tt 13))]
abbrev k44 : List GOp := [oo 4 (.mv (cb  false))]
abbrev k45 : List GOp := [oo 15 (.fa 2 (tt 2)), oo 16 (.ld (tt 15)), oo 17 (.fa 2 (tt 3)), oo 18 (.ld (tt 17)), oo 19 (.bin .neq (tt 16) (tt 18))]
abbrev k46 : List GOp := [oo 4 (.mv (cb  false))]
abbrev k47 : List GOp := [oo 20 (.fa 3 (tt 2)), oo 21 (.ld (tt 20)), oo 22 (.fa 3 (tt 3)), oo 23 (.ld (tt 22)), oo 24 (.call (ff 52) [tt 21, tt 23]), oo 25 (.un .not (tt 24))]
abbrev k48 : List GOp := [oo 4 (.mv (cb  false))]
abbrev k49 : List GOp := [oo 4 (.mv (cb  true))]
abbrev k4a : GCode := .seq (.reg k40) (.seq (.seq (.reg k41) (.cond (tt 9) (.seq (.reg k42) (.ret)) (.skip))) (.seq (.seq (.reg k43) (.cond (tt 14) (.seq (.reg k44) (.ret)) (.skip))) (.seq (.seq (.reg k45) (.cond (tt 19) (.seq (.reg k46) (.ret)) (.skip))) (.seq (.seq (.reg k47) (.cond (tt 25) (.seq (.reg k48) (.ret)) (.skip))) (.seq (.reg k49) (.ret))))))
theorem k4b : decFn Tryd.prog Tryd.f18 = some (26, [.t 4], k4a) := by kernel_rfl
theorem k4c {args : List Value} {G : GH} {K : Value → GH → Prop} (hn : args.length ≤ 26) (h : gW Tryd.prog k4a (RetK [.t 4] K) (T0 args) G) : GC Tryd.prog 18 args G K := GC_intro mixed Tryd.func18 k4b hn h
abbrev k4d : List GOp := [oo 4 (.mv (ci 0))]
abbrev k4e : List GOp := [oo 5 (.mv (tt 1)), oo 6 (.mv (tt 0)), oo 7 (.len (tt 6)), oo 8 (.bin .sub (tt 5) (tt 7)), oo 1 (.mv (tt 8))]
abbrev k4f : List GOp := [oo 9 (.mv (tt 1)), oo 10 (.bin .lss (tt 9) (ci 0))]
abbrev k4g : List GOp := [oo 4 (.mv (ci (-1)))]
abbrev k4h : List GOp := [oo 11 (.mv (tt 1)), oo 4 (.mv (tt 11))]
abbrev k4i : GCode := .seq (.reg k4d) (.seq (.reg k4e) (.seq (.seq (.reg k4f) (.cond (tt 10) (.seq (.reg k4g) (.ret)) (.skip))) (.seq (.reg k4h) (.ret))))
theorem k4j : decFn Tryd.prog Tryd.f45 = some (12, [.t 4], k4i) := by kernel_rfl
theorem k4k {args : List Value} {G : GH} {K : Value → GH → Prop} (hn : args.length ≤ 12) (h : gW Tryd.prog k4i (RetK [.t 4] K) (T0 args) G) : GC Tryd.prog 45 args G K := GC_intro mixed Tryd.func45 k4j hn h
abbrev k4l : List GOp := [oo 2 (.bx (tt 0)), oo 4 (.mv (ci 0))]
abbrev k4m : List GOp := [oo 5 (.fa 3 (tt 2)), oo 6 (.ld (tt 5)), oo 7 (.mv (tt 1)), oo 8 (.call (ff 45) [tt 6, tt 7]), oo 1 (.mv (tt 8))]
abbrev k4n : List GOp := [oo 9 (.mv (tt 1)), oo 10 (.bin .lss (tt 9) (ci 0))]
abbrev k4o : List GOp := [oo 4 (.mv (ci (-1)))]
abbrev k4p : List GOp := [oo 11 (.mv (tt 1)), oo 4 (.mv (tt 11))]
abbrev k4q : GCode := .seq (.reg k4l) (.seq (.reg k4m) (.seq (.seq (.reg k4n) (.cond (tt 10) (.seq (.reg k4o) (.ret)) (.skip))) (.seq (.reg k4p) (.ret))))
theorem k4r : decFn Tryd.prog Tryd.f14 = some (12, [.t 4], k4q) := by kernel_rfl
theorem k4s {args : List Value} {G : GH} {K : Value → GH → Prop} (hn : args.length ≤ 12) (h : gW Tryd.prog k4q (RetK [.t 4] K) (T0 args) G) : GC Tryd.prog 14 args G K := GC_intro mixed Tryd.func14 k4r hn h
abbrev k4t : List GOp := [oo 1 (.bx (tt 0)), oo 2 (.al [.int .i64 0, .int .i64 0, .int .i64 0])]
abbrev k4u : List GOp := [oo 3 (.al [.int .i64 0, .int .i64 0, .int .i64 0])]
abbrev k4v : List GOp := [oo 4 (.fa 0 (tt 1)), oo 5 (.ld (tt 4)), oo 6 (.fa 0 (tt 3)), on (.st 1 (tt 6) (tt 5))]
abbrev k4w : List GOp := [oo 7 (.fa 1 (tt 1)), oo 8 (.ld (tt 7)), oo 9 (.fa 1 (tt 3)), on (.st 1 (tt 9) (tt 8))]
abbrev k4x : List GOp := [oo 10 (.fa 2 (tt 1)), oo 11 (.ld (tt 10)), oo 12 (.fa 2 (tt 3)), on (.st 1 (tt 12) (tt 11))]
abbrev k4y : List GOp := [oo 13 (.ldn 3 (tt 3)), on (.st 3 (tt 2) (tt 13))]
abbrev k4z : GCode := .seq (.reg k4t) (.seq (.reg k4u) (.seq (.reg k4v) (.seq (.reg k4w) (.seq (.reg k4x) (.seq (.reg k4y) (.ret))))))
theorem k50 : decFn Tryd.prog Tryd.f89 = some (14, [.cn 2 3], k4z) := by kernel_rfl
theorem k51 {args : List Value} {G : GH} {K : Value → GH → Prop} (hn : args.length ≤ 14) (h : gW Tryd.prog k4z (RetK [.cn 2 3] K) (T0 args) G) : GC Tryd.prog 89 args G K := GC_intro mixed Tryd.func89 k50 hn h
abbrev k52 : List GOp := [oo 2 (.mv (.const (.slice none 0 0)))]
abbrev k53 : List GOp := [oo 5 (.mv (tt 0)), oo 6 (.len (tt 5)), oo 7 (.mk 3 24 [.int .i64 0, .int .i64 0, .int .i64 0] (tt 6) (tt 6)), oo 3 (.mv (tt 7))]
abbrev k54 : List GOp := [oo 4 (.mv (ci 0))]
abbrev k55 : List GOp := [oo 8 (.mv (tt 4)), oo 9 (.mv (tt 0)), oo 10 (.len (tt 9)), oo 11 (.bin .lss (tt 8) (tt 10))]
abbrev k56 : List GOp := [oo 14 (.mv (tt 3)), oo 15 (.mv (tt 4)), oo 16 (.mv (tt 0)), oo 17 (.mv (tt 4)), oo 18 (.ia 3 (tt 16) (tt 17)), oo 19 (.ldn 3 (tt 18)), oo 20 (.call (ff 89) [tt 19]), oo 21 (.ia 3 (tt 14) (tt 15)), on (.st 3 (tt 21) (tt 20))]
abbrev k57 : List GOp := [oo 12 (.mv (tt 4)), oo 13 (.bin .add (tt 12) (ci 1)), oo 4 (.mv (tt 13))]
abbrev k58 : GCode := .seq (.seq (.reg k55) (.cond (tt 11) (.skip) (.exit 0))) (.seq (.blk 1 (.reg k56)) (.reg k57))
abbrev k59 : List GOp := [oo 22 (.mv (tt 3)), oo 2 (.mv (tt 22))]
abbrev k5a : GCode := .seq (.reg k52) (.seq (.reg k53) (.seq (.seq (.reg k54) (.blk 0 (.loop k58))) (.seq (.reg k59) (.ret))))
theorem k5b : decFn Tryd.prog Tryd.f48 = some (23, [.t 2], k5a) := by kernel_rfl
theorem k5c {args : List Value} {G : GH} {K : Value → GH → Prop} (hn : args.length ≤ 23) (h : gW Tryd.prog k5a (RetK [.t 2] K) (T0 args) G) : GC Tryd.prog 48 args G K := GC_intro mixed Tryd.func48 k5b hn h
abbrev k5d : List GOp := [oo 1 (.bx (tt 0)), oo 2 (.al [.int .i64 0, .int .i64 0, .int .i64 0, .slice none 0 0])]
abbrev k5e : List GOp := [oo 3 (.al [.int .i64 0, .int .i64 0, .int .i64 0, .slice none 0 0])]
abbrev k5f : List GOp := [oo 4 (.fa 0 (tt 1)), oo 5 (.ld (tt 4)), oo 6 (.fa 0 (tt 3)), on (.st 1 (tt 6) (tt 5))]
abbrev k5g : List GOp := [oo 7 (.fa 1 (tt 1)), oo 8 (.ld (tt 7)), oo 9 (.fa 1 (tt 3)), on (.st 1 (tt 9) (tt 8))]
abbrev k5h : List GOp := [oo 10 (.fa 2 (tt 1)), oo 11 (.ld (tt 10)), oo 12 (.fa 2 (tt 3)), on (.st 1 (tt 12) (tt 11))]
abbrev k5i : List GOp := [oo 13 (.fa 3 (tt 1)), oo 14 (.ld (tt 13)), oo 15 (.call (ff 48) [tt 14]), oo 16 (.fa 3 (tt 3)), on (.st 1 (tt 16) (tt 15))]
abbrev k5j : List GOp := [oo 17 (.ldn 4 (tt 3)), on (.st 4 (tt 2) (tt 17))]
abbrev k5k : GCode := .seq (.reg k5d) (.seq (.reg k5e) (.seq (.reg k5f) (.seq (.reg k5g) (.seq (.reg k5h) (.seq (.reg k5i) (.seq (.reg k5j) (.ret)))))))
theorem k5l : decFn Tryd.prog Tryd.f16 = some (18, [.cn 2 4], k5k) := by kernel_rfl
theorem k5m {args : List Value} {G : GH} {K : Value → GH → Prop} (hn : args.length ≤ 18) (h : gW Tryd.prog k5k (RetK [.cn 2 4] K) (T0 args) G) : GC Tryd.prog 16 args G K := GC_intro mixed Tryd.func16 k5l hn h
abbrev k5n : List GOp := [oo 4 (.mv (cb  false))]
abbrev k5o : List GOp := [oo 5 (.mv (tt 0)), oo 6 (.mv (tt 1)), oo 7 (.call (ff 111) [tt 5, tt 6]), oo 8 (.bin .geq (tt 7) (ci 0)), oo 4 (.mv (tt 8))]
abbrev k5p : GCode := .seq (.reg k5n) (.seq (.reg k5o) (.ret))
theorem k5q : decFn Tryd.prog Tryd.f93 = some (9, [.t 4], k5p) := by kernel_rfl
theorem k5r {args : List Value} {G : GH} {K : Value → GH → Prop} (hn : args.length ≤ 9) (h : gW Tryd.prog k5p (RetK [.t 4] K) (T0 args) G) : GC Tryd.prog 93 args G K := GC_intro mixed Tryd.func93 k5q hn h
abbrev k5s : List GOp := [oo 4 (.mv (ci 0))]
abbrev k5t : List GOp := [oo 6 (.mv (tt 0)), oo 7 (.len (tt 6)), oo 8 (.mv (ci 0))]
abbrev k5u : List GOp := [oo 9 (.bin .lss (tt 8) (tt 7))]
abbrev k5v : List GOp := [oo 10 (.mv (tt 8)), oo 5 (.mv (tt 10))]
abbrev k5w : List GOp := [oo 11 (.mv (tt 1)), oo 12 (.mv (tt 0)), oo 13 (.mv (tt 5)), oo 14 (.ia 1 (tt 12) (tt 13)), oo 15 (.ld (tt 14)), oo 16 (.call (tt 11) [tt 15])]
abbrev k5x : List GOp := [oo 17 (.mv (tt 5)), oo 4 (.mv (tt 17))]
abbrev k5y : List GOp := [oo 18 (.bin .add (tt 8) (ci 1)), oo 8 (.mv (tt 18))]
abbrev k5z : GCode := .seq (.reg k5u) (.seq (.cond (tt 9) (.skip) (.exit 0)) (.seq (.blk 1 (.seq (.reg k5v) (.seq (.reg k5w) (.cond (tt 16) (.seq (.reg k5x) (.ret)) (.skip))))) (.reg k5y)))
abbrev k60 : List GOp := [oo 4 (.mv (ci (-1)))]
abbrev k61 : GCode := .seq (.reg k5s) (.seq (.seq (.reg k5t) (.blk 0 (.loop k5z))) (.seq (.reg k60) (.ret)))
theorem k62 : decFn Tryd.prog Tryd.f111 = some (19, [.t 4], k61) := by kernel_rfl
theorem k63 {args : List Value} {G : GH} {K : Value → GH → Prop} (hn : args.length ≤ 19) (h : gW Tryd.prog k61 (RetK [.t 4] K) (T0 args) G) : GC Tryd.prog 111 args G K := GC_intro mixed Tryd.func111 k62 hn h
abbrev k64 : List GOp := [oo 1 (.bx (tt 0)), oo 2 (.mv (.const (.string ByteArray.empty)))]
abbrev k65 : List GOp := [oo 3 (.call (ff 46) [tt 1]), oo 4 (.un .not (tt 3))]
abbrev k66 : List GOp := [oo 2 (.mv (.const (.string ByteArray.empty)))]
abbrev k67 : List GOp := [oo 5 (.call (ff 47) [tt 1]), oo 2 (.mv (tt 5))]
abbrev k68 : GCode := .seq (.reg k64) (.seq (.seq (.reg k65) (.cond (tt 4) (.seq (.reg k66) (.ret)) (.skip))) (.seq (.reg k67) (.ret)))
theorem k69 : decFn Tryd.prog Tryd.f15 = some (6, [.t 2], k68) := by kernel_rfl
theorem k6a {args : List Value} {G : GH} {K : Value → GH → Prop} (hn : args.length ≤ 6) (h : gW Tryd.prog k68 (RetK [.t 2] K) (T0 args) G) : GC Tryd.prog 15 args G K := GC_intro mixed Tryd.func15 k69 hn h
abbrev k6b : List GOp := [oo 6 (.mv (cb  false))]
abbrev k6c : List GOp := [oo 7 (.mv (tt 0)), oo 8 (.mv (tt 1)), oo 9 (.bin .geq (tt 7) (tt 8)), oo 10 (.mv (tt 9)), og 11 10 true (.mv (tt 0)), og 12 10 true (.mv (tt 2)), og 13 10 true (.bin .leq (tt 11) (tt 12)), oo 14 (.pick (tt 10) (tt 13) (cb  false)), oo 6 (.mv (tt 14))]
abbrev k6d : GCode := .seq (.reg k6b) (.seq (.reg k6c) (.ret))
theorem k6e : decFn Tryd.prog Tryd.f80 = some (15, [.t 6], k6d) := by kernel_rfl
theorem k6f {args : List Value} {G : GH} {K : Value → GH → Prop} (hn : args.length ≤ 15) (h : gW Tryd.prog k6d (RetK [.t 6] K) (T0 args) G) : GC Tryd.prog 80 args G K := GC_intro mixed Tryd.func80 k6e hn h
abbrev k6g : List GOp := [oo 2 (.mv (.const (.string ByteArray.empty)))]
abbrev k6h : List GOp := [oo 8 (.mv (tt 0)), oo 9 (.bin .eql (tt 8) (ci 0))]
abbrev k6i : List GOp := [oo 2 (.mv (.const (.string ⟨#[48]⟩)))]
abbrev k6j : List GOp := [oo 10 (.bs 1 []), oo 3 (.mv (tt 10))]
abbrev k6k : List GOp := [oo 11 (.mv (tt 0)), oo 4 (.mv (tt 11))]
abbrev k6l : List GOp := [oo 12 (.mv (tt 4)), oo 13 (.bin .neq (tt 12) (ci 0))]
abbrev k6m : List GOp := [oo 16 (.mv (tt 4)), oo 17 (.bin .rem (tt 16) (ci 10)), oo 5 (.mv (tt 17))]
abbrev k6n : List GOp := [oo 18 (.mv (tt 5)), oo 19 (.bin .lss (tt 18) (ci 0))]
abbrev k6o : List GOp := [oo 20 (.mv (tt 5)), oo 21 (.un .neg (tt 20)), oo 5 (.mv (tt 21))]
abbrev k6p : List GOp := [oo 22 (.mv (tt 3)), oo 23 (.mv (tt 5)), oo 24 (.bin .add (ci 48) (tt 23)), oo 25 (.cvi .u8 (tt 24)), oo 26 (.bs 1 [tt 25]), oo 27 (.ap 1 1 [.int .u8 0] (tt 22) (tt 26)), oo 3 (.mv (tt 27))]
abbrev k6q : List GOp := [oo 14 (.mv (tt 4)), oo 15 (.bin .quo (tt 14) (ci 10)), oo 4 (.mv (tt 15))]
abbrev k6r : GCode := .seq (.seq (.reg k6l) (.cond (tt 13) (.skip) (.exit 0))) (.seq (.blk 1 (.seq (.reg k6m) (.seq (.seq (.reg k6n) (.cond (tt 19) (.reg k6o) (.skip))) (.reg k6p)))) (.reg k6q))
abbrev k6s : List GOp := [oo 28 (.mv (tt 0)), oo 29 (.bin .lss (tt 28) (ci 0))]
abbrev k6t : List GOp := [oo 30 (.mv (tt 3)), oo 31 (.bs 1 [(.const (.int .u8 45))]), oo 32 (.ap 1 1 [.int .u8 0] (tt 30) (tt 31)), oo 3 (.mv (tt 32))]
abbrev k6u : List GOp := [oo 33 (.bs 1 []), oo 6 (.mv (tt 33))]
abbrev k6v : List GOp := [oo 34 (.mv (tt 3)), oo 35 (.len (tt 34)), oo 36 (.bin .sub (tt 35) (ci 1)), oo 7 (.mv (tt 36))]
abbrev k6w : List GOp := [oo 37 (.mv (tt 7)), oo 38 (.bin .geq (tt 37) (ci 0))]
abbrev k6x : List GOp := [oo 41 (.mv (tt 6)), oo 42 (.mv (tt 3)), oo 43 (.mv (tt 7)), oo 44 (.ia 1 (tt 42) (tt 43)), oo 45 (.ld (tt 44)), oo 46 (.bs 1 [tt 45]), oo 47 (.ap 1 1 [.int .u8 0] (tt 41) (tt 46)), oo 6 (.mv (tt 47))]
abbrev k6y : List GOp := [oo 39 (.mv (tt 7)), oo 40 (.bin .sub (tt 39) (ci 1)), oo 7 (.mv (tt 40))]
abbrev k6z : GCode := .seq (.seq (.reg k6w) (.cond (tt 38) (.skip) (.exit 2))) (.seq (.blk 3 (.reg k6x)) (.reg k6y))
abbrev k70 : List GOp := [oo 48 (.mv (tt 6)), oo 49 (.b2s (tt 48)), oo 2 (.mv (tt 49))]
abbrev k71 : GCode := .seq (.reg k6g) (.seq (.seq (.reg k6h) (.cond (tt 9) (.seq (.reg k6i) (.ret)) (.skip))) (.seq (.reg k6j) (.seq (.seq (.reg k6k) (.blk 0 (.loop k6r))) (.seq (.seq (.reg k6s) (.cond (tt 29) (.reg k6t) (.skip))) (.seq (.reg k6u) (.seq (.seq (.reg k6v) (.blk 2 (.loop k6z))) (.seq (.reg k70) (.ret))))))))
theorem k72 : decFn Tryd.prog Tryd.f81 = some (50, [.t 2], k71) := by kernel_rfl
theorem k73 {args : List Value} {G : GH} {K : Value → GH → Prop} (hn : args.length ≤ 50) (h : gW Tryd.prog k71 (RetK [.t 2] K) (T0 args) G) : GC Tryd.prog 81 args G K := GC_intro mixed Tryd.func81 k72 hn h
abbrev k74 : List GOp := [oo 2 (.mv (.const (.string ByteArray.empty)))]
abbrev k75 : List GOp := [oo 5 (.mv (tt 0)), oo 6 (.len (tt 5)), oo 7 (.bin .eql (tt 6) (ci 0))]
abbrev k76 : List GOp := [oo 2 (.mv (.const (.string ⟨#[45]⟩)))]
abbrev k77 : List GOp := [oo 3 (.mv (.const (.string ByteArray.empty)))]
abbrev k78 : List GOp := [oo 4 (.mv (ci 0))]
abbrev k79 : List GOp := [oo 8 (.mv (tt 4)), oo 9 (.mv (tt 0)), oo 10 (.len (tt 9)), oo 11 (.bin .lss (tt 8) (tt 10))]
abbrev k7a : List GOp := [oo 14 (.mv (tt 4)), oo 15 (.bin .gtr (tt 14) (ci 0))]
abbrev k7b : List GOp := [oo 16 (.mv (tt 3)), oo 17 (.bin .add (tt 16) (.const (.string ⟨#[44]⟩))), oo 3 (.mv (tt 17))]
abbrev k7c : List GOp := [oo 18 (.mv (tt 3)), oo 19 (.mv (tt 0)), oo 20 (.mv (tt 4)), oo 21 (.ia 1 (tt 19) (tt 20)), oo 22 (.ld (tt 21)), oo 23 (.call (ff 81) [tt 22]), oo 24 (.bin .add (tt 18) (tt 23)), oo 3 (.mv (tt 24))]
abbrev k7d : List GOp := [oo 12 (.mv (tt 4)), oo 13 (.bin .add (tt 12) (ci 1)), oo 4 (.mv (tt 13))]
abbrev k7e : GCode := .seq (.seq (.reg k79) (.cond (tt 11) (.skip) (.exit 0))) (.seq (.blk 1 (.seq (.seq (.reg k7a) (.cond (tt 15) (.reg k7b) (.skip))) (.reg k7c))) (.reg k7d))
abbrev k7f : List GOp := [oo 25 (.mv (tt 3)), oo 2 (.mv (tt 25))]
abbrev k7g : GCode := .seq (.reg k74) (.seq (.seq (.reg k75) (.cond (tt 7) (.seq (.reg k76) (.ret)) (.skip))) (.seq (.reg k77) (.seq (.seq (.reg k78) (.blk 0 (.loop k7e))) (.seq (.reg k7f) (.ret)))))
theorem k7h : decFn Tryd.prog Tryd.f88 = some (26, [.t 2], k7g) := by kernel_rfl
theorem k7i {args : List Value} {G : GH} {K : Value → GH → Prop} (hn : args.length ≤ 26) (h : gW Tryd.prog k7g (RetK [.t 2] K) (T0 args) G) : GC Tryd.prog 88 args G K := GC_intro mixed Tryd.func88 k7h hn h
abbrev k7j : List GOp := [oo 2 (.mv (cb  false))]
abbrev k7k : List DOp := [dl 0 (oo 5 (.mv (tt 0))), dl 1 (oo 6 (.nc (tt 5))), dl 2 (oo 7 (.fa 0 (tt 6))), dl 3 (oo 8 (.ld (tt 7))), dh 4 [] (oo 9 (.call (ff 80) [tt 8, (ci 2), (ci 12)])), dl 5 (oo 10 (.un .not (tt 9))), dl 6 (oo 11 (.mv (tt 10))), dl 7 (og 12 11 false (.mv (tt 0))), dl 8 (og 13 11 false (.nc (tt 12))), dl 9 (og 14 11 false (.fa 1 (tt 13))), dl 10 (og 15 11 false (.ld (tt 14))), dl 11 (og 16 11 false (.mv (tt 0))), dl 12 (og 17 11 false (.nc (tt 16))), dl 13 (og 18 11 false (.fa 0 (tt 17))), dl 14 (og 19 11 false (.ld (tt 18))), dl 15 (og 20 11 false (.bin .sub (tt 19) (ci 1))), dh 16 [14, 3] (og 21 11 false (.call (ff 80) [tt 15, (ci 0), tt 20])), dl 17 (og 22 11 false (.un .not (tt 21))), dl 18 (oo 23 (.pick (tt 11) (cb  true) (tt 22))), dl 19 (oo 24 (.mv (tt 23))), dl 20 (og 25 24 false (.mv (tt 0))), dl 21 (og 26 24 false (.nc (tt 25))), dl 22 (og 27 24 false (.fa 2 (tt 26))), dl 23 (og 28 24 false (.ld (tt 27))), dl 24 (og 29 24 false (.mv (tt 0))), dl 25 (og 30 24 false (.nc (tt 29))), dl 26 (og 31 24 false (.fa 0 (tt 30))), dl 27 (og 32 24 false (.ld (tt 31))), dl 28 (og 33 24 false (.bin .sub (tt 32) (ci 1))), dh 29 [27, 14, 10, 3] (og 34 24 false (.call (ff 80) [tt 28, (ci 0), tt 33])), dl 30 (og 35 24 false (.un .not (tt 34))), dl 31 (oo 36 (.pick (tt 24) (cb  true) (tt 35))), dl 32 (oo 37 (.mv (tt 36))), dl 33 (og 38 37 false (.mv (tt 0))), dl 34 (og 39 37 false (.nc (tt 38))), dl 35 (og 40 37 false (.fa 1 (tt 39))), dl 36 (og 41 37 false (.ld (tt 40))), dl 37 (og 42 37 false (.mv (tt 0))), dl 38 (og 43 37 false (.nc (tt 42))), dl 39 (og 44 37 false (.fa 2 (tt 43))), dl 40 (og 45 37 false (.ld (tt 44))), dl 41 (og 46 37 false (.bin .eql (tt 41) (tt 45))), dl 42 (oo 47 (.pick (tt 37) (cb  true) (tt 46)))]
abbrev k7l : List GOp := [oo 2 (.mv (cb  false))]
abbrev k7m : List GOp := [oo 3 (.mv (ci 0))]
abbrev k7n : List GOp := [oo 48 (.mv (tt 3)), oo 49 (.mv (tt 0)), oo 50 (.nc (tt 49)), oo 51 (.fa 3 (tt 50)), oo 52 (.ld (tt 51)), oo 53 (.len (tt 52)), oo 54 (.bin .lss (tt 48) (tt 53))]
abbrev k7o : List GOp := [oo 57 (.mv (tt 0)), oo 58 (.nc (tt 57)), oo 59 (.fa 3 (tt 58)), oo 60 (.ld (tt 59)), oo 61 (.mv (tt 3)), oo 62 (.ia 3 (tt 60) (tt 61)), oo 63 (.ldn 3 (tt 62)), oo 4 (.al [.int .i64 0, .int .i64 0, .int .i64 0]), on (.st 3 (tt 4) (tt 63))]
abbrev k7p : List DOp := [dl 0 (oo 64 (.fa 0 (tt 4))), dl 1 (oo 65 (.ld (tt 64))), dl 2 (oo 66 (.mv (tt 0))), dl 3 (oo 67 (.nc (tt 66))), dl 4 (oo 68 (.fa 0 (tt 67))), dl 5 (oo 69 (.ld (tt 68))), dl 6 (oo 70 (.bin .sub (tt 69) (ci 1))), dh 7 [5] (oo 71 (.call (ff 80) [tt 65, (ci 0), tt 70])), dl 8 (oo 72 (.un .not (tt 71))), dl 9 (oo 73 (.mv (tt 72))), dl 10 (og 74 73 false (.fa 1 (tt 4))), dl 11 (og 75 73 false (.ld (tt 74))), dl 12 (og 76 73 false (.mv (tt 0))), dl 13 (og 77 73 false (.nc (tt 76))), dl 14 (og 78 73 false (.fa 0 (tt 77))), dl 15 (og 79 73 false (.ld (tt 78))), dl 16 (og 80 73 false (.bin .sub (tt 79) (ci 1))), dh 17 [15, 5, 1] (og 81 73 false (.call (ff 80) [tt 75, (ci 0), tt 80])), dl 18 (og 82 73 false (.un .not (tt 81))), dl 19 (oo 83 (.pick (tt 73) (cb  true) (tt 82))), dl 20 (oo 84 (.mv (tt 83))), dl 21 (og 85 84 false (.fa 0 (tt 4))), dl 22 (og 86 84 false (.ld (tt 85))), dl 23 (og 87 84 false (.fa 1 (tt 4))), dl 24 (og 88 84 false (.ld (tt 87))), dl 25 (og 89 84 false (.bin .eql (tt 86) (tt 88))), dl 26 (oo 90 (.pick (tt 84) (cb  true) (tt 89))), dl 27 (oo 91 (.mv (tt 90))), dl 28 (og 92 91 false (.fa 2 (tt 4))), dl 29 (og 93 91 false (.ld (tt 92))), dh 30 [24, 22, 15, 11, 5, 1] (og 94 91 false (.call (ff 80) [tt 93, (ci 0), (ci 1000000)])), dl 31 (og 95 91 false (.un .not (tt 94))), dl 32 (oo 96 (.pick (tt 91) (cb  true) (tt 95)))]
abbrev k7q : List GOp := [oo 2 (.mv (cb  false))]
abbrev k7r : List DOp := [dl 0 (oo 97 (.mv (tt 3))), dl 1 (oo 98 (.bin .gtr (tt 97) (ci 0))), dl 2 (oo 99 (.mv (tt 98))), dl 3 (og 100 99 true (.mv (tt 0))), dl 4 (og 101 99 true (.nc (tt 100))), dl 5 (og 102 99 true (.fa 3 (tt 101))), dl 6 (og 103 99 true (.ld (tt 102))), dl 7 (og 104 99 true (.mv (tt 3))), dl 8 (og 105 99 true (.bin .sub (tt 104) (ci 1))), dl 9 (og 106 99 true (.ia 3 (tt 103) (tt 105))), dl 10 (og 107 99 true (.fa 0 (tt 106))), dl 11 (og 108 99 true (.ld (tt 107))), dl 12 (og 109 99 true (.fa 0 (tt 4))), dl 13 (og 110 99 true (.ld (tt 109))), dl 14 (og 111 99 true (.bin .gtr (tt 108) (tt 110))), dl 15 (og 112 99 true (.mv (tt 111))), dl 16 (og 113 112 false (.mv (tt 0))), dl 17 (og 114 112 false (.nc (tt 113))), dl 18 (og 115 112 false (.fa 3 (tt 114))), dl 19 (og 116 112 false (.ld (tt 115))), dl 20 (og 117 112 false (.mv (tt 3))), dl 21 (og 118 112 false (.bin .sub (tt 117) (ci 1))), dl 22 (og 119 112 false (.ia 3 (tt 116) (tt 118))), dl 23 (og 120 112 false (.fa 0 (tt 119))), dl 24 (og 121 112 false (.ld (tt 120))), dl 25 (og 122 112 false (.fa 0 (tt 4))), dl 26 (og 123 112 false (.ld (tt 122))), dl 27 (og 124 112 false (.bin .eql (tt 121) (tt 123))), dl 28 (og 125 112 false (.mv (tt 124))), dl 29 (og 126 125 true (.mv (tt 0))), dl 30 (og 127 125 true (.nc (tt 126))), dl 31 (og 128 125 true (.fa 3 (tt 127))), dl 32 (og 129 125 true (.ld (tt 128))), dl 33 (og 130 125 true (.mv (tt 3))), dl 34 (og 131 125 true (.bin .sub (tt 130) (ci 1))), dl 35 (og 132 125 true (.ia 3 (tt 129) (tt 131))), dl 36 (og 133 125 true (.fa 1 (tt 132))), dl 37 (og 134 125 true (.ld (tt 133))), dl 38 (og 135 125 true (.fa 1 (tt 4))), dl 39 (og 136 125 true (.ld (tt 135))), dl 40 (og 137 125 true (.bin .geq (tt 134) (tt 136))), dl 41 (og 138 112 false (.pick (tt 125) (tt 137) (cb  false))), dl 42 (og 139 99 true (.pick (tt 112) (cb  true) (tt 138))), dl 43 (oo 140 (.pick (tt 99) (tt 139) (cb  false)))]
abbrev k7s : List GOp := [oo 2 (.mv (cb  false))]
abbrev k7t : List GOp := [oo 55 (.mv (tt 3)), oo 56 (.bin .add (tt 55) (ci 1)), oo 3 (.mv (tt 56))]
abbrev k7u : GCode := .seq (.seq (.reg k7n) (.cond (tt 54) (.skip) (.exit 0))) (.seq (.blk 1 (.seq (.reg k7o) (.seq (.seq (.dreg k7p) (.cond (tt 96) (.seq (.reg k7q) (.ret)) (.skip))) (.seq (.dreg k7r) (.cond (tt 140) (.seq (.reg k7s) (.ret)) (.skip)))))) (.reg k7t))
abbrev k7v : List GOp := [oo 141 (.mv (tt 0)), oo 142 (.nc (tt 141)), oo 143 (.fa 3 (tt 142)), oo 144 (.ld (tt 143)), oo 145 (.len (tt 144)), oo 146 (.bin .leq (tt 145) (ci 24)), oo 2 (.mv (tt 146))]
abbrev k7w : GCode := .seq (.reg k7j) (.seq (.seq (.dreg k7k) (.cond (tt 47) (.seq (.reg k7l) (.ret)) (.skip))) (.seq (.seq (.reg k7m) (.blk 0 (.loop k7u))) (.seq (.reg k7v) (.ret))))
theorem k7x : decFn Tryd.prog Tryd.f46 = some (147, [.t 2], k7w) := by kernel_rfl
theorem k7y {args : List Value} {G : GH} {K : Value → GH → Prop} (hn : args.length ≤ 147) (h : gW Tryd.prog k7w (RetK [.t 2] K) (T0 args) G) : GC Tryd.prog 46 args G K := GC_intro mixed Tryd.func46 k7x hn h
abbrev k7z : List GOp := [oo 2 (.mv (.const (.string ByteArray.empty)))]
abbrev k80 : List DOp := [dl 0 (oo 5 (.mv (tt 0))), dl 1 (oo 6 (.nc (tt 5))), dl 2 (oo 7 (.fa 0 (tt 6))), dl 3 (oo 8 (.ld (tt 7))), dl 4 (oo 9 (.mv (tt 0))), dl 5 (oo 10 (.nc (tt 9))), dl 6 (oo 11 (.fa 1 (tt 10))), dl 7 (oo 12 (.ld (tt 11))), dl 8 (oo 13 (.mv (tt 0))), dl 9 (oo 14 (.nc (tt 13))), dl 10 (oo 15 (.fa 2 (tt 14))), dl 11 (oo 16 (.ld (tt 15))), dh 12 [] (oo 17 (.bs 1 [tt 8, tt 12, tt 16])), dh 13 [11, 7, 3] (oo 18 (.call (ff 88) [tt 17])), dl 14 (oo 3 (.mv (tt 18)))]
abbrev k81 : List GOp := [oo 4 (.mv (ci 0))]
abbrev k82 : List GOp := [oo 19 (.mv (tt 4)), oo 20 (.mv (tt 0)), oo 21 (.nc (tt 20)), oo 22 (.fa 3 (tt 21)), oo 23 (.ld (tt 22)), oo 24 (.len (tt 23)), oo 25 (.bin .lss (tt 19) (tt 24))]
abbrev k83 : List DOp := [dl 0 (oo 28 (.mv (tt 3))), dl 1 (oo 29 (.mv (tt 0))), dl 2 (oo 30 (.nc (tt 29))), dl 3 (oo 31 (.fa 3 (tt 30))), dl 4 (oo 32 (.ld (tt 31))), dl 5 (oo 33 (.mv (tt 4))), dl 6 (oo 34 (.ia 3 (tt 32) (tt 33))), dl 7 (oo 35 (.fa 0 (tt 34))), dl 8 (oo 36 (.ld (tt 35))), dl 9 (oo 37 (.mv (tt 0))), dl 10 (oo 38 (.nc (tt 37))), dl 11 (oo 39 (.fa 3 (tt 38))), dl 12 (oo 40 (.ld (tt 39))), dl 13 (oo 41 (.mv (tt 4))), dl 14 (oo 42 (.ia 3 (tt 40) (tt 41))), dl 15 (oo 43 (.fa 1 (tt 42))), dl 16 (oo 44 (.ld (tt 43))), dl 17 (oo 45 (.mv (tt 0))), dl 18 (oo 46 (.nc (tt 45))), dl 19 (oo 47 (.fa 3 (tt 46))), dl 20 (oo 48 (.ld (tt 47))), dl 21 (oo 49 (.mv (tt 4))), dl 22 (oo 50 (.ia 3 (tt 48) (tt 49))), dl 23 (oo 51 (.fa 2 (tt 50))), dl 24 (oo 52 (.ld (tt 51))), dh 25 [20, 12, 4] (oo 53 (.bs 1 [tt 36, tt 44, tt 52])), dh 26 [24, 20, 16, 12, 8, 4] (oo 54 (.call (ff 88) [tt 53])), dl 27 (oo 55 (.bin .add (.const (.string ⟨#[32]⟩)) (tt 54))), dl 28 (oo 56 (.bin .add (tt 28) (tt 55))), dl 29 (oo 3 (.mv (tt 56)))]
abbrev k84 : List GOp := [oo 26 (.mv (tt 4)), oo 27 (.bin .add (tt 26) (ci 1)), oo 4 (.mv (tt 27))]
abbrev k85 : GCode := .seq (.seq (.reg k82) (.cond (tt 25) (.skip) (.exit 0))) (.seq (.blk 1 (.dreg k83)) (.reg k84))
abbrev k86 : List GOp := [oo 57 (.mv (tt 3)), oo 2 (.mv (tt 57))]
abbrev k87 : GCode := .seq (.reg k7z) (.seq (.dreg k80) (.seq (.seq (.reg k81) (.blk 0 (.loop k85))) (.seq (.reg k86) (.ret))))
theorem k88 : decFn Tryd.prog Tryd.f47 = some (58, [.t 2], k87) := by kernel_rfl
theorem k89 {args : List Value} {G : GH} {K : Value → GH → Prop} (hn : args.length ≤ 58) (h : gW Tryd.prog k87 (RetK [.t 2] K) (T0 args) G) : GC Tryd.prog 47 args G K := GC_intro mixed Tryd.func47 k88 hn h

end Go.Proofs.YtnaoeggecibkmaaDoor.Gh
