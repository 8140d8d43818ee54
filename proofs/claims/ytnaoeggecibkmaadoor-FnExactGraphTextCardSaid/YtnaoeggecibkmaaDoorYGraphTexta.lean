/- Code trees that the law GraphText reaches: each is what the decoding gives (checked by the kernel). -/
import Derived.Test.YtnaoeggecibkmaaDoorC0
import Derived.Test.YtnaoeggecibkmaaDoorFm
import Derived.Test.YtnaoeggecibkmaaDoorFn
import Derived.Test.YtnaoeggecibkmaaDoorFz
namespace Go.Proofs.YtnaoeggecibkmaaDoor.Gh
open Go Go.RowKit Go.Proofs
open Nat (reduceEqDiff reduceMul reduceAdd)
open Int (reduceToNat)
set_option linter.unusedVariables false
set_option linter.unusedSimpArgs false
set_option maxHeartbeats 4000000

abbrev k0_ : List GOp := [oo 4 (.mv (ci 0))]
abbrev k1_ : List GOp := [oo 7 (.mv (tt 0)), oo 8 (.call (ff 110) [tt 7]), oo 5 (.mv (tt 8))]
abbrev k2_ : List GOp := [oo 9 (.mv (tt 1)), oo 10 (.call (ff 110) [tt 9]), oo 6 (.mv (tt 10))]
abbrev k3_ : List GOp := [oo 11 (.mv (tt 5))]
abbrev k4 : List GOp := [oo 12 (.mv (tt 6))]
abbrev k5 : List GOp := [oo 4 (.mv (ci 0))]
abbrev k6 : List GOp := [oo 4 (.mv (ci (-1)))]
abbrev k7 : List GOp := [oo 13 (.mv (tt 6))]
abbrev k8 : List GOp := [oo 4 (.mv (ci 1))]
abbrev k9 : List GOp := [oo 14 (.mv (tt 0)), oo 15 (.mv (tt 1)), oo 16 (.bin .lss (tt 14) (tt 15))]
abbrev ka : List GOp := [oo 4 (.mv (ci (-1)))]
abbrev kb : List GOp := [oo 17 (.mv (tt 0)), oo 18 (.mv (tt 1)), oo 19 (.bin .gtr (tt 17) (tt 18))]
abbrev kc : List GOp := [oo 4 (.mv (ci 1))]
abbrev kd : List GOp := [oo 4 (.mv (ci 0))]
abbrev ke : GCode := .seq (.reg k0_) (.seq (.reg k1_) (.seq (.reg k2_) (.seq (.seq (.reg k3_) (.cond (tt 11) (.seq (.seq (.reg k4) (.cond (tt 12) (.seq (.reg k5) (.ret)) (.skip))) (.seq (.reg k6) (.ret))) (.skip))) (.seq (.seq (.reg k7) (.cond (tt 13) (.seq (.reg k8) (.ret)) (.skip))) (.seq (.seq (.reg k9) (.cond (tt 16) (.seq (.reg ka) (.ret)) (.skip))) (.seq (.seq (.reg kb) (.cond (tt 19) (.seq (.reg kc) (.ret)) (.skip))) (.seq (.reg kd) (.ret))))))))
theorem kf : decFn Tryd.prog Tryd.f92 = some (20, [.t 4], ke) := by kernel_rfl
theorem kg {args : List Value} {G : GH} {K : Value → GH → Prop} (hn : args.length ≤ 20) (h : gW Tryd.prog ke (RetK [.t 4] K) (T0 args) G) : GC Tryd.prog 92 args G K := GC_intro mixed Tryd.func92 kf hn h
abbrev kh : List GOp := [oo 2 (.mv (ci 0))]
abbrev ki : List GOp := [oo 3 (.mv (ci 0))]
abbrev kj : List GOp := [oo 6 (.mv (tt 0)), oo 7 (.len (tt 6)), oo 8 (.mv (ci 0))]
abbrev kk : List GOp := [oo 9 (.bin .lss (tt 8) (tt 7))]
abbrev kl : List GOp := [oo 10 (.ia 1 (tt 6) (tt 8)), oo 11 (.ld (tt 10)), oo 5 (.mv (tt 11))]
abbrev km : List GOp := [oo 12 (.mv (tt 5)), oo 13 (.mv (tt 3)), oo 14 (.bin .neq (tt 12) (tt 13))]
abbrev kn : List GOp := [oo 15 (.mv (tt 5)), oo 2 (.mv (tt 15))]
abbrev ko : List GOp := [oo 16 (.bin .add (tt 8) (ci 1)), oo 8 (.mv (tt 16))]
abbrev kp : GCode := .seq (.reg kk) (.seq (.cond (tt 9) (.skip) (.exit 0)) (.seq (.blk 1 (.seq (.reg kl) (.seq (.reg km) (.cond (tt 14) (.seq (.reg kn) (.ret)) (.skip))))) (.reg ko)))
abbrev kq : List GOp := [oo 17 (.mv (tt 3)), oo 2 (.mv (tt 17))]
abbrev kr : GCode := .seq (.reg kh) (.seq (.reg ki) (.seq (.seq (.reg kj) (.blk 0 (.loop kp))) (.seq (.reg kq) (.ret))))
theorem ks_ : decFn Tryd.prog Tryd.f91 = some (18, [.t 2], kr) := by kernel_rfl
theorem kt {args : List Value} {G : GH} {K : Value → GH → Prop} (hn : args.length ≤ 18) (h : gW Tryd.prog kr (RetK [.t 2] K) (T0 args) G) : GC Tryd.prog 91 args G K := GC_intro mixed Tryd.func91 ks_ hn h
abbrev ku_ : List GOp := [oo 2 (.mv (cb  false))]
abbrev kv_ : List GOp := [oo 3 (.mv (tt 0)), oo 4 (.mv (tt 0)), oo 5 (.bin .neq (tt 3) (tt 4)), oo 2 (.mv (tt 5))]
abbrev kw : GCode := .seq (.reg ku_) (.seq (.reg kv_) (.ret))
theorem kx : decFn Tryd.prog Tryd.f110 = some (6, [.t 2], kw) := by kernel_rfl
theorem ky {args : List Value} {G : GH} {K : Value → GH → Prop} (hn : args.length ≤ 6) (h : gW Tryd.prog kw (RetK [.t 2] K) (T0 args) G) : GC Tryd.prog 110 args G K := GC_intro mixed Tryd.func110 kx hn h
abbrev kz : List GOp := [oo 2 (.mv (.const (.string ByteArray.empty)))]
abbrev k10 : List GOp := [oo 3 (.mv (tt 0)), oo 4 (.call (ff 86) [tt 3, (ci 10)]), oo 2 (.mv (tt 4))]
abbrev k11 : GCode := .seq (.reg kz) (.seq (.reg k10) (.ret))
theorem k12 : decFn Tryd.prog Tryd.f42 = some (5, [.t 2], k11) := by kernel_rfl
theorem k13 {args : List Value} {G : GH} {K : Value → GH → Prop} (hn : args.length ≤ 5) (h : gW Tryd.prog k11 (RetK [.t 2] K) (T0 args) G) : GC Tryd.prog 42 args G K := GC_intro mixed Tryd.func42 k12 hn h
abbrev k14 : List GOp := [oo 1 (.bx (tt 0)), oo 2 (.mv (.const (.string ByteArray.empty)))]
abbrev k15 : List GOp := [oo 6 (.ldn 2 (tt 1)), oo 7 (.call (ff 40) [tt 6]), oo 8 (.un .not (tt 7))]
abbrev k16 : List GOp := [oo 2 (.mv (.const (.string ByteArray.empty)))]
abbrev k17 : List GOp := [oo 3 (.alB 73 [.pointer none, .slice none 0 0])]
abbrev k18 : List GOp := [oo 9 (.fa 0 (tt 1)), oo 10 (.ld (tt 9)), oo 11 (.call (ff 42) [tt 10]), oo 12 (.call (ff 41) [tt 3, tt 11])]
abbrev k19 : List GOp := [oo 13 (.fa 1 (tt 1)), oo 14 (.ld (tt 13)), oo 15 (.len (tt 14)), oo 16 (.mv (ci 0))]
abbrev k1a : List GOp := [oo 17 (.bin .lss (tt 16) (tt 15))]
abbrev k1b : List GOp := [oo 18 (.ia 3 (tt 14) (tt 16)), oo 19 (.ldn 3 (tt 18)), oo 5 (.al [.int .i64 0, .int .i64 0, .int .i64 0]), on (.st 3 (tt 5) (tt 19))]
abbrev k1c : List DOp := [dl 0 (oo 20 (.fa 0 (tt 5))), dl 1 (oo 21 (.ld (tt 20))), dl 5 (oo 25 (.fa 1 (tt 5))), dl 6 (oo 26 (.ld (tt 25))), dl 10 (oo 30 (.fa 2 (tt 5))), dl 11 (oo 31 (.ld (tt 30))), dh 2 [11, 6] (oo 22 (.call (ff 42) [tt 21])), dl 3 (oo 23 (.bin .add (.const (.string ⟨#[32]⟩)) (tt 22))), dl 4 (oo 24 (.bin .add (tt 23) (.const (.string ⟨#[45]⟩)))), dh 7 [11, 1] (oo 27 (.call (ff 42) [tt 26])), dl 8 (oo 28 (.bin .add (tt 24) (tt 27))), dl 9 (oo 29 (.bin .add (tt 28) (.const (.string ⟨#[58]⟩)))), dh 12 [6, 1] (oo 32 (.call (ff 42) [tt 31])), dl 13 (oo 33 (.bin .add (tt 29) (tt 32))), dh 14 [11, 6, 1] (oo 34 (.call (ff 41) [tt 3, tt 33]))]
abbrev k1d : List GOp := [oo 35 (.bin .add (tt 16) (ci 1)), oo 16 (.mv (tt 35))]
abbrev k1e : GCode := .seq (.reg k1a) (.seq (.cond (tt 17) (.skip) (.exit 0)) (.seq (.blk 1 (.seq (.reg k1b) (.dreg k1c))) (.reg k1d)))
abbrev k1f : List GOp := [oo 36 (.call (ff 43) [tt 3]), oo 2 (.mv (tt 36))]
abbrev k1g : GCode := .seq (.reg k14) (.seq (.seq (.reg k15) (.cond (tt 8) (.seq (.reg k16) (.ret)) (.skip))) (.seq (.reg k17) (.seq (.reg k18) (.seq (.seq (.reg k19) (.blk 0 (.loop k1e))) (.seq (.reg k1f) (.ret))))))
theorem k1h : decFn Tryd.prog Tryd.f12 = some (37, [.t 2], k1g) := by kernel_rfl
theorem k1i {args : List Value} {G : GH} {K : Value → GH → Prop} (hn : args.length ≤ 37) (h : gW Tryd.prog k1g (RetK [.t 2] K) (T0 args) G) : GC Tryd.prog 12 args G K := GC_intro mixed Tryd.func12 k1h hn h
abbrev k1j : List GOp := [oo 1 (.bx (tt 0)), oo 2 (.mv (cb  false))]
abbrev k1k : List GOp := [oo 5 (.fa 1 (tt 1)), oo 6 (.ld (tt 5)), oo 7 (.len (tt 6)), oo 8 (.mv (ci 0))]
abbrev k1l : List GOp := [oo 9 (.bin .lss (tt 8) (tt 7))]
abbrev k1m : List GOp := [oo 10 (.mv (tt 8)), oo 11 (.ia 3 (tt 6) (tt 8)), oo 12 (.ldn 3 (tt 11)), oo 4 (.al [.int .i64 0, .int .i64 0, .int .i64 0]), oo 3 (.mv (tt 10)), on (.st 3 (tt 4) (tt 12))]
abbrev k1n : List DOp := [dl 0 (oo 13 (.fa 0 (tt 4))), dl 1 (oo 14 (.ld (tt 13))), dl 2 (oo 15 (.bin .lss (tt 14) (ci 0))), dl 3 (oo 16 (.mv (tt 15))), dl 4 (og 17 16 false (.fa 0 (tt 4))), dl 5 (og 18 16 false (.ld (tt 17))), dl 6 (og 19 16 false (.fa 1 (tt 4))), dl 7 (og 20 16 false (.ld (tt 19))), dl 8 (og 21 16 false (.bin .geq (tt 18) (tt 20))), dl 9 (oo 22 (.pick (tt 16) (cb  true) (tt 21))), dl 10 (oo 23 (.mv (tt 22))), dl 11 (og 24 23 false (.fa 1 (tt 4))), dl 12 (og 25 23 false (.ld (tt 24))), dl 13 (og 26 23 false (.fa 0 (tt 1))), dl 14 (og 27 23 false (.ld (tt 26))), dl 15 (og 28 23 false (.bin .geq (tt 25) (tt 27))), dl 16 (oo 29 (.pick (tt 23) (cb  true) (tt 28))), dl 17 (oo 30 (.mv (tt 29))), dl 18 (og 31 30 false (.fa 2 (tt 4))), dl 19 (og 32 30 false (.ld (tt 31))), dh 20 [14, 12, 7, 5, 1] (og 33 30 false (.call (ff 83) [tt 32, (ci 1), (ci 9)])), dl 21 (og 34 30 false (.un .not (tt 33))), dl 22 (oo 35 (.pick (tt 30) (cb  true) (tt 34))), dl 23 (oo 36 (.mv (tt 35))), dl 24 (og 37 36 false (.mv (tt 3))), dl 25 (og 38 36 false (.bin .gtr (tt 37) (ci 0))), dl 26 (og 39 36 false (.mv (tt 38))), dl 27 (og 40 39 true (.fa 1 (tt 1))), dl 28 (og 41 39 true (.ld (tt 40))), dl 29 (og 42 39 true (.mv (tt 3))), dl 30 (og 43 39 true (.bin .sub (tt 42) (ci 1))), dl 31 (og 44 39 true (.ia 3 (tt 41) (tt 43))), dl 32 (og 45 39 true (.ldn 3 (tt 44))), dl 33 (og 46 39 true (.ldn 3 (tt 4))), dh 34 [28, 19, 14, 12, 7, 5, 1] (og 47 39 true (.call (ff 84) [tt 45, tt 46])), dl 35 (og 48 39 true (.bin .geq (tt 47) (ci 0))), dl 36 (og 49 36 false (.pick (tt 39) (tt 48) (cb  false))), dl 37 (oo 50 (.pick (tt 36) (cb  true) (tt 49)))]
abbrev k1o : List GOp := [oo 2 (.mv (cb  false))]
abbrev k1p : List GOp := [oo 51 (.bin .add (tt 8) (ci 1)), oo 8 (.mv (tt 51))]
abbrev k1q : GCode := .seq (.reg k1l) (.seq (.cond (tt 9) (.skip) (.exit 0)) (.seq (.blk 1 (.seq (.reg k1m) (.seq (.dreg k1n) (.cond (tt 50) (.seq (.reg k1o) (.ret)) (.skip))))) (.reg k1p)))
abbrev k1r : List GOp := [oo 52 (.fa 0 (tt 1)), oo 53 (.ld (tt 52)), oo 54 (.call (ff 83) [tt 53, (ci 1), (ci 12)]), oo 55 (.mv (tt 54)), og 56 55 true (.fa 1 (tt 1)), og 57 55 true (.ld (tt 56)), og 58 55 true (.len (tt 57)), og 59 55 true (.bin .leq (tt 58) (ci 24)), oo 60 (.pick (tt 55) (tt 59) (cb  false)), oo 2 (.mv (tt 60))]
abbrev k1s : GCode := .seq (.reg k1j) (.seq (.seq (.reg k1k) (.blk 0 (.loop k1q))) (.seq (.reg k1r) (.ret)))
theorem k1t : decFn Tryd.prog Tryd.f40 = some (61, [.t 2], k1s) := by kernel_rfl
theorem k1u {args : List Value} {G : GH} {K : Value → GH → Prop} (hn : args.length ≤ 61) (h : gW Tryd.prog k1s (RetK [.t 2] K) (T0 args) G) : GC Tryd.prog 40 args G K := GC_intro mixed Tryd.func40 k1t hn h
abbrev k1v : List GOp := [oo 2 (.bx (tt 0)), oo 3 (.bx (tt 1)), oo 4 (.mv (ci 0))]
abbrev k1w : List DOp := [dl 0 (oo 5 (.fa 0 (tt 2))), dl 1 (oo 6 (.ld (tt 5))), dl 2 (oo 7 (.fa 0 (tt 3))), dl 3 (oo 8 (.ld (tt 7))), dl 5 (oo 10 (.fa 1 (tt 2))), dl 6 (oo 11 (.ld (tt 10))), dl 7 (oo 12 (.fa 1 (tt 3))), dl 8 (oo 13 (.ld (tt 12))), dh 4 [8, 6] (oo 9 (.call (ff 92) [tt 6, tt 8])), dh 9 [3, 1] (oo 14 (.call (ff 92) [tt 11, tt 13])), dh 10 [8, 6, 3, 1] (oo 15 (.bs 1 [tt 9, tt 14])), dh 11 [8, 6, 3, 1] (oo 16 (.call (ff 91) [tt 15])), dl 12 (oo 4 (.mv (tt 16)))]
abbrev k1x : GCode := .seq (.reg k1v) (.seq (.dreg k1w) (.ret))
theorem k1y : decFn Tryd.prog Tryd.f84 = some (17, [.t 4], k1x) := by kernel_rfl
theorem k1z {args : List Value} {G : GH} {K : Value → GH → Prop} (hn : args.length ≤ 17) (h : gW Tryd.prog k1x (RetK [.t 4] K) (T0 args) G) : GC Tryd.prog 84 args G K := GC_intro mixed Tryd.func84 k1y hn h
abbrev k20 : List GOp := [oo 6 (.mv (cb  false))]
abbrev k21 : List GOp := [oo 7 (.mv (tt 0)), oo 8 (.mv (tt 1)), oo 9 (.bin .geq (tt 7) (tt 8)), oo 10 (.mv (tt 9)), og 11 10 true (.mv (tt 0)), og 12 10 true (.mv (tt 2)), og 13 10 true (.bin .leq (tt 11) (tt 12)), oo 14 (.pick (tt 10) (tt 13) (cb  false)), oo 6 (.mv (tt 14))]
abbrev k22 : GCode := .seq (.reg k20) (.seq (.reg k21) (.ret))
theorem k23 : decFn Tryd.prog Tryd.f83 = some (15, [.t 6], k22) := by kernel_rfl
theorem k24 {args : List Value} {G : GH} {K : Value → GH → Prop} (hn : args.length ≤ 15) (h : gW Tryd.prog k22 (RetK [.t 6] K) (T0 args) G) : GC Tryd.prog 83 args G K := GC_intro mixed Tryd.func83 k23 hn h
abbrev k25 : List GOp := [oo 1 (.bx (tt 0)), oo 2 (.mv (cb  false))]
abbrev k26 : List GOp := [oo 3 (.mv (ci 1048576))]
abbrev k27 : List GOp := [oo 7 (.ldn 2 (tt 1)), oo 8 (.mv (tt 3)), oo 9 (.call (ff 9) [tt 7, tt 8]), oo 3 (.mv (tt 9))]
abbrev k28 : List GOp := [oo 10 (.mv (tt 3)), oo 11 (.bin .lss (tt 10) (ci 0))]
abbrev k29 : List GOp := [oo 2 (.mv (cb  true))]
abbrev k2a : List GOp := [oo 12 (.ldn 2 (tt 1)), oo 13 (.call (ff 11) [tt 12]), oo 14 (.call (ff 10) [tt 13]), oo 4 (.mv (tt 14))]
abbrev k2b : List GOp := [oo 15 (.ldn 2 (tt 1)), oo 16 (.call (ff 11) [tt 15]), oo 5 (.al [.int .i64 0, .slice none 0 0]), on (.st 2 (tt 5) (tt 16))]
abbrev k2c : List GOp := [oo 17 (.ldn 2 (tt 5)), oo 18 (.call (ff 12) [tt 17]), oo 6 (.mv (tt 18))]
abbrev k2d : List GOp := [oo 19 (.mv (tt 6)), oo 20 (.mv (tt 4)), oo 21 (.bin .neq (tt 19) (tt 20))]
abbrev k2e : List GOp := [oo 2 (.mv (cb  false))]
abbrev k2f : List DOp := [dl 0 (oo 22 (.ldn 2 (tt 5))), dl 1 (oo 23 (.ldn 2 (tt 1))), dh 2 [0] (oo 24 (.call (ff 11) [tt 23])), dh 3 [1] (oo 25 (.call (ff 13) [tt 22, tt 24])), dl 4 (oo 26 (.un .not (tt 25)))]
abbrev k2g : List GOp := [oo 2 (.mv (cb  false))]
abbrev k2h : List GOp := [oo 2 (.mv (cb  true))]
abbrev k2i : GCode := .seq (.reg k25) (.seq (.reg k26) (.seq (.reg k27) (.seq (.seq (.reg k28) (.cond (tt 11) (.seq (.reg k29) (.ret)) (.skip))) (.seq (.reg k2a) (.seq (.reg k2b) (.seq (.reg k2c) (.seq (.seq (.reg k2d) (.cond (tt 21) (.seq (.reg k2e) (.ret)) (.skip))) (.seq (.seq (.dreg k2f) (.cond (tt 26) (.seq (.reg k2g) (.ret)) (.skip))) (.seq (.reg k2h) (.ret))))))))))
theorem k2j : decFn Tryd.prog Tryd.f3 = some (27, [.t 2], k2i) := by kernel_rfl
theorem k2k {args : List Value} {G : GH} {K : Value → GH → Prop} (hn : args.length ≤ 27) (h : gW Tryd.prog k2i (RetK [.t 2] K) (T0 args) G) : GC Tryd.prog 3 args G K := GC_intro mixed Tryd.func3 k2j hn h
abbrev k2l : List GOp := [oo 2 (.bx (tt 0)), oo 3 (.bx (tt 1)), oo 4 (.mv (cb  false))]
abbrev k2m : List GOp := [oo 5 (.fa 0 (tt 2)), oo 6 (.ld (tt 5)), oo 7 (.fa 0 (tt 3)), oo 8 (.ld (tt 7)), oo 9 (.bin .neq (tt 6) (tt 8))]
abbrev k2n : List GOp := [oo 4 (.mv (cb  false))]
abbrev k2o : List GOp := [oo 10 (.fa 1 (tt 2)), oo 11 (.ld (tt 10)), oo 12 (.fa 1 (tt 3)), oo 13 (.ld (tt 12)), oo 14 (.bin .neq (tt 11) (tt 13))]
abbrev k2p : List GOp := [oo 4 (.mv (cb  false))]
abbrev k2q : List GOp := [oo 15 (.fa 2 (tt 2)), oo 16 (.ld (tt 15)), oo 17 (.fa 2 (tt 3)), oo 18 (.ld (tt 17)), oo 19 (.bin .neq (tt 16) (tt 18))]
abbrev k2r : List GOp := [oo 4 (.mv (cb  false))]
abbrev k2s : List GOp := [oo 4 (.mv (cb  true))]
abbrev k2t : GCode := .seq (.reg k2l) (.seq (.seq (.reg k2m) (.cond (tt 9) (.seq (.reg k2n) (.ret)) (.skip))) (.seq (.seq (.reg k2o) (.cond (tt 14) (.seq (.reg k2p) (.ret)) (.skip))) (.seq (.seq (.reg k2q) (.cond (tt 19) (.seq (.reg k2r) (.ret)) (.skip))) (.seq (.reg k2s) (.ret)))))
theorem k2u : decFn Tryd.prog Tryd.f87 = some (20, [.t 4], k2t) := by kernel_rfl
theorem k2v {args : List Value} {G : GH} {K : Value → GH → Prop} (hn : args.length ≤ 20) (h : gW Tryd.prog k2t (RetK [.t 4] K) (T0 args) G) : GC Tryd.prog 87 args G K := GC_intro mixed Tryd.func87 k2u hn h
abbrev k2w : List GOp := [oo 4 (.mv (cb  false))]
abbrev k2x : List GOp := [oo 6 (.mv (tt 0)), oo 7 (.len (tt 6)), oo 8 (.mv (tt 1)), oo 9 (.len (tt 8)), oo 10 (.bin .neq (tt 7) (tt 9))]
abbrev k2y : List GOp := [oo 4 (.mv (cb  false))]
abbrev k2z : List GOp := [oo 5 (.mv (ci 0))]
abbrev k30 : List GOp := [oo 11 (.mv (tt 5)), oo 12 (.mv (tt 0)), oo 13 (.len (tt 12)), oo 14 (.bin .lss (tt 11) (tt 13))]
abbrev k31 : List DOp := [dl 0 (oo 17 (.mv (tt 0))), dl 1 (oo 18 (.mv (tt 5))), dl 2 (oo 19 (.ia 3 (tt 17) (tt 18))), dl 3 (oo 20 (.ldn 3 (tt 19))), dl 4 (oo 21 (.mv (tt 1))), dl 5 (oo 22 (.mv (tt 5))), dl 6 (oo 23 (.ia 3 (tt 21) (tt 22))), dl 7 (oo 24 (.ldn 3 (tt 23))), dh 8 [] (oo 25 (.call (ff 87) [tt 20, tt 24])), dl 9 (oo 26 (.un .not (tt 25)))]
abbrev k32 : List GOp := [oo 4 (.mv (cb  false))]
abbrev k33 : List GOp := [oo 15 (.mv (tt 5)), oo 16 (.bin .add (tt 15) (ci 1)), oo 5 (.mv (tt 16))]
abbrev k34 : GCode := .seq (.seq (.reg k30) (.cond (tt 14) (.skip) (.exit 0))) (.seq (.blk 1 (.seq (.dreg k31) (.cond (tt 26) (.seq (.reg k32) (.ret)) (.skip)))) (.reg k33))
abbrev k35 : List GOp := [oo 4 (.mv (cb  true))]
abbrev k36 : GCode := .seq (.reg k2w) (.seq (.seq (.reg k2x) (.cond (tt 10) (.seq (.reg k2y) (.ret)) (.skip))) (.seq (.seq (.reg k2z) (.blk 0 (.loop k34))) (.seq (.reg k35) (.ret))))
theorem k37 : decFn Tryd.prog Tryd.f44 = some (27, [.t 4], k36) := by kernel_rfl
theorem k38 {args : List Value} {G : GH} {K : Value → GH → Prop} (hn : args.length ≤ 27) (h : gW Tryd.prog k36 (RetK [.t 4] K) (T0 args) G) : GC Tryd.prog 44 args G K := GC_intro mixed Tryd.func44 k37 hn h
abbrev k39 : List GOp := [oo 2 (.bx (tt 0)), oo 3 (.bx (tt 1)), oo 4 (.mv (cb  false))]
abbrev k3a : List GOp := [oo 5 (.fa 0 (tt 2)), oo 6 (.ld (tt 5)), oo 7 (.fa 0 (tt 3)), oo 8 (.ld (tt 7)), oo 9 (.bin .neq (tt 6) (tt 8))]
abbrev k3b : List GOp := [oo 4 (.mv (cb  false))]
abbrev k3c : List GOp := [oo 10 (.fa 1 (tt 2)), oo 11 (.ld (tt 10)), oo 12 (.fa 1 (tt 3)), oo 13 (.ld (tt 12)), oo 14 (.call (ff 44) [tt 11, tt 13]), oo 15 (.un .not (tt 14))]
abbrev k3d : List GOp := [oo 4 (.mv (cb  false))]
abbrev k3e : List GOp := [oo 4 (.mv (cb  true))]
abbrev k3f : GCode := .seq (.reg k39) (.seq (.seq (.reg k3a) (.cond (tt 9) (.seq (.reg k3b) (.ret)) (.skip))) (.seq (.seq (.reg k3c) (.cond (tt 15) (.seq (.reg k3d) (.ret)) (.skip))) (.seq (.reg k3e) (.ret))))
theorem k3g : decFn Tryd.prog Tryd.f13 = some (16, [.t 4], k3f) := by kernel_rfl
theorem k3h {args : List Value} {G : GH} {K : Value → GH → Prop} (hn : args.length ≤ 16) (h : gW Tryd.prog k3f (RetK [.t 4] K) (T0 args) G) : GC Tryd.prog 13 args G K := GC_intro mixed Tryd.func13 k3g hn h
abbrev k3i : List GOp := [oo 4 (.mv (ci 0))]
abbrev k3j : List GOp := [oo 5 (.mv (tt 1)), oo 6 (.mv (tt 0)), oo 7 (.len (tt 6)), oo 8 (.bin .sub (tt 5) (tt 7)), oo 1 (.mv (tt 8))]
abbrev k3k : List GOp := [oo 9 (.mv (tt 1)), oo 10 (.bin .lss (tt 9) (ci 0))]
abbrev k3l : List GOp := [oo 4 (.mv (ci (-1)))]
abbrev k3m : List GOp := [oo 11 (.mv (tt 1)), oo 4 (.mv (tt 11))]
abbrev k3n : GCode := .seq (.reg k3i) (.seq (.reg k3j) (.seq (.seq (.reg k3k) (.cond (tt 10) (.seq (.reg k3l) (.ret)) (.skip))) (.seq (.reg k3m) (.ret))))
theorem k3o : decFn Tryd.prog Tryd.f36 = some (12, [.t 4], k3n) := by kernel_rfl
theorem k3p {args : List Value} {G : GH} {K : Value → GH → Prop} (hn : args.length ≤ 12) (h : gW Tryd.prog k3n (RetK [.t 4] K) (T0 args) G) : GC Tryd.prog 36 args G K := GC_intro mixed Tryd.func36 k3o hn h
abbrev k3q : List GOp := [oo 2 (.bx (tt 0)), oo 4 (.mv (ci 0))]
abbrev k3r : List GOp := [oo 5 (.fa 1 (tt 2)), oo 6 (.ld (tt 5)), oo 7 (.mv (tt 1)), oo 8 (.call (ff 36) [tt 6, tt 7]), oo 1 (.mv (tt 8))]
abbrev k3s : List GOp := [oo 9 (.mv (tt 1)), oo 10 (.bin .lss (tt 9) (ci 0))]
abbrev k3t : List GOp := [oo 4 (.mv (ci (-1)))]
abbrev k3u : List GOp := [oo 11 (.mv (tt 1)), oo 4 (.mv (tt 11))]
abbrev k3v : GCode := .seq (.reg k3q) (.seq (.reg k3r) (.seq (.seq (.reg k3s) (.cond (tt 10) (.seq (.reg k3t) (.ret)) (.skip))) (.seq (.reg k3u) (.ret))))
theorem k3w : decFn Tryd.prog Tryd.f9 = some (12, [.t 4], k3v) := by kernel_rfl
theorem k3x {args : List Value} {G : GH} {K : Value → GH → Prop} (hn : args.length ≤ 12) (h : gW Tryd.prog k3v (RetK [.t 4] K) (T0 args) G) : GC Tryd.prog 9 args G K := GC_intro mixed Tryd.func9 k3w hn h
abbrev k3y : List GOp := [oo 1 (.bx (tt 0)), oo 2 (.al [.int .i64 0, .int .i64 0, .int .i64 0])]
abbrev k3z : List GOp := [oo 3 (.al [.int .i64 0, .int .i64 0, .int .i64 0])]
abbrev k40 : List GOp := [oo 4 (.fa 0 (tt 1)), oo 5 (.ld (tt 4)), oo 6 (.fa 0 (tt 3)), on (.st 1 (tt 6) (tt 5))]
abbrev k41 : List GOp := [oo 7 (.fa 1 (tt 1)), oo 8 (.ld (tt 7)), oo 9 (.fa 1 (tt 3)), on (.st 1 (tt 9) (tt 8))]
abbrev k42 : List GOp := [oo 10 (.fa 2 (tt 1)), oo 11 (.ld (tt 10)), oo 12 (.fa 2 (tt 3)), on (.st 1 (tt 12) (tt 11))]
abbrev k43 : List GOp := [oo 13 (.ldn 3 (tt 3)), on (.st 3 (tt 2) (tt 13))]
abbrev k44 : GCode := .seq (.reg k3y) (.seq (.reg k3z) (.seq (.reg k40) (.seq (.reg k41) (.seq (.reg k42) (.seq (.reg k43) (.ret))))))
theorem k45 : decFn Tryd.prog Tryd.f82 = some (14, [.cn 2 3], k44) := by kernel_rfl
theorem k46 {args : List Value} {G : GH} {K : Value → GH → Prop} (hn : args.length ≤ 14) (h : gW Tryd.prog k44 (RetK [.cn 2 3] K) (T0 args) G) : GC Tryd.prog 82 args G K := GC_intro mixed Tryd.func82 k45 hn h
abbrev k47 : List GOp := [oo 2 (.mv (.const (.slice none 0 0)))]
abbrev k48 : List GOp := [oo 5 (.mv (tt 0)), oo 6 (.len (tt 5)), oo 7 (.mk 3 24 [.int .i64 0, .int .i64 0, .int .i64 0] (tt 6) (tt 6)), oo 3 (.mv (tt 7))]
abbrev k49 : List GOp := [oo 4 (.mv (ci 0))]
abbrev k4a : List GOp := [oo 8 (.mv (tt 4)), oo 9 (.mv (tt 0)), oo 10 (.len (tt 9)), oo 11 (.bin .lss (tt 8) (tt 10))]
abbrev k4b : List GOp := [oo 14 (.mv (tt 3)), oo 15 (.mv (tt 4)), oo 16 (.mv (tt 0)), oo 17 (.mv (tt 4)), oo 18 (.ia 3 (tt 16) (tt 17)), oo 19 (.ldn 3 (tt 18)), oo 20 (.call (ff 82) [tt 19]), oo 21 (.ia 3 (tt 14) (tt 15)), on (.st 3 (tt 21) (tt 20))]
abbrev k4c : List GOp := [oo 12 (.mv (tt 4)), oo 13 (.bin .add (tt 12) (ci 1)), oo 4 (.mv (tt 13))]
abbrev k4d : GCode := .seq (.seq (.reg k4a) (.cond (tt 11) (.skip) (.exit 0))) (.seq (.blk 1 (.reg k4b)) (.reg k4c))
abbrev k4e : List GOp := [oo 22 (.mv (tt 3)), oo 2 (.mv (tt 22))]
abbrev k4f : GCode := .seq (.reg k47) (.seq (.reg k48) (.seq (.seq (.reg k49) (.blk 0 (.loop k4d))) (.seq (.reg k4e) (.ret))))
theorem k4g : decFn Tryd.prog Tryd.f39 = some (23, [.t 2], k4f) := by kernel_rfl
theorem k4h {args : List Value} {G : GH} {K : Value → GH → Prop} (hn : args.length ≤ 23) (h : gW Tryd.prog k4f (RetK [.t 2] K) (T0 args) G) : GC Tryd.prog 39 args G K := GC_intro mixed Tryd.func39 k4g hn h
abbrev k4i : List GOp := [oo 1 (.bx (tt 0)), oo 2 (.al [.int .i64 0, .slice none 0 0])]
abbrev k4j : List GOp := [oo 3 (.al [.int .i64 0, .slice none 0 0])]
abbrev k4k : List GOp := [oo 4 (.fa 0 (tt 1)), oo 5 (.ld (tt 4)), oo 6 (.fa 0 (tt 3)), on (.st 1 (tt 6) (tt 5))]
abbrev k4l : List GOp := [oo 7 (.fa 1 (tt 1)), oo 8 (.ld (tt 7)), oo 9 (.call (ff 39) [tt 8]), oo 10 (.fa 1 (tt 3)), on (.st 1 (tt 10) (tt 9))]
abbrev k4m : List GOp := [oo 11 (.ldn 2 (tt 3)), on (.st 2 (tt 2) (tt 11))]
abbrev k4n : GCode := .seq (.reg k4i) (.seq (.reg k4j) (.seq (.reg k4k) (.seq (.reg k4l) (.seq (.reg k4m) (.ret)))))
theorem k4o : decFn Tryd.prog Tryd.f11 = some (12, [.cn 2 2], k4n) := by kernel_rfl
theorem k4p {args : List Value} {G : GH} {K : Value → GH → Prop} (hn : args.length ≤ 12) (h : gW Tryd.prog k4n (RetK [.cn 2 2] K) (T0 args) G) : GC Tryd.prog 11 args G K := GC_intro mixed Tryd.func11 k4o hn h
abbrev k4q : List GOp := [oo 1 (.bx (tt 0)), oo 2 (.mv (.const (.string ByteArray.empty)))]
abbrev k4r : List GOp := [oo 3 (.call (ff 37) [tt 1]), oo 4 (.un .not (tt 3))]
abbrev k4s : List GOp := [oo 2 (.mv (.const (.string ByteArray.empty)))]
abbrev k4t : List GOp := [oo 5 (.call (ff 38) [tt 1]), oo 2 (.mv (tt 5))]
abbrev k4u : GCode := .seq (.reg k4q) (.seq (.seq (.reg k4r) (.cond (tt 4) (.seq (.reg k4s) (.ret)) (.skip))) (.seq (.reg k4t) (.ret)))
theorem k4v : decFn Tryd.prog Tryd.f10 = some (6, [.t 2], k4u) := by kernel_rfl
theorem k4w {args : List Value} {G : GH} {K : Value → GH → Prop} (hn : args.length ≤ 6) (h : gW Tryd.prog k4u (RetK [.t 2] K) (T0 args) G) : GC Tryd.prog 10 args G K := GC_intro mixed Tryd.func10 k4v hn h
abbrev k4x : List GOp := [oo 6 (.mv (cb  false))]
abbrev k4y : List GOp := [oo 7 (.mv (tt 0)), oo 8 (.mv (tt 1)), oo 9 (.bin .geq (tt 7) (tt 8)), oo 10 (.mv (tt 9)), og 11 10 true (.mv (tt 0)), og 12 10 true (.mv (tt 2)), og 13 10 true (.bin .leq (tt 11) (tt 12)), oo 14 (.pick (tt 10) (tt 13) (cb  false)), oo 6 (.mv (tt 14))]
abbrev k4z : GCode := .seq (.reg k4x) (.seq (.reg k4y) (.ret))
theorem k50 : decFn Tryd.prog Tryd.f80 = some (15, [.t 6], k4z) := by kernel_rfl
theorem k51 {args : List Value} {G : GH} {K : Value → GH → Prop} (hn : args.length ≤ 15) (h : gW Tryd.prog k4z (RetK [.t 6] K) (T0 args) G) : GC Tryd.prog 80 args G K := GC_intro mixed Tryd.func80 k50 hn h
abbrev k52 : List GOp := [oo 2 (.mv (.const (.string ByteArray.empty)))]
abbrev k53 : List GOp := [oo 8 (.mv (tt 0)), oo 9 (.bin .eql (tt 8) (ci 0))]
abbrev k54 : List GOp := [oo 2 (.mv (.const (.string ⟨#[48]⟩)))]
abbrev k55 : List GOp := [oo 10 (.bs 1 []), oo 3 (.mv (tt 10))]
abbrev k56 : List GOp := [oo 11 (.mv (tt 0)), oo 4 (.mv (tt 11))]
abbrev k57 : List GOp := [oo 12 (.mv (tt 4)), oo 13 (.bin .neq (tt 12) (ci 0))]
abbrev k58 : List GOp := [oo 16 (.mv (tt 4)), oo 17 (.bin .rem (tt 16) (ci 10)), oo 5 (.mv (tt 17))]
abbrev k59 : List GOp := [oo 18 (.mv (tt 5)), oo 19 (.bin .lss (tt 18) (ci 0))]
abbrev k5a : List GOp := [oo 20 (.mv (tt 5)), oo 21 (.un .neg (tt 20)), oo 5 (.mv (tt 21))]
abbrev k5b : List GOp := [oo 22 (.mv (tt 3)), oo 23 (.mv (tt 5)), oo 24 (.bin .add (ci 48) (tt 23)), oo 25 (.cvi .u8 (tt 24)), oo 26 (.bs 1 [tt 25]), oo 27 (.ap 1 1 [.int .u8 0] (tt 22) (tt 26)), oo 3 (.mv (tt 27))]
abbrev k5c : List GOp := [oo 14 (.mv (tt 4)), oo 15 (.bin .quo (tt 14) (ci 10)), oo 4 (.mv (tt 15))]
abbrev k5d : GCode := .seq (.seq (.reg k57) (.cond (tt 13) (.skip) (.exit 0))) (.seq (.blk 1 (.seq (.reg k58) (.seq (.seq (.reg k59) (.cond (tt 19) (.reg k5a) (.skip))) (.reg k5b)))) (.reg k5c))
abbrev k5e : List GOp := [oo 28 (.mv (tt 0)), oo 29 (.bin .lss (tt 28) (ci 0))]
abbrev k5f : List GOp := [oo 30 (.mv (tt 3)), oo 31 (.bs 1 [(.const (.int .u8 45))]), oo 32 (.ap 1 1 [.int .u8 0] (tt 30) (tt 31)), oo 3 (.mv (tt 32))]
abbrev k5g : List GOp := [oo 33 (.bs 1 []), oo 6 (.mv (tt 33))]
abbrev k5h : List GOp := [oo 34 (.mv (tt 3)), oo 35 (.len (tt 34)), oo 36 (.bin .sub (tt 35) (ci 1)), oo 7 (.mv (tt 36))]
abbrev k5i : List GOp := [oo 37 (.mv (tt 7)), oo 38 (.bin .geq (tt 37) (ci 0))]
abbrev k5j : List GOp := [oo 41 (.mv (tt 6)), oo 42 (.mv (tt 3)), oo 43 (.mv (tt 7)), oo 44 (.ia 1 (tt 42) (tt 43)), oo 45 (.ld (tt 44)), oo 46 (.bs 1 [tt 45]), oo 47 (.ap 1 1 [.int .u8 0] (tt 41) (tt 46)), oo 6 (.mv (tt 47))]
abbrev k5k : List GOp := [oo 39 (.mv (tt 7)), oo 40 (.bin .sub (tt 39) (ci 1)), oo 7 (.mv (tt 40))]
abbrev k5l : GCode := .seq (.seq (.reg k5i) (.cond (tt 38) (.skip) (.exit 2))) (.seq (.blk 3 (.reg k5j)) (.reg k5k))
abbrev k5m : List GOp := [oo 48 (.mv (tt 6)), oo 49 (.b2s (tt 48)), oo 2 (.mv (tt 49))]
abbrev k5n : GCode := .seq (.reg k52) (.seq (.seq (.reg k53) (.cond (tt 9) (.seq (.reg k54) (.ret)) (.skip))) (.seq (.reg k55) (.seq (.seq (.reg k56) (.blk 0 (.loop k5d))) (.seq (.seq (.reg k5e) (.cond (tt 29) (.reg k5f) (.skip))) (.seq (.reg k5g) (.seq (.seq (.reg k5h) (.blk 2 (.loop k5l))) (.seq (.reg k5m) (.ret))))))))
theorem k5o : decFn Tryd.prog Tryd.f81 = some (50, [.t 2], k5n) := by kernel_rfl
theorem k5p {args : List Value} {G : GH} {K : Value → GH → Prop} (hn : args.length ≤ 50) (h : gW Tryd.prog k5n (RetK [.t 2] K) (T0 args) G) : GC Tryd.prog 81 args G K := GC_intro mixed Tryd.func81 k5o hn h
abbrev k5q : List GOp := [oo 2 (.mv (cb  false))]
abbrev k5r : List GOp := [oo 5 (.mv (tt 0)), oo 6 (.nc (tt 5)), oo 7 (.fa 0 (tt 6)), oo 8 (.ld (tt 7)), oo 9 (.call (ff 80) [tt 8, (ci 1), (ci 12)]), oo 10 (.un .not (tt 9))]
abbrev k5s : List GOp := [oo 2 (.mv (cb  false))]
abbrev k5t : List GOp := [oo 3 (.mv (ci 0))]
abbrev k5u : List GOp := [oo 11 (.mv (tt 3)), oo 12 (.mv (tt 0)), oo 13 (.nc (tt 12)), oo 14 (.fa 1 (tt 13)), oo 15 (.ld (tt 14)), oo 16 (.len (tt 15)), oo 17 (.bin .lss (tt 11) (tt 16))]
abbrev k5v : List GOp := [oo 20 (.mv (tt 0)), oo 21 (.nc (tt 20)), oo 22 (.fa 1 (tt 21)), oo 23 (.ld (tt 22)), oo 24 (.mv (tt 3)), oo 25 (.ia 3 (tt 23) (tt 24)), oo 26 (.ldn 3 (tt 25)), oo 4 (.al [.int .i64 0, .int .i64 0, .int .i64 0]), on (.st 3 (tt 4) (tt 26))]
abbrev k5w : List DOp := [dl 0 (oo 27 (.fa 1 (tt 4))), dl 1 (oo 28 (.ld (tt 27))), dl 2 (oo 29 (.mv (tt 0))), dl 3 (oo 30 (.nc (tt 29))), dl 4 (oo 31 (.fa 0 (tt 30))), dl 5 (oo 32 (.ld (tt 31))), dl 6 (oo 33 (.bin .sub (tt 32) (ci 1))), dh 7 [5] (oo 34 (.call (ff 80) [tt 28, (ci 0), tt 33])), dl 8 (oo 35 (.un .not (tt 34))), dl 9 (oo 36 (.mv (tt 35))), dl 10 (og 37 36 false (.fa 0 (tt 4))), dl 11 (og 38 36 false (.ld (tt 37))), dl 12 (og 39 36 false (.fa 1 (tt 4))), dl 13 (og 40 36 false (.ld (tt 39))), dl 14 (og 41 36 false (.bin .sub (tt 40) (ci 1))), dh 15 [13, 5, 1] (og 42 36 false (.call (ff 80) [tt 38, (ci 0), tt 41])), dl 16 (og 43 36 false (.un .not (tt 42))), dl 17 (oo 44 (.pick (tt 36) (cb  true) (tt 43))), dl 18 (oo 45 (.mv (tt 44))), dl 19 (og 46 45 false (.fa 2 (tt 4))), dl 20 (og 47 45 false (.ld (tt 46))), dh 21 [13, 11, 5, 1] (og 48 45 false (.call (ff 80) [tt 47, (ci 1), (ci 9)])), dl 22 (og 49 45 false (.un .not (tt 48))), dl 23 (oo 50 (.pick (tt 45) (cb  true) (tt 49)))]
abbrev k5x : List GOp := [oo 2 (.mv (cb  false))]
abbrev k5y : List DOp := [dl 0 (oo 51 (.mv (tt 3))), dl 1 (oo 52 (.bin .gtr (tt 51) (ci 0))), dl 2 (oo 53 (.mv (tt 52))), dl 3 (og 54 53 true (.mv (tt 0))), dl 4 (og 55 53 true (.nc (tt 54))), dl 5 (og 56 53 true (.fa 1 (tt 55))), dl 6 (og 57 53 true (.ld (tt 56))), dl 7 (og 58 53 true (.mv (tt 3))), dl 8 (og 59 53 true (.bin .sub (tt 58) (ci 1))), dl 9 (og 60 53 true (.ia 3 (tt 57) (tt 59))), dl 10 (og 61 53 true (.fa 0 (tt 60))), dl 11 (og 62 53 true (.ld (tt 61))), dl 12 (og 63 53 true (.fa 0 (tt 4))), dl 13 (og 64 53 true (.ld (tt 63))), dl 14 (og 65 53 true (.bin .gtr (tt 62) (tt 64))), dl 15 (og 66 53 true (.mv (tt 65))), dl 16 (og 67 66 false (.mv (tt 0))), dl 17 (og 68 66 false (.nc (tt 67))), dl 18 (og 69 66 false (.fa 1 (tt 68))), dl 19 (og 70 66 false (.ld (tt 69))), dl 20 (og 71 66 false (.mv (tt 3))), dl 21 (og 72 66 false (.bin .sub (tt 71) (ci 1))), dl 22 (og 73 66 false (.ia 3 (tt 70) (tt 72))), dl 23 (og 74 66 false (.fa 0 (tt 73))), dl 24 (og 75 66 false (.ld (tt 74))), dl 25 (og 76 66 false (.fa 0 (tt 4))), dl 26 (og 77 66 false (.ld (tt 76))), dl 27 (og 78 66 false (.bin .eql (tt 75) (tt 77))), dl 28 (og 79 66 false (.mv (tt 78))), dl 29 (og 80 79 true (.mv (tt 0))), dl 30 (og 81 79 true (.nc (tt 80))), dl 31 (og 82 79 true (.fa 1 (tt 81))), dl 32 (og 83 79 true (.ld (tt 82))), dl 33 (og 84 79 true (.mv (tt 3))), dl 34 (og 85 79 true (.bin .sub (tt 84) (ci 1))), dl 35 (og 86 79 true (.ia 3 (tt 83) (tt 85))), dl 36 (og 87 79 true (.fa 1 (tt 86))), dl 37 (og 88 79 true (.ld (tt 87))), dl 38 (og 89 79 true (.fa 1 (tt 4))), dl 39 (og 90 79 true (.ld (tt 89))), dl 40 (og 91 79 true (.bin .geq (tt 88) (tt 90))), dl 41 (og 92 66 false (.pick (tt 79) (tt 91) (cb  false))), dl 42 (og 93 53 true (.pick (tt 66) (cb  true) (tt 92))), dl 43 (oo 94 (.pick (tt 53) (tt 93) (cb  false)))]
abbrev k5z : List GOp := [oo 2 (.mv (cb  false))]
abbrev k60 : List GOp := [oo 18 (.mv (tt 3)), oo 19 (.bin .add (tt 18) (ci 1)), oo 3 (.mv (tt 19))]
abbrev k61 : GCode := .seq (.seq (.reg k5u) (.cond (tt 17) (.skip) (.exit 0))) (.seq (.blk 1 (.seq (.reg k5v) (.seq (.seq (.dreg k5w) (.cond (tt 50) (.seq (.reg k5x) (.ret)) (.skip))) (.seq (.dreg k5y) (.cond (tt 94) (.seq (.reg k5z) (.ret)) (.skip)))))) (.reg k60))
abbrev k62 : List GOp := [oo 95 (.mv (tt 0)), oo 96 (.nc (tt 95)), oo 97 (.fa 1 (tt 96)), oo 98 (.ld (tt 97)), oo 99 (.len (tt 98)), oo 100 (.bin .leq (tt 99) (ci 24)), oo 2 (.mv (tt 100))]
abbrev k63 : GCode := .seq (.reg k5q) (.seq (.seq (.reg k5r) (.cond (tt 10) (.seq (.reg k5s) (.ret)) (.skip))) (.seq (.seq (.reg k5t) (.blk 0 (.loop k61))) (.seq (.reg k62) (.ret))))
theorem k64 : decFn Tryd.prog Tryd.f37 = some (101, [.t 2], k63) := by kernel_rfl
theorem k65 {args : List Value} {G : GH} {K : Value → GH → Prop} (hn : args.length ≤ 101) (h : gW Tryd.prog k63 (RetK [.t 2] K) (T0 args) G) : GC Tryd.prog 37 args G K := GC_intro mixed Tryd.func37 k64 hn h
abbrev k66 : List GOp := [oo 2 (.mv (.const (.string ByteArray.empty)))]
abbrev k67 : List GOp := [oo 6 (.mv (tt 0)), oo 7 (.nc (tt 6)), oo 8 (.fa 0 (tt 7)), oo 9 (.ld (tt 8)), oo 10 (.call (ff 81) [tt 9]), oo 3 (.mv (tt 10))]
abbrev k68 : List GOp := [oo 4 (.mv (ci 0))]
abbrev k69 : List GOp := [oo 11 (.mv (tt 4)), oo 12 (.mv (tt 0)), oo 13 (.nc (tt 12)), oo 14 (.fa 1 (tt 13)), oo 15 (.ld (tt 14)), oo 16 (.len (tt 15)), oo 17 (.bin .lss (tt 11) (tt 16))]
abbrev k6a : List GOp := [oo 20 (.mv (tt 0)), oo 21 (.nc (tt 20)), oo 22 (.fa 1 (tt 21)), oo 23 (.ld (tt 22)), oo 24 (.mv (tt 4)), oo 25 (.ia 3 (tt 23) (tt 24)), oo 26 (.ldn 3 (tt 25)), oo 5 (.al [.int .i64 0, .int .i64 0, .int .i64 0]), on (.st 3 (tt 5) (tt 26))]
abbrev k6b : List DOp := [dl 0 (oo 27 (.mv (tt 3))), dl 1 (oo 28 (.fa 0 (tt 5))), dl 2 (oo 29 (.ld (tt 28))), dl 6 (oo 33 (.fa 1 (tt 5))), dl 7 (oo 34 (.ld (tt 33))), dl 11 (oo 38 (.fa 2 (tt 5))), dl 12 (oo 39 (.ld (tt 38))), dh 3 [12, 7] (oo 30 (.call (ff 81) [tt 29])), dl 4 (oo 31 (.bin .add (.const (.string ⟨#[32]⟩)) (tt 30))), dl 5 (oo 32 (.bin .add (tt 31) (.const (.string ⟨#[45]⟩)))), dh 8 [12, 2] (oo 35 (.call (ff 81) [tt 34])), dl 9 (oo 36 (.bin .add (tt 32) (tt 35))), dl 10 (oo 37 (.bin .add (tt 36) (.const (.string ⟨#[58]⟩)))), dh 13 [7, 2] (oo 40 (.call (ff 81) [tt 39])), dl 14 (oo 41 (.bin .add (tt 37) (tt 40))), dl 15 (oo 42 (.bin .add (tt 27) (tt 41))), dl 16 (oo 3 (.mv (tt 42)))]
abbrev k6c : List GOp := [oo 18 (.mv (tt 4)), oo 19 (.bin .add (tt 18) (ci 1)), oo 4 (.mv (tt 19))]
abbrev k6d : GCode := .seq (.seq (.reg k69) (.cond (tt 17) (.skip) (.exit 0))) (.seq (.blk 1 (.seq (.reg k6a) (.dreg k6b))) (.reg k6c))
abbrev k6e : List GOp := [oo 43 (.mv (tt 3)), oo 2 (.mv (tt 43))]
abbrev k6f : GCode := .seq (.reg k66) (.seq (.reg k67) (.seq (.seq (.reg k68) (.blk 0 (.loop k6d))) (.seq (.reg k6e) (.ret))))
theorem k6g : decFn Tryd.prog Tryd.f38 = some (44, [.t 2], k6f) := by kernel_rfl
theorem k6h {args : List Value} {G : GH} {K : Value → GH → Prop} (hn : args.length ≤ 44) (h : gW Tryd.prog k6f (RetK [.t 2] K) (T0 args) G) : GC Tryd.prog 38 args G K := GC_intro mixed Tryd.func38 k6g hn h

end Go.Proofs.YtnaoeggecibkmaaDoor.Gh
