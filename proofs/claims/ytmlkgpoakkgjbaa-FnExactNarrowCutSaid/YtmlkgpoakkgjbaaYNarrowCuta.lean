/- Code trees that the law NarrowCut reaches: each is what the decoding gives (checked by the kernel). -/
import Derived.Test.YtmlkgpoakkgjbaaC0
import Derived.Test.YtmlkgpoakkgjbaaFm
import Derived.Test.YtmlkgpoakkgjbaaFz
namespace Go.Proofs.Ytmlkgpoakkgjbaa.Gh
open Go Go.RowKit Go.Proofs
set_option linter.unusedVariables false
set_option linter.unusedSimpArgs false
set_option maxHeartbeats 4000000

abbrev c_cmp_Compare_int64_0 : List GOp := [oo 4 (.mv (ci 0))]
abbrev c_cmp_Compare_int64_1 : List GOp := [oo 7 (.mv (tt 0)), oo 8 (.call (ff 248) [tt 7]), oo 5 (.mv (tt 8))]
abbrev c_cmp_Compare_int64_2 : List GOp := [oo 9 (.mv (tt 1)), oo 10 (.call (ff 248) [tt 9]), oo 6 (.mv (tt 10))]
abbrev c_cmp_Compare_int64_3 : List GOp := [oo 11 (.mv (tt 5))]
abbrev c_cmp_Compare_int64_4 : List GOp := [oo 12 (.mv (tt 6))]
abbrev c_cmp_Compare_int64_5 : List GOp := [oo 4 (.mv (ci 0))]
abbrev c_cmp_Compare_int64_6 : List GOp := [oo 4 (.mv (ci (-1)))]
abbrev c_cmp_Compare_int64_7 : List GOp := [oo 13 (.mv (tt 6))]
abbrev c_cmp_Compare_int64_8 : List GOp := [oo 4 (.mv (ci 1))]
abbrev c_cmp_Compare_int64_9 : List GOp := [oo 14 (.mv (tt 0)), oo 15 (.mv (tt 1)), oo 16 (.bin .lss (tt 14) (tt 15))]
abbrev c_cmp_Compare_int64_10 : List GOp := [oo 4 (.mv (ci (-1)))]
abbrev c_cmp_Compare_int64_11 : List GOp := [oo 17 (.mv (tt 0)), oo 18 (.mv (tt 1)), oo 19 (.bin .gtr (tt 17) (tt 18))]
abbrev c_cmp_Compare_int64_12 : List GOp := [oo 4 (.mv (ci 1))]
abbrev c_cmp_Compare_int64_13 : List GOp := [oo 4 (.mv (ci 0))]
abbrev c_cmp_Compare_int64 : GCode := .seq (.reg c_cmp_Compare_int64_0) (.seq (.reg c_cmp_Compare_int64_1) (.seq (.reg c_cmp_Compare_int64_2) (.seq (.seq (.reg c_cmp_Compare_int64_3) (.cond (tt 11) (.seq (.seq (.reg c_cmp_Compare_int64_4) (.cond (tt 12) (.seq (.reg c_cmp_Compare_int64_5) (.ret)) (.skip))) (.seq (.reg c_cmp_Compare_int64_6) (.ret))) (.skip))) (.seq (.seq (.reg c_cmp_Compare_int64_7) (.cond (tt 13) (.seq (.reg c_cmp_Compare_int64_8) (.ret)) (.skip))) (.seq (.seq (.reg c_cmp_Compare_int64_9) (.cond (tt 16) (.seq (.reg c_cmp_Compare_int64_10) (.ret)) (.skip))) (.seq (.seq (.reg c_cmp_Compare_int64_11) (.cond (tt 19) (.seq (.reg c_cmp_Compare_int64_12) (.ret)) (.skip))) (.seq (.reg c_cmp_Compare_int64_13) (.ret))))))))
theorem c_cmp_Compare_int64_d : decFn Try.prog Try.f218 = some (20, [.t 4], c_cmp_Compare_int64) := by kernel_rfl
theorem c_cmp_Compare_int64_i {args : List Value} {G : GH} {K : Value → GH → Prop} (hn : args.length ≤ 20) (h : gW Try.prog c_cmp_Compare_int64 (RetK [.t 4] K) (T0 args) G) : GC Try.prog 218 args G K := GC_intro mixed Try.func218 c_cmp_Compare_int64_d hn h
abbrev c_cmp_Less_int64_0 : List GOp := [oo 4 (.mv (cb  false))]
abbrev c_cmp_Less_int64_1 : List GOp := [oo 5 (.mv (tt 0)), oo 6 (.call (ff 248) [tt 5]), oo 7 (.mv (tt 6)), og 8 7 true (.mv (tt 1)), og 9 7 true (.call (ff 248) [tt 8]), og 10 7 true (.un .not (tt 9)), oo 11 (.pick (tt 7) (tt 10) (cb  false)), oo 12 (.mv (tt 11)), og 13 12 false (.mv (tt 0)), og 14 12 false (.mv (tt 1)), og 15 12 false (.bin .lss (tt 13) (tt 14)), oo 16 (.pick (tt 12) (cb  true) (tt 15)), oo 4 (.mv (tt 16))]
abbrev c_cmp_Less_int64 : GCode := .seq (.reg c_cmp_Less_int64_0) (.seq (.reg c_cmp_Less_int64_1) (.ret))
theorem c_cmp_Less_int64_d : decFn Try.prog Try.f270 = some (17, [.t 4], c_cmp_Less_int64) := by kernel_rfl
theorem c_cmp_Less_int64_i {args : List Value} {G : GH} {K : Value → GH → Prop} (hn : args.length ≤ 17) (h : gW Try.prog c_cmp_Less_int64 (RetK [.t 4] K) (T0 args) G) : GC Try.prog 270 args G K := GC_intro mixed Try.func270 c_cmp_Less_int64_d hn h
abbrev c_cmp_Or_int_0 : List GOp := [oo 2 (.mv (ci 0))]
abbrev c_cmp_Or_int_1 : List GOp := [oo 3 (.mv (ci 0))]
abbrev c_cmp_Or_int_2 : List GOp := [oo 6 (.mv (tt 0)), oo 7 (.len (tt 6)), oo 8 (.mv (ci 0))]
abbrev c_cmp_Or_int_3 : List GOp := [oo 9 (.bin .lss (tt 8) (tt 7))]
abbrev c_cmp_Or_int_4 : List GOp := [oo 10 (.ia 1 (tt 6) (tt 8)), oo 11 (.ld (tt 10)), oo 5 (.mv (tt 11))]
abbrev c_cmp_Or_int_5 : List GOp := [oo 12 (.mv (tt 5)), oo 13 (.mv (tt 3)), oo 14 (.bin .neq (tt 12) (tt 13))]
abbrev c_cmp_Or_int_6 : List GOp := [oo 15 (.mv (tt 5)), oo 2 (.mv (tt 15))]
abbrev c_cmp_Or_int_7 : List GOp := [oo 16 (.bin .add (tt 8) (ci 1)), oo 8 (.mv (tt 16))]
abbrev c_cmp_Or_int_l0 : GCode := .seq (.reg c_cmp_Or_int_3) (.seq (.cond (tt 9) (.skip) (.exit 0)) (.seq (.blk 1 (.seq (.reg c_cmp_Or_int_4) (.seq (.reg c_cmp_Or_int_5) (.cond (tt 14) (.seq (.reg c_cmp_Or_int_6) (.ret)) (.skip))))) (.reg c_cmp_Or_int_7)))
abbrev c_cmp_Or_int_9 : List GOp := [oo 17 (.mv (tt 3)), oo 2 (.mv (tt 17))]
abbrev c_cmp_Or_int : GCode := .seq (.reg c_cmp_Or_int_0) (.seq (.reg c_cmp_Or_int_1) (.seq (.seq (.reg c_cmp_Or_int_2) (.blk 0 (.loop c_cmp_Or_int_l0))) (.seq (.reg c_cmp_Or_int_9) (.ret))))
theorem c_cmp_Or_int_d : decFn Try.prog Try.f241 = some (18, [.t 2], c_cmp_Or_int) := by kernel_rfl
theorem c_cmp_Or_int_i {args : List Value} {G : GH} {K : Value → GH → Prop} (hn : args.length ≤ 18) (h : gW Try.prog c_cmp_Or_int (RetK [.t 2] K) (T0 args) G) : GC Try.prog 241 args G K := GC_intro mixed Try.func241 c_cmp_Or_int_d hn h
abbrev c_cmp_isNaN_int64_0 : List GOp := [oo 2 (.mv (cb  false))]
abbrev c_cmp_isNaN_int64_1 : List GOp := [oo 3 (.mv (tt 0)), oo 4 (.mv (tt 0)), oo 5 (.bin .neq (tt 3) (tt 4)), oo 2 (.mv (tt 5))]
abbrev c_cmp_isNaN_int64 : GCode := .seq (.reg c_cmp_isNaN_int64_0) (.seq (.reg c_cmp_isNaN_int64_1) (.ret))
theorem c_cmp_isNaN_int64_d : decFn Try.prog Try.f248 = some (6, [.t 2], c_cmp_isNaN_int64) := by kernel_rfl
theorem c_cmp_isNaN_int64_i {args : List Value} {G : GH} {K : Value → GH → Prop} (hn : args.length ≤ 6) (h : gW Try.prog c_cmp_isNaN_int64 (RetK [.t 2] K) (T0 args) G) : GC Try.prog 248 args G K := GC_intro mixed Try.func248 c_cmp_isNaN_int64_d hn h
abbrev c_impl_NarrowCut_0 : List GOp := [oo 1 (.bx (tt 0)), oo 2 (.mv (.const (.slice none 0 0))), oo 3 (.mv (ci 0)), oo 4 (.mv (ci 0))]
abbrev c_impl_NarrowCut_1 : List GOp := [oo 7 (.ldn 4 (tt 1)), oo 8 (.call (ff 189) [tt 7]), oo 9 (.un .not (tt 8))]
abbrev c_impl_NarrowCut_2 : List GOp := [oo 2 (.mv (.const (.slice none 0 0))), oo 3 (.mv (ci 0)), oo 4 (.mv (ci 1))]
abbrev c_impl_NarrowCut_3 : List GOp := [oo 11 (.ldn 4 (tt 1)), oo 12 (.call (ff 190) [tt 11]), oo 10 (.mv (tt 12)), oo 13 (.ex 0 (tt 10)), oo 14 (.ex 1 (tt 10)), oo 5 (.mv (tt 13)), oo 6 (.mv (tt 14))]
abbrev c_impl_NarrowCut_4 : List GOp := [oo 15 (.mv (tt 6)), oo 16 (.ldn 4 (tt 1)), oo 17 (.mv (tt 6)), oo 18 (.call (ff 196) [tt 16, tt 17]), oo 2 (.mv (tt 15)), oo 3 (.mv (tt 18)), oo 4 (.mv (ci 0))]
abbrev c_impl_NarrowCut : GCode := .seq (.reg c_impl_NarrowCut_0) (.seq (.seq (.reg c_impl_NarrowCut_1) (.cond (tt 9) (.seq (.reg c_impl_NarrowCut_2) (.ret)) (.skip))) (.seq (.reg c_impl_NarrowCut_3) (.seq (.reg c_impl_NarrowCut_4) (.ret))))
theorem c_impl_NarrowCut_d : decFn Try.prog Try.f94 = some (19, [.t 2, .t 3, .t 4], c_impl_NarrowCut) := by kernel_rfl
theorem c_impl_NarrowCut_i {args : List Value} {G : GH} {K : Value → GH → Prop} (hn : args.length ≤ 19) (h : gW Try.prog c_impl_NarrowCut (RetK [.t 2, .t 3, .t 4] K) (T0 args) G) : GC Try.prog 94 args G K := GC_intro mixed Try.func94 c_impl_NarrowCut_d hn h
abbrev c_impl_ValidNetwork_0 : List GOp := [oo 1 (.bx (tt 0)), oo 2 (.mv (cb  false))]
abbrev c_impl_ValidNetwork_1 : List GOp := [oo 5 (.fa 3 (tt 1)), oo 6 (.ld (tt 5)), oo 7 (.len (tt 6)), oo 8 (.mv (ci 0))]
abbrev c_impl_ValidNetwork_2 : List GOp := [oo 9 (.bin .lss (tt 8) (tt 7))]
abbrev c_impl_ValidNetwork_3 : List GOp := [oo 10 (.mv (tt 8)), oo 11 (.ia 3 (tt 6) (tt 8)), oo 12 (.ldn 3 (tt 11)), oo 4 (.al [.int .i64 0, .int .i64 0, .int .i64 0]), oo 3 (.mv (tt 10)), on (.st 3 (tt 4) (tt 12))]
abbrev c_impl_ValidNetwork_4 : List GOp := [oo 13 (.fa 0 (tt 4)), oo 14 (.ld (tt 13)), oo 15 (.fa 0 (tt 1)), oo 16 (.ld (tt 15)), oo 17 (.call (ff 180) [tt 14, tt 16]), oo 18 (.un .not (tt 17)), oo 19 (.mv (tt 18)), og 20 19 false (.fa 1 (tt 4)), og 21 19 false (.ld (tt 20)), og 22 19 false (.fa 0 (tt 1)), og 23 19 false (.ld (tt 22)), og 24 19 false (.call (ff 180) [tt 21, tt 23]), og 25 19 false (.un .not (tt 24)), oo 26 (.pick (tt 19) (cb  true) (tt 25)), oo 27 (.mv (tt 26)), og 28 27 false (.fa 0 (tt 4)), og 29 27 false (.ld (tt 28)), og 30 27 false (.fa 1 (tt 4)), og 31 27 false (.ld (tt 30)), og 32 27 false (.bin .eql (tt 29) (tt 31)), oo 33 (.pick (tt 27) (cb  true) (tt 32)), oo 34 (.mv (tt 33)), og 35 34 false (.fa 2 (tt 4)), og 36 34 false (.ld (tt 35)), og 37 34 false (.call (ff 122) [tt 36, (ci 0), (ci 1000000)]), og 38 34 false (.un .not (tt 37)), oo 39 (.pick (tt 34) (cb  true) (tt 38))]
abbrev c_impl_ValidNetwork_5 : List GOp := [oo 2 (.mv (cb  false))]
abbrev c_impl_ValidNetwork_6 : List DOp := [dl 0 (oo 40 (.mv (tt 3))), dl 1 (oo 41 (.bin .gtr (tt 40) (ci 0))), dl 2 (oo 42 (.mv (tt 41))), dl 3 (og 43 42 true (.fa 3 (tt 1))), dl 4 (og 44 42 true (.ld (tt 43))), dl 5 (og 45 42 true (.mv (tt 3))), dl 6 (og 46 42 true (.bin .sub (tt 45) (ci 1))), dl 7 (og 47 42 true (.ia 3 (tt 44) (tt 46))), dl 8 (og 48 42 true (.fa 0 (tt 47))), dl 9 (og 49 42 true (.ld (tt 48))), dl 10 (og 50 42 true (.fa 0 (tt 4))), dl 11 (og 51 42 true (.ld (tt 50))), dl 13 (og 53 42 true (.fa 3 (tt 1))), dl 14 (og 54 42 true (.ld (tt 53))), dl 15 (og 55 42 true (.mv (tt 3))), dl 16 (og 56 42 true (.bin .sub (tt 55) (ci 1))), dl 17 (og 57 42 true (.ia 3 (tt 54) (tt 56))), dl 18 (og 58 42 true (.fa 1 (tt 57))), dl 19 (og 59 42 true (.ld (tt 58))), dl 20 (og 60 42 true (.fa 1 (tt 4))), dl 21 (og 61 42 true (.ld (tt 60))), dh 12 [21, 19, 14, 4] (og 52 42 true (.call (ff 218) [tt 49, tt 51])), dh 22 [14, 11, 9, 4] (og 62 42 true (.call (ff 218) [tt 59, tt 61])), dh 23 [21, 19, 14, 11, 9, 4] (og 63 42 true (.bs 1 [tt 52, tt 62])), dh 24 [21, 19, 14, 11, 9, 4] (og 64 42 true (.call (ff 241) [tt 63])), dl 25 (og 65 42 true (.bin .geq (tt 64) (ci 0))), dl 26 (oo 66 (.pick (tt 42) (tt 65) (cb  false)))]
abbrev c_impl_ValidNetwork_7 : List GOp := [oo 2 (.mv (cb  false))]
abbrev c_impl_ValidNetwork_8 : List GOp := [oo 67 (.bin .add (tt 8) (ci 1)), oo 8 (.mv (tt 67))]
abbrev c_impl_ValidNetwork_l0 : GCode := .seq (.reg c_impl_ValidNetwork_2) (.seq (.cond (tt 9) (.skip) (.exit 0)) (.seq (.blk 1 (.seq (.reg c_impl_ValidNetwork_3) (.seq (.seq (.reg c_impl_ValidNetwork_4) (.cond (tt 39) (.seq (.reg c_impl_ValidNetwork_5) (.ret)) (.skip))) (.seq (.dreg c_impl_ValidNetwork_6) (.cond (tt 66) (.seq (.reg c_impl_ValidNetwork_7) (.ret)) (.skip)))))) (.reg c_impl_ValidNetwork_8)))
abbrev c_impl_ValidNetwork_10 : List GOp := [oo 68 (.fa 0 (tt 1)), oo 69 (.ld (tt 68)), oo 70 (.call (ff 122) [tt 69, (ci 2), (ci 12)]), oo 71 (.mv (tt 70)), og 72 71 true (.fa 1 (tt 1)), og 73 71 true (.ld (tt 72)), og 74 71 true (.fa 0 (tt 1)), og 75 71 true (.ld (tt 74)), og 76 71 true (.call (ff 180) [tt 73, tt 75]), oo 77 (.pick (tt 71) (tt 76) (cb  false)), oo 78 (.mv (tt 77)), og 79 78 true (.fa 2 (tt 1)), og 80 78 true (.ld (tt 79)), og 81 78 true (.fa 0 (tt 1)), og 82 78 true (.ld (tt 81)), og 83 78 true (.call (ff 180) [tt 80, tt 82]), oo 84 (.pick (tt 78) (tt 83) (cb  false)), oo 85 (.mv (tt 84)), og 86 85 true (.fa 1 (tt 1)), og 87 85 true (.ld (tt 86)), og 88 85 true (.fa 2 (tt 1)), og 89 85 true (.ld (tt 88)), og 90 85 true (.bin .neq (tt 87) (tt 89)), oo 91 (.pick (tt 85) (tt 90) (cb  false)), oo 92 (.mv (tt 91)), og 93 92 true (.fa 3 (tt 1)), og 94 92 true (.ld (tt 93)), og 95 92 true (.len (tt 94)), og 96 92 true (.bin .leq (tt 95) (ci 24)), oo 97 (.pick (tt 92) (tt 96) (cb  false)), oo 2 (.mv (tt 97))]
abbrev c_impl_ValidNetwork : GCode := .seq (.reg c_impl_ValidNetwork_0) (.seq (.seq (.reg c_impl_ValidNetwork_1) (.blk 0 (.loop c_impl_ValidNetwork_l0))) (.seq (.reg c_impl_ValidNetwork_10) (.ret)))
theorem c_impl_ValidNetwork_d : decFn Try.prog Try.f189 = some (98, [.t 2], c_impl_ValidNetwork) := by kernel_rfl
theorem c_impl_ValidNetwork_i {args : List Value} {G : GH} {K : Value → GH → Prop} (hn : args.length ≤ 98) (h : gW Try.prog c_impl_ValidNetwork (RetK [.t 2] K) (T0 args) G) : GC Try.prog 189 args G K := GC_intro mixed Try.func189 c_impl_ValidNetwork_d hn h
abbrev c_impl_arcOf_0 : List GOp := [oo 3 (.bx (tt 0)), oo 4 (.bx (tt 1)), oo 5 (.bx (tt 2)), oo 6 (.mv (ci 0))]
abbrev c_impl_arcOf_1 : List GOp := [oo 7 (.fa 3 (tt 3)), oo 8 (.ld (tt 7)), oo 9 (.mf (.func 263) [] [tt 4, tt 5]), oo 10 (.call (ff 262) [tt 8, tt 9]), oo 6 (.mv (tt 10))]
abbrev c_impl_arcOf : GCode := .seq (.reg c_impl_arcOf_0) (.seq (.reg c_impl_arcOf_1) (.ret))
theorem c_impl_arcOf_d : decFn Try.prog Try.f259 = some (11, [.t 6], c_impl_arcOf) := by kernel_rfl
theorem c_impl_arcOf_i {args : List Value} {G : GH} {K : Value → GH → Prop} (hn : args.length ≤ 11) (h : gW Try.prog c_impl_arcOf (RetK [.t 6] K) (T0 args) G) : GC Try.prog 259 args G K := GC_intro mixed Try.func259 c_impl_arcOf_d hn h
abbrev c_impl_arcOf_fn1_0 : List GOp := [oo 3 (.bx (tt 0)), oo 4 (.mv (cb  false))]
abbrev c_impl_arcOf_fn1_1 : List GOp := [oo 5 (.fa 0 (tt 3)), oo 6 (.ld (tt 5)), oo 7 (.ld (tt 1)), oo 8 (.bin .eql (tt 6) (tt 7)), oo 9 (.mv (tt 8)), og 10 9 true (.fa 1 (tt 3)), og 11 9 true (.ld (tt 10)), og 12 9 true (.ld (tt 2)), og 13 9 true (.bin .eql (tt 11) (tt 12)), oo 14 (.pick (tt 9) (tt 13) (cb  false)), oo 4 (.mv (tt 14))]
abbrev c_impl_arcOf_fn1 : GCode := .seq (.reg c_impl_arcOf_fn1_0) (.seq (.reg c_impl_arcOf_fn1_1) (.ret))
theorem c_impl_arcOf_fn1_d : decFn Try.prog Try.f263 = some (15, [.t 4], c_impl_arcOf_fn1) := by kernel_rfl
theorem c_impl_arcOf_fn1_i {args : List Value} {G : GH} {K : Value → GH → Prop} (hn : args.length ≤ 15) (h : gW Try.prog c_impl_arcOf_fn1 (RetK [.t 4] K) (T0 args) G) : GC Try.prog 263 args G K := GC_intro mixed Try.func263 c_impl_arcOf_fn1_d hn h
abbrev c_impl_capacity_0 : List GOp := [oo 2 (.bx (tt 0)), oo 4 (.mv (ci 0))]
abbrev c_impl_capacity_1 : List GOp := [oo 5 (.mv (ci 0))]
abbrev c_impl_capacity_2 : List GOp := [oo 8 (.fa 3 (tt 2)), oo 9 (.ld (tt 8)), oo 10 (.len (tt 9)), oo 11 (.mv (ci 0))]
abbrev c_impl_capacity_3 : List GOp := [oo 12 (.bin .lss (tt 11) (tt 10))]
abbrev c_impl_capacity_4 : List GOp := [oo 13 (.ia 3 (tt 9) (tt 11)), oo 14 (.ldn 3 (tt 13)), oo 7 (.al [.int .i64 0, .int .i64 0, .int .i64 0]), on (.st 3 (tt 7) (tt 14))]
abbrev c_impl_capacity_5 : List GOp := [oo 15 (.mv (tt 1)), oo 16 (.fa 0 (tt 7)), oo 17 (.ld (tt 16)), oo 18 (.call (ff 137) [tt 15, tt 17]), oo 19 (.mv (tt 18)), og 20 19 true (.mv (tt 1)), og 21 19 true (.fa 1 (tt 7)), og 22 19 true (.ld (tt 21)), og 23 19 true (.call (ff 137) [tt 20, tt 22]), og 24 19 true (.un .not (tt 23)), oo 25 (.pick (tt 19) (tt 24) (cb  false))]
abbrev c_impl_capacity_6 : List GOp := [oo 26 (.mv (tt 5)), oo 27 (.fa 2 (tt 7)), oo 28 (.ld (tt 27)), oo 29 (.bin .add (tt 26) (tt 28)), oo 5 (.mv (tt 29))]
abbrev c_impl_capacity_7 : List GOp := [oo 30 (.bin .add (tt 11) (ci 1)), oo 11 (.mv (tt 30))]
abbrev c_impl_capacity_l0 : GCode := .seq (.reg c_impl_capacity_3) (.seq (.cond (tt 12) (.skip) (.exit 0)) (.seq (.blk 1 (.seq (.reg c_impl_capacity_4) (.seq (.reg c_impl_capacity_5) (.cond (tt 25) (.reg c_impl_capacity_6) (.skip))))) (.reg c_impl_capacity_7)))
abbrev c_impl_capacity_9 : List GOp := [oo 31 (.mv (tt 5)), oo 4 (.mv (tt 31))]
abbrev c_impl_capacity : GCode := .seq (.reg c_impl_capacity_0) (.seq (.reg c_impl_capacity_1) (.seq (.seq (.reg c_impl_capacity_2) (.blk 0 (.loop c_impl_capacity_l0))) (.seq (.reg c_impl_capacity_9) (.ret))))
theorem c_impl_capacity_d : decFn Try.prog Try.f196 = some (32, [.t 4], c_impl_capacity) := by kernel_rfl
theorem c_impl_capacity_i {args : List Value} {G : GH} {K : Value → GH → Prop} (hn : args.length ≤ 32) (h : gW Try.prog c_impl_capacity (RetK [.t 4] K) (T0 args) G) : GC Try.prog 196 args G K := GC_intro mixed Try.func196 c_impl_capacity_d hn h
abbrev c_impl_greatestFlow_0 : List GOp := [oo 1 (.bx (tt 0)), oo 2 (.mv (.const (.slice none 0 0))), oo 3 (.mv (.const (.slice none 0 0)))]
abbrev c_impl_greatestFlow_1 : List GOp := [oo 7 (.fa 3 (tt 1)), oo 8 (.ld (tt 7)), oo 9 (.len (tt 8)), oo 10 (.mk 1 8 [.int .i64 0] (tt 9) (tt 9)), oo 4 (.mv (tt 10))]
abbrev c_impl_greatestFlow_2 : List GOp := [oo 12 (.ldn 4 (tt 1)), oo 13 (.mv (tt 4)), oo 14 (.call (ff 242) [tt 12, tt 13]), oo 11 (.mv (tt 14)), oo 15 (.ex 0 (tt 11)), oo 16 (.ex 1 (tt 11)), oo 5 (.mv (tt 15)), oo 6 (.mv (tt 16))]
abbrev c_impl_greatestFlow_3 : List GOp := [oo 17 (.mv (tt 6)), oo 18 (.fa 2 (tt 1)), oo 19 (.ld (tt 18)), oo 20 (.ia 1 (tt 17) (tt 19)), oo 21 (.ld (tt 20)), oo 22 (.bin .geq (tt 21) (ci 0))]
abbrev c_impl_greatestFlow_4 : List GOp := [oo 23 (.ldn 4 (tt 1)), oo 24 (.mv (tt 4)), oo 25 (.mv (tt 6)), oo 26 (.call (ff 243) [tt 23, tt 24, tt 25])]
abbrev c_impl_greatestFlow_5 : List GOp := [oo 28 (.ldn 4 (tt 1)), oo 29 (.mv (tt 4)), oo 30 (.call (ff 242) [tt 28, tt 29]), oo 27 (.mv (tt 30)), oo 31 (.ex 0 (tt 27)), oo 32 (.ex 1 (tt 27)), oo 5 (.mv (tt 31)), oo 6 (.mv (tt 32))]
abbrev c_impl_greatestFlow_l0 : GCode := .seq (.seq (.reg c_impl_greatestFlow_3) (.cond (tt 22) (.skip) (.exit 0))) (.blk 1 (.seq (.reg c_impl_greatestFlow_4) (.reg c_impl_greatestFlow_5)))
abbrev c_impl_greatestFlow_7 : List GOp := [oo 33 (.mv (tt 5)), oo 34 (.call (ff 244) [tt 33])]
abbrev c_impl_greatestFlow_8 : List GOp := [oo 35 (.mv (tt 4)), oo 36 (.mv (tt 5)), oo 2 (.mv (tt 35)), oo 3 (.mv (tt 36))]
abbrev c_impl_greatestFlow : GCode := .seq (.reg c_impl_greatestFlow_0) (.seq (.reg c_impl_greatestFlow_1) (.seq (.reg c_impl_greatestFlow_2) (.seq (.blk 0 (.loop c_impl_greatestFlow_l0)) (.seq (.reg c_impl_greatestFlow_7) (.seq (.reg c_impl_greatestFlow_8) (.ret))))))
theorem c_impl_greatestFlow_d : decFn Try.prog Try.f190 = some (37, [.t 2, .t 3], c_impl_greatestFlow) := by kernel_rfl
theorem c_impl_greatestFlow_i {args : List Value} {G : GH} {K : Value → GH → Prop} (hn : args.length ≤ 37) (h : gW Try.prog c_impl_greatestFlow (RetK [.t 2, .t 3] K) (T0 args) G) : GC Try.prog 190 args G K := GC_intro mixed Try.func190 c_impl_greatestFlow_d hn h
abbrev c_impl_isElement_0 : List GOp := [oo 4 (.mv (cb  false))]
abbrev c_impl_isElement_1 : List GOp := [oo 5 (.mv (tt 0)), oo 6 (.mv (tt 1)), oo 7 (.bin .sub (tt 6) (ci 1)), oo 8 (.call (ff 122) [tt 5, (ci 0), tt 7]), oo 4 (.mv (tt 8))]
abbrev c_impl_isElement : GCode := .seq (.reg c_impl_isElement_0) (.seq (.reg c_impl_isElement_1) (.ret))
theorem c_impl_isElement_d : decFn Try.prog Try.f180 = some (9, [.t 4], c_impl_isElement) := by kernel_rfl
theorem c_impl_isElement_i {args : List Value} {G : GH} {K : Value → GH → Prop} (hn : args.length ≤ 9) (h : gW Try.prog c_impl_isElement (RetK [.t 4] K) (T0 args) G) : GC Try.prog 180 args G K := GC_intro mixed Try.func180 c_impl_isElement_d hn h
abbrev c_impl_marked_0 : List GOp := [oo 2 (.bx (tt 0)), oo 4 (.mv (.const (.slice none 0 0))), oo 5 (.mv (.const (.slice none 0 0)))]
abbrev c_impl_marked_1 : List GOp := [oo 11 (.fa 0 (tt 2)), oo 12 (.ld (tt 11)), oo 13 (.mk 1 8 [.int .i64 0] (tt 12) (tt 12)), oo 6 (.mv (tt 13))]
abbrev c_impl_marked_2 : List GOp := [oo 14 (.mv (tt 6)), oo 15 (.len (tt 14)), oo 16 (.mv (ci 0))]
abbrev c_impl_marked_3 : List GOp := [oo 17 (.bin .lss (tt 16) (tt 15))]
abbrev c_impl_marked_4 : List GOp := [oo 18 (.mv (tt 16)), oo 7 (.mv (tt 18))]
abbrev c_impl_marked_5 : List GOp := [oo 19 (.mv (tt 6)), oo 20 (.mv (tt 7)), oo 21 (.ia 1 (tt 19) (tt 20)), on (.st 1 (tt 21) (ci (-1)))]
abbrev c_impl_marked_6 : List GOp := [oo 22 (.bin .add (tt 16) (ci 1)), oo 16 (.mv (tt 22))]
abbrev c_impl_marked_l0 : GCode := .seq (.reg c_impl_marked_3) (.seq (.cond (tt 17) (.skip) (.exit 0)) (.seq (.blk 1 (.seq (.reg c_impl_marked_4) (.reg c_impl_marked_5))) (.reg c_impl_marked_6)))
abbrev c_impl_marked_8 : List GOp := [oo 23 (.fa 1 (tt 2)), oo 24 (.ld (tt 23)), oo 25 (.bs 1 [tt 24]), oo 8 (.mv (tt 25))]
abbrev c_impl_marked_9 : List GOp := [oo 9 (.mv (ci 0))]
abbrev c_impl_marked_10 : List GOp := [oo 26 (.mv (tt 9)), oo 27 (.mv (tt 8)), oo 28 (.len (tt 27)), oo 29 (.bin .lss (tt 26) (tt 28))]
abbrev c_impl_marked_11 : List GOp := [oo 32 (.fa 0 (tt 2)), oo 33 (.ld (tt 32)), oo 34 (.mv (ci 0))]
abbrev c_impl_marked_12 : List GOp := [oo 35 (.bin .lss (tt 34) (tt 33))]
abbrev c_impl_marked_13 : List GOp := [oo 36 (.mv (tt 34)), oo 10 (.mv (tt 36))]
abbrev c_impl_marked_14 : List DOp := [dl 0 (oo 37 (.mv (tt 8))), dl 1 (oo 38 (.mv (tt 10))), dh 2 [] (oo 39 (.call (ff 137) [tt 37, tt 38])), dl 3 (oo 40 (.un .not (tt 39))), dl 4 (oo 41 (.mv (tt 40))), dl 5 (og 42 41 true (.ldn 4 (tt 2))), dl 6 (og 43 41 true (.mv (tt 1))), dl 7 (og 44 41 true (.mv (tt 8))), dl 8 (og 45 41 true (.mv (tt 9))), dl 9 (og 46 41 true (.ia 1 (tt 44) (tt 45))), dl 10 (og 47 41 true (.ld (tt 46))), dl 11 (og 48 41 true (.mv (tt 10))), dh 12 [] (og 49 41 true (.call (ff 258) [tt 42, tt 43, tt 47, tt 48])), dl 13 (og 50 41 true (.bin .gtr (tt 49) (ci 0))), dl 14 (oo 51 (.pick (tt 41) (tt 50) (cb  false)))]
abbrev c_impl_marked_15 : List GOp := [oo 52 (.mv (tt 8)), oo 53 (.mv (tt 10)), oo 54 (.bs 1 [tt 53]), oo 55 (.ap 1 8 [.int .i64 0] (tt 52) (tt 54)), oo 8 (.mv (tt 55))]
abbrev c_impl_marked_16 : List GOp := [oo 56 (.mv (tt 6)), oo 57 (.mv (tt 10)), oo 58 (.mv (tt 8)), oo 59 (.mv (tt 9)), oo 60 (.ia 1 (tt 58) (tt 59)), oo 61 (.ld (tt 60)), oo 62 (.ia 1 (tt 56) (tt 57)), on (.st 1 (tt 62) (tt 61))]
abbrev c_impl_marked_17 : List GOp := [oo 63 (.bin .add (tt 34) (ci 1)), oo 34 (.mv (tt 63))]
abbrev c_impl_marked_l1 : GCode := .seq (.reg c_impl_marked_12) (.seq (.cond (tt 35) (.skip) (.exit 4)) (.seq (.blk 5 (.seq (.reg c_impl_marked_13) (.seq (.dreg c_impl_marked_14) (.cond (tt 51) (.seq (.reg c_impl_marked_15) (.reg c_impl_marked_16)) (.skip))))) (.reg c_impl_marked_17)))
abbrev c_impl_marked_19 : List GOp := [oo 30 (.mv (tt 9)), oo 31 (.bin .add (tt 30) (ci 1)), oo 9 (.mv (tt 31))]
abbrev c_impl_marked_l2 : GCode := .seq (.seq (.reg c_impl_marked_10) (.cond (tt 29) (.skip) (.exit 2))) (.seq (.blk 3 (.seq (.reg c_impl_marked_11) (.blk 4 (.loop c_impl_marked_l1)))) (.reg c_impl_marked_19))
abbrev c_impl_marked_21 : List GOp := [oo 64 (.mv (tt 8)), oo 65 (.mv (tt 6)), oo 4 (.mv (tt 64)), oo 5 (.mv (tt 65))]
abbrev c_impl_marked : GCode := .seq (.reg c_impl_marked_0) (.seq (.reg c_impl_marked_1) (.seq (.seq (.reg c_impl_marked_2) (.blk 0 (.loop c_impl_marked_l0))) (.seq (.reg c_impl_marked_8) (.seq (.seq (.reg c_impl_marked_9) (.blk 2 (.loop c_impl_marked_l2))) (.seq (.reg c_impl_marked_21) (.ret))))))
theorem c_impl_marked_d : decFn Try.prog Try.f242 = some (66, [.t 4, .t 5], c_impl_marked) := by kernel_rfl
theorem c_impl_marked_i {args : List Value} {G : GH} {K : Value → GH → Prop} (hn : args.length ≤ 66) (h : gW Try.prog c_impl_marked (RetK [.t 4, .t 5] K) (T0 args) G) : GC Try.prog 242 args G K := GC_intro mixed Try.func242 c_impl_marked_d hn h
abbrev c_impl_room_0 : List GOp := [oo 4 (.bx (tt 0)), oo 8 (.mv (ci 0))]
abbrev c_impl_room_1 : List GOp := [oo 9 (.mv (ci 0))]
abbrev c_impl_room_2 : List GOp := [oo 12 (.ldn 4 (tt 4)), oo 13 (.mv (tt 2)), oo 14 (.mv (tt 3)), oo 15 (.call (ff 259) [tt 12, tt 13, tt 14]), oo 10 (.mv (tt 15))]
abbrev c_impl_room_3 : List GOp := [oo 16 (.mv (tt 10)), oo 17 (.bin .geq (tt 16) (ci 0))]
abbrev c_impl_room_4 : List DOp := [dl 0 (oo 18 (.mv (tt 9))), dl 1 (oo 19 (.fa 3 (tt 4))), dl 2 (oo 20 (.ld (tt 19))), dl 3 (oo 21 (.mv (tt 10))), dl 4 (oo 22 (.ia 3 (tt 20) (tt 21))), dl 5 (oo 23 (.fa 2 (tt 22))), dl 6 (oo 24 (.ld (tt 23))), dl 7 (oo 25 (.mv (tt 1))), dl 8 (oo 26 (.mv (tt 10))), dl 9 (oo 27 (.ia 1 (tt 25) (tt 26))), dl 10 (oo 28 (.ld (tt 27))), dl 11 (oo 29 (.bin .sub (tt 24) (tt 28))), dl 12 (oo 30 (.bin .add (tt 18) (tt 29))), dl 13 (oo 9 (.mv (tt 30)))]
abbrev c_impl_room_5 : List GOp := [oo 31 (.ldn 4 (tt 4)), oo 32 (.mv (tt 3)), oo 33 (.mv (tt 2)), oo 34 (.call (ff 259) [tt 31, tt 32, tt 33]), oo 11 (.mv (tt 34))]
abbrev c_impl_room_6 : List GOp := [oo 35 (.mv (tt 11)), oo 36 (.bin .geq (tt 35) (ci 0))]
abbrev c_impl_room_7 : List GOp := [oo 37 (.mv (tt 9)), oo 38 (.mv (tt 1)), oo 39 (.mv (tt 11)), oo 40 (.ia 1 (tt 38) (tt 39)), oo 41 (.ld (tt 40)), oo 42 (.bin .add (tt 37) (tt 41)), oo 9 (.mv (tt 42))]
abbrev c_impl_room_8 : List GOp := [oo 43 (.mv (tt 9)), oo 8 (.mv (tt 43))]
abbrev c_impl_room : GCode := .seq (.reg c_impl_room_0) (.seq (.reg c_impl_room_1) (.seq (.seq (.reg c_impl_room_2) (.seq (.reg c_impl_room_3) (.cond (tt 17) (.dreg c_impl_room_4) (.skip)))) (.seq (.seq (.reg c_impl_room_5) (.seq (.reg c_impl_room_6) (.cond (tt 36) (.reg c_impl_room_7) (.skip)))) (.seq (.reg c_impl_room_8) (.ret)))))
theorem c_impl_room_d : decFn Try.prog Try.f258 = some (44, [.t 8], c_impl_room) := by kernel_rfl
theorem c_impl_room_i {args : List Value} {G : GH} {K : Value → GH → Prop} (hn : args.length ≤ 44) (h : gW Try.prog c_impl_room (RetK [.t 8] K) (T0 args) G) : GC Try.prog 258 args G K := GC_intro mixed Try.func258 c_impl_room_d hn h
abbrev c_impl_send_0 : List GOp := [oo 3 (.bx (tt 0))]
abbrev c_impl_send_1 : List GOp := [oo 6 (.mv (ci 2000000))]
abbrev c_impl_send_2 : List GOp := [oo 12 (.fa 2 (tt 3)), oo 13 (.ld (tt 12)), oo 7 (.mv (tt 13))]
abbrev c_impl_send_3 : List GOp := [oo 14 (.mv (tt 7)), oo 15 (.fa 1 (tt 3)), oo 16 (.ld (tt 15)), oo 17 (.bin .neq (tt 14) (tt 16))]
abbrev c_impl_send_4 : List DOp := [dl 0 (oo 22 (.mv (tt 6))), dl 1 (oo 23 (.ldn 4 (tt 3))), dl 2 (oo 24 (.mv (tt 1))), dl 3 (oo 25 (.mv (tt 2))), dl 4 (oo 26 (.mv (tt 7))), dl 5 (oo 27 (.ia 1 (tt 25) (tt 26))), dl 6 (oo 28 (.ld (tt 27))), dl 7 (oo 29 (.mv (tt 7))), dh 8 [] (oo 30 (.call (ff 258) [tt 23, tt 24, tt 28, tt 29])), dl 9 (oo 31 (.mn [tt 22, tt 30])), dl 10 (oo 6 (.mv (tt 31)))]
abbrev c_impl_send_5 : List GOp := [oo 18 (.mv (tt 2)), oo 19 (.mv (tt 7)), oo 20 (.ia 1 (tt 18) (tt 19)), oo 21 (.ld (tt 20)), oo 7 (.mv (tt 21))]
abbrev c_impl_send_l0 : GCode := .seq (.seq (.reg c_impl_send_3) (.cond (tt 17) (.skip) (.exit 0))) (.seq (.blk 1 (.dreg c_impl_send_4)) (.reg c_impl_send_5))
abbrev c_impl_send_7 : List GOp := [oo 32 (.fa 2 (tt 3)), oo 33 (.ld (tt 32)), oo 8 (.mv (tt 33))]
abbrev c_impl_send_8 : List GOp := [oo 34 (.mv (tt 8)), oo 35 (.fa 1 (tt 3)), oo 36 (.ld (tt 35)), oo 37 (.bin .neq (tt 34) (tt 36))]
abbrev c_impl_send_9 : List GOp := [oo 42 (.mv (tt 6)), oo 9 (.mv (tt 42))]
abbrev c_impl_send_10 : List DOp := [dl 0 (oo 43 (.ldn 4 (tt 3))), dl 1 (oo 44 (.mv (tt 8))), dl 2 (oo 45 (.mv (tt 2))), dl 3 (oo 46 (.mv (tt 8))), dl 4 (oo 47 (.ia 1 (tt 45) (tt 46))), dl 5 (oo 48 (.ld (tt 47))), dh 6 [] (oo 49 (.call (ff 259) [tt 43, tt 44, tt 48])), dl 7 (oo 10 (.mv (tt 49)))]
abbrev c_impl_send_11 : List GOp := [oo 50 (.mv (tt 10)), oo 51 (.bin .geq (tt 50) (ci 0))]
abbrev c_impl_send_12 : List GOp := [oo 52 (.mv (tt 9)), oo 53 (.mv (tt 1)), oo 54 (.mv (tt 10)), oo 55 (.ia 1 (tt 53) (tt 54)), oo 56 (.ld (tt 55)), oo 57 (.mn [tt 52, tt 56]), oo 11 (.mv (tt 57))]
abbrev c_impl_send_13 : List GOp := [oo 58 (.mv (tt 1)), oo 59 (.mv (tt 10)), oo 60 (.ia 1 (tt 58) (tt 59)), oo 61 (.ld (tt 60)), oo 62 (.mv (tt 11)), oo 63 (.bin .sub (tt 61) (tt 62)), oo 64 (.ia 1 (tt 58) (tt 59)), on (.st 1 (tt 64) (tt 63))]
abbrev c_impl_send_14 : List GOp := [oo 65 (.mv (tt 9)), oo 66 (.mv (tt 11)), oo 67 (.bin .sub (tt 65) (tt 66)), oo 9 (.mv (tt 67))]
abbrev c_impl_send_15 : List GOp := [oo 68 (.mv (tt 9)), oo 69 (.bin .gtr (tt 68) (ci 0))]
abbrev c_impl_send_16 : List DOp := [dl 0 (oo 70 (.mv (tt 1))), dl 1 (oo 71 (.ldn 4 (tt 3))), dl 2 (oo 72 (.mv (tt 2))), dl 3 (oo 73 (.mv (tt 8))), dl 4 (oo 74 (.ia 1 (tt 72) (tt 73))), dl 5 (oo 75 (.ld (tt 74))), dl 6 (oo 76 (.mv (tt 8))), dl 10 (oo 80 (.mv (tt 9))), dh 7 [] (oo 77 (.call (ff 259) [tt 71, tt 75, tt 76])), dl 8 (oo 78 (.ia 1 (tt 70) (tt 77))), dl 9 (oo 79 (.ld (tt 78))), dl 11 (oo 81 (.bin .add (tt 79) (tt 80))), dl 12 (oo 82 (.ia 1 (tt 70) (tt 77))), dh 13 [] (on (.st 1 (tt 82) (tt 81)))]
abbrev c_impl_send_17 : List GOp := [oo 38 (.mv (tt 2)), oo 39 (.mv (tt 8)), oo 40 (.ia 1 (tt 38) (tt 39)), oo 41 (.ld (tt 40)), oo 8 (.mv (tt 41))]
abbrev c_impl_send_l1 : GCode := .seq (.seq (.reg c_impl_send_8) (.cond (tt 37) (.skip) (.exit 2))) (.seq (.blk 3 (.seq (.reg c_impl_send_9) (.seq (.seq (.dreg c_impl_send_10) (.seq (.reg c_impl_send_11) (.cond (tt 51) (.seq (.reg c_impl_send_12) (.seq (.reg c_impl_send_13) (.reg c_impl_send_14))) (.skip)))) (.seq (.reg c_impl_send_15) (.cond (tt 69) (.dreg c_impl_send_16) (.skip)))))) (.reg c_impl_send_17))
abbrev c_impl_send : GCode := .seq (.reg c_impl_send_0) (.seq (.reg c_impl_send_1) (.seq (.seq (.reg c_impl_send_2) (.blk 0 (.loop c_impl_send_l0))) (.seq (.reg c_impl_send_7) (.blk 2 (.loop c_impl_send_l1)))))
theorem c_impl_send_d : decFn Try.prog Try.f243 = some (83, [], c_impl_send) := by kernel_rfl
theorem c_impl_send_i {args : List Value} {G : GH} {K : Value → GH → Prop} (hn : args.length ≤ 83) (h : gW Try.prog c_impl_send (RetK [] K) (T0 args) G) : GC Try.prog 243 args G K := GC_intro mixed Try.func243 c_impl_send_d hn h
abbrev c_impl_within_0 : List GOp := [oo 6 (.mv (cb  false))]
abbrev c_impl_within_1 : List GOp := [oo 7 (.mv (tt 0)), oo 8 (.mv (tt 1)), oo 9 (.bin .geq (tt 7) (tt 8)), oo 10 (.mv (tt 9)), og 11 10 true (.mv (tt 0)), og 12 10 true (.mv (tt 2)), og 13 10 true (.bin .leq (tt 11) (tt 12)), oo 14 (.pick (tt 10) (tt 13) (cb  false)), oo 6 (.mv (tt 14))]
abbrev c_impl_within : GCode := .seq (.reg c_impl_within_0) (.seq (.reg c_impl_within_1) (.ret))
theorem c_impl_within_d : decFn Try.prog Try.f122 = some (15, [.t 6], c_impl_within) := by kernel_rfl
theorem c_impl_within_i {args : List Value} {G : GH} {K : Value → GH → Prop} (hn : args.length ≤ 15) (h : gW Try.prog c_impl_within (RetK [.t 6] K) (T0 args) G) : GC Try.prog 122 args G K := GC_intro mixed Try.func122 c_impl_within_d hn h
abbrev c_laws_FnExactNarrowCut_0 : List GOp := [oo 1 (.bx (tt 0)), oo 2 (.mv (cb  false))]
abbrev c_laws_FnExactNarrowCut_1 : List GOp := [oo 3 (.mv (ci 1048576))]
abbrev c_laws_FnExactNarrowCut_2 : List GOp := [oo 17 (.ldn 4 (tt 1)), oo 18 (.mv (tt 3)), oo 19 (.call (ff 87) [tt 17, tt 18]), oo 3 (.mv (tt 19))]
abbrev c_laws_FnExactNarrowCut_3 : List GOp := [oo 20 (.mv (tt 3)), oo 21 (.bin .lss (tt 20) (ci 0))]
abbrev c_laws_FnExactNarrowCut_4 : List GOp := [oo 2 (.mv (cb  true))]
abbrev c_laws_FnExactNarrowCut_5 : List GOp := [oo 23 (.ldn 4 (tt 1)), oo 24 (.call (ff 89) [tt 23]), oo 25 (.call (ff 93) [tt 24]), oo 22 (.mv (tt 25)), oo 26 (.ex 0 (tt 22)), oo 27 (.ex 1 (tt 22)), oo 28 (.ex 2 (tt 22)), oo 4 (.mv (tt 26)), oo 5 (.mv (tt 27)), oo 6 (.mv (tt 28))]
abbrev c_laws_FnExactNarrowCut_6 : List GOp := [oo 29 (.ldn 4 (tt 1)), oo 30 (.call (ff 89) [tt 29]), oo 7 (.al [.int .i64 0, .int .i64 0, .int .i64 0, .slice none 0 0]), on (.st 4 (tt 7) (tt 30))]
abbrev c_laws_FnExactNarrowCut_7 : List GOp := [oo 32 (.ldn 4 (tt 7)), oo 33 (.call (ff 94) [tt 32]), oo 31 (.mv (tt 33)), oo 34 (.ex 0 (tt 31)), oo 35 (.ex 1 (tt 31)), oo 36 (.ex 2 (tt 31)), oo 8 (.mv (tt 34)), oo 9 (.mv (tt 35)), oo 10 (.mv (tt 36))]
abbrev c_laws_FnExactNarrowCut_8 : List GOp := [oo 37 (.mv (tt 8)), oo 38 (.mv (tt 4)), oo 39 (.call (ff 31) [tt 37, tt 38]), oo 40 (.un .not (tt 39)), oo 41 (.mv (tt 40)), og 42 41 false (.mv (tt 9)), og 43 41 false (.mv (tt 5)), og 44 41 false (.bin .neq (tt 42) (tt 43)), oo 45 (.pick (tt 41) (cb  true) (tt 44)), oo 46 (.mv (tt 45)), og 47 46 false (.mv (tt 10)), og 48 46 false (.mv (tt 6)), og 49 46 false (.bin .neq (tt 47) (tt 48)), oo 50 (.pick (tt 46) (cb  true) (tt 49))]
abbrev c_laws_FnExactNarrowCut_9 : List GOp := [oo 2 (.mv (cb  false))]
abbrev c_laws_FnExactNarrowCut_10 : List DOp := [dl 0 (oo 51 (.ldn 4 (tt 7))), dl 1 (oo 52 (.ldn 4 (tt 1))), dh 2 [0] (oo 53 (.call (ff 89) [tt 52])), dh 3 [1] (oo 54 (.call (ff 91) [tt 51, tt 53])), dl 4 (oo 55 (.un .not (tt 54)))]
abbrev c_laws_FnExactNarrowCut_11 : List GOp := [oo 2 (.mv (cb  false))]
abbrev c_laws_FnExactNarrowCut_12 : List GOp := [oo 11 (.mv (ci 1))]
abbrev c_laws_FnExactNarrowCut_13 : List GOp := [oo 56 (.ldn 4 (tt 7)), oo 57 (.mv (tt 11)), oo 58 (.call (ff 92) [tt 56, tt 57]), oo 11 (.mv (tt 58))]
abbrev c_laws_FnExactNarrowCut_14 : List GOp := [oo 59 (.mv (tt 11)), oo 60 (.bin .lss (tt 59) (ci 0)), oo 61 (.mv (tt 60)), og 62 61 false (.mv (tt 8)), og 63 61 false (.mv (tt 4)), og 64 61 false (.call (ff 31) [tt 62, tt 63]), og 65 61 false (.un .not (tt 64)), oo 66 (.pick (tt 61) (cb  true) (tt 65)), oo 67 (.mv (tt 66)), og 68 67 false (.mv (tt 9)), og 69 67 false (.mv (tt 5)), og 70 67 false (.bin .neq (tt 68) (tt 69)), oo 71 (.pick (tt 67) (cb  true) (tt 70)), oo 72 (.mv (tt 71)), og 73 72 false (.mv (tt 10)), og 74 72 false (.mv (tt 6)), og 75 72 false (.bin .neq (tt 73) (tt 74)), oo 76 (.pick (tt 72) (cb  true) (tt 75))]
abbrev c_laws_FnExactNarrowCut_15 : List GOp := [oo 2 (.mv (cb  false))]
abbrev c_laws_FnExactNarrowCut_16 : List GOp := [oo 12 (.mv (ci 1))]
abbrev c_laws_FnExactNarrowCut_17 : List GOp := [oo 77 (.mv (tt 8)), oo 78 (.mv (tt 12)), oo 79 (.call (ff 34) [tt 77, tt 78]), oo 12 (.mv (tt 79))]
abbrev c_laws_FnExactNarrowCut_18 : List GOp := [oo 13 (.mv (ci 1))]
abbrev c_laws_FnExactNarrowCut_19 : List GOp := [oo 80 (.mv (tt 8)), oo 81 (.mv (tt 13)), oo 82 (.call (ff 35) [tt 80, tt 81]), oo 13 (.mv (tt 82))]
abbrev c_laws_FnExactNarrowCut_20 : List GOp := [oo 83 (.mv (tt 13)), oo 84 (.bin .lss (tt 83) (ci 0))]
abbrev c_laws_FnExactNarrowCut_21 : List GOp := [oo 2 (.mv (cb  false))]
abbrev c_laws_FnExactNarrowCut_22 : List GOp := [oo 85 (.mv (tt 13)), oo 86 (.mv (tt 12)), oo 87 (.bin .neq (tt 85) (tt 86))]
abbrev c_laws_FnExactNarrowCut_23 : List GOp := [oo 2 (.mv (cb  false))]
abbrev c_laws_FnExactNarrowCut_24 : List GOp := [oo 89 (.ldn 4 (tt 1)), oo 90 (.call (ff 89) [tt 89]), oo 91 (.call (ff 94) [tt 90]), oo 88 (.mv (tt 91)), oo 92 (.ex 0 (tt 88)), oo 93 (.ex 1 (tt 88)), oo 94 (.ex 2 (tt 88)), oo 14 (.mv (tt 92)), oo 15 (.mv (tt 93)), oo 16 (.mv (tt 94))]
abbrev c_laws_FnExactNarrowCut_25 : List GOp := [oo 95 (.mv (tt 14)), oo 96 (.mv (tt 4)), oo 97 (.call (ff 31) [tt 95, tt 96]), oo 98 (.un .not (tt 97)), oo 99 (.mv (tt 98)), og 100 99 false (.mv (tt 15)), og 101 99 false (.mv (tt 5)), og 102 99 false (.bin .neq (tt 100) (tt 101)), oo 103 (.pick (tt 99) (cb  true) (tt 102)), oo 104 (.mv (tt 103)), og 105 104 false (.mv (tt 16)), og 106 104 false (.mv (tt 6)), og 107 104 false (.bin .neq (tt 105) (tt 106)), oo 108 (.pick (tt 104) (cb  true) (tt 107))]
abbrev c_laws_FnExactNarrowCut_26 : List GOp := [oo 2 (.mv (cb  false))]
abbrev c_laws_FnExactNarrowCut_27 : List GOp := [oo 13 (.mv (ci 1))]
abbrev c_laws_FnExactNarrowCut_28 : List GOp := [oo 109 (.mv (tt 8)), oo 110 (.mv (tt 13)), oo 111 (.call (ff 35) [tt 109, tt 110]), oo 13 (.mv (tt 111))]
abbrev c_laws_FnExactNarrowCut_29 : List GOp := [oo 112 (.mv (tt 13)), oo 113 (.bin .lss (tt 112) (ci 0))]
abbrev c_laws_FnExactNarrowCut_30 : List GOp := [oo 2 (.mv (cb  false))]
abbrev c_laws_FnExactNarrowCut_31 : List GOp := [oo 114 (.mv (tt 13)), oo 115 (.mv (tt 12)), oo 116 (.bin .neq (tt 114) (tt 115))]
abbrev c_laws_FnExactNarrowCut_32 : List GOp := [oo 2 (.mv (cb  false))]
abbrev c_laws_FnExactNarrowCut_33 : List GOp := [oo 2 (.mv (cb  true))]
abbrev c_laws_FnExactNarrowCut : GCode := .seq (.reg c_laws_FnExactNarrowCut_0) (.seq (.reg c_laws_FnExactNarrowCut_1) (.seq (.reg c_laws_FnExactNarrowCut_2) (.seq (.seq (.reg c_laws_FnExactNarrowCut_3) (.cond (tt 21) (.seq (.reg c_laws_FnExactNarrowCut_4) (.ret)) (.skip))) (.seq (.reg c_laws_FnExactNarrowCut_5) (.seq (.reg c_laws_FnExactNarrowCut_6) (.seq (.reg c_laws_FnExactNarrowCut_7) (.seq (.seq (.reg c_laws_FnExactNarrowCut_8) (.cond (tt 50) (.seq (.reg c_laws_FnExactNarrowCut_9) (.ret)) (.skip))) (.seq (.seq (.dreg c_laws_FnExactNarrowCut_10) (.cond (tt 55) (.seq (.reg c_laws_FnExactNarrowCut_11) (.ret)) (.skip))) (.seq (.reg c_laws_FnExactNarrowCut_12) (.seq (.reg c_laws_FnExactNarrowCut_13) (.seq (.seq (.reg c_laws_FnExactNarrowCut_14) (.cond (tt 76) (.seq (.reg c_laws_FnExactNarrowCut_15) (.ret)) (.skip))) (.seq (.reg c_laws_FnExactNarrowCut_16) (.seq (.reg c_laws_FnExactNarrowCut_17) (.seq (.reg c_laws_FnExactNarrowCut_18) (.seq (.reg c_laws_FnExactNarrowCut_19) (.seq (.seq (.reg c_laws_FnExactNarrowCut_20) (.cond (tt 84) (.seq (.reg c_laws_FnExactNarrowCut_21) (.ret)) (.skip))) (.seq (.seq (.reg c_laws_FnExactNarrowCut_22) (.cond (tt 87) (.seq (.reg c_laws_FnExactNarrowCut_23) (.ret)) (.skip))) (.seq (.reg c_laws_FnExactNarrowCut_24) (.seq (.seq (.reg c_laws_FnExactNarrowCut_25) (.cond (tt 108) (.seq (.reg c_laws_FnExactNarrowCut_26) (.ret)) (.skip))) (.seq (.reg c_laws_FnExactNarrowCut_27) (.seq (.reg c_laws_FnExactNarrowCut_28) (.seq (.seq (.reg c_laws_FnExactNarrowCut_29) (.cond (tt 113) (.seq (.reg c_laws_FnExactNarrowCut_30) (.ret)) (.skip))) (.seq (.seq (.reg c_laws_FnExactNarrowCut_31) (.cond (tt 116) (.seq (.reg c_laws_FnExactNarrowCut_32) (.ret)) (.skip))) (.seq (.reg c_laws_FnExactNarrowCut_33) (.ret)))))))))))))))))))))))))
theorem c_laws_FnExactNarrowCut_d : decFn Try.prog Try.f23 = some (117, [.t 2], c_laws_FnExactNarrowCut) := by kernel_rfl
theorem c_laws_FnExactNarrowCut_i {args : List Value} {G : GH} {K : Value → GH → Prop} (hn : args.length ≤ 117) (h : gW Try.prog c_laws_FnExactNarrowCut (RetK [.t 2] K) (T0 args) G) : GC Try.prog 23 args G K := GC_intro mixed Try.func23 c_laws_FnExactNarrowCut_d hn h
abbrev c_laws_eqArc_0 : List GOp := [oo 2 (.bx (tt 0)), oo 3 (.bx (tt 1)), oo 4 (.mv (cb  false))]
abbrev c_laws_eqArc_1 : List GOp := [oo 5 (.fa 0 (tt 2)), oo 6 (.ld (tt 5)), oo 7 (.fa 0 (tt 3)), oo 8 (.ld (tt 7)), oo 9 (.bin .neq (tt 6) (tt 8))]
abbrev c_laws_eqArc_2 : List GOp := [oo 4 (.mv (cb  false))]
abbrev c_laws_eqArc_3 : List GOp := [oo 10 (.fa 1 (tt 2)), oo 11 (.ld (tt 10)), oo 12 (.fa 1 (tt 3)), oo 13 (.ld (tt 12)), oo 14 (.bin .neq (tt 11) (tt 13))]
abbrev c_laws_eqArc_4 : List GOp := [oo 4 (.mv (cb  false))]
abbrev c_laws_eqArc_5 : List GOp := [oo 15 (.fa 2 (tt 2)), oo 16 (.ld (tt 15)), oo 17 (.fa 2 (tt 3)), oo 18 (.ld (tt 17)), oo 19 (.bin .neq (tt 16) (tt 18))]
abbrev c_laws_eqArc_6 : List GOp := [oo 4 (.mv (cb  false))]
abbrev c_laws_eqArc_7 : List GOp := [oo 4 (.mv (cb  true))]
abbrev c_laws_eqArc : GCode := .seq (.reg c_laws_eqArc_0) (.seq (.seq (.reg c_laws_eqArc_1) (.cond (tt 9) (.seq (.reg c_laws_eqArc_2) (.ret)) (.skip))) (.seq (.seq (.reg c_laws_eqArc_3) (.cond (tt 14) (.seq (.reg c_laws_eqArc_4) (.ret)) (.skip))) (.seq (.seq (.reg c_laws_eqArc_5) (.cond (tt 19) (.seq (.reg c_laws_eqArc_6) (.ret)) (.skip))) (.seq (.reg c_laws_eqArc_7) (.ret)))))
theorem c_laws_eqArc_d : decFn Try.prog Try.f245 = some (20, [.t 4], c_laws_eqArc) := by kernel_rfl
theorem c_laws_eqArc_i {args : List Value} {G : GH} {K : Value → GH → Prop} (hn : args.length ≤ 20) (h : gW Try.prog c_laws_eqArc (RetK [.t 4] K) (T0 args) G) : GC Try.prog 245 args G K := GC_intro mixed Try.func245 c_laws_eqArc_d hn h
abbrev c_laws_eqArcS_0 : List GOp := [oo 4 (.mv (cb  false))]
abbrev c_laws_eqArcS_1 : List GOp := [oo 6 (.mv (tt 0)), oo 7 (.len (tt 6)), oo 8 (.mv (tt 1)), oo 9 (.len (tt 8)), oo 10 (.bin .neq (tt 7) (tt 9))]
abbrev c_laws_eqArcS_2 : List GOp := [oo 4 (.mv (cb  false))]
abbrev c_laws_eqArcS_3 : List GOp := [oo 5 (.mv (ci 0))]
abbrev c_laws_eqArcS_4 : List GOp := [oo 11 (.mv (tt 5)), oo 12 (.mv (tt 0)), oo 13 (.len (tt 12)), oo 14 (.bin .lss (tt 11) (tt 13))]
abbrev c_laws_eqArcS_5 : List DOp := [dl 0 (oo 17 (.mv (tt 0))), dl 1 (oo 18 (.mv (tt 5))), dl 2 (oo 19 (.ia 3 (tt 17) (tt 18))), dl 3 (oo 20 (.ldn 3 (tt 19))), dl 4 (oo 21 (.mv (tt 1))), dl 5 (oo 22 (.mv (tt 5))), dl 6 (oo 23 (.ia 3 (tt 21) (tt 22))), dl 7 (oo 24 (.ldn 3 (tt 23))), dh 8 [] (oo 25 (.call (ff 245) [tt 20, tt 24])), dl 9 (oo 26 (.un .not (tt 25)))]
abbrev c_laws_eqArcS_6 : List GOp := [oo 4 (.mv (cb  false))]
abbrev c_laws_eqArcS_7 : List GOp := [oo 15 (.mv (tt 5)), oo 16 (.bin .add (tt 15) (ci 1)), oo 5 (.mv (tt 16))]
abbrev c_laws_eqArcS_l0 : GCode := .seq (.seq (.reg c_laws_eqArcS_4) (.cond (tt 14) (.skip) (.exit 0))) (.seq (.blk 1 (.seq (.dreg c_laws_eqArcS_5) (.cond (tt 26) (.seq (.reg c_laws_eqArcS_6) (.ret)) (.skip)))) (.reg c_laws_eqArcS_7))
abbrev c_laws_eqArcS_9 : List GOp := [oo 4 (.mv (cb  true))]
abbrev c_laws_eqArcS : GCode := .seq (.reg c_laws_eqArcS_0) (.seq (.seq (.reg c_laws_eqArcS_1) (.cond (tt 10) (.seq (.reg c_laws_eqArcS_2) (.ret)) (.skip))) (.seq (.seq (.reg c_laws_eqArcS_3) (.blk 0 (.loop c_laws_eqArcS_l0))) (.seq (.reg c_laws_eqArcS_9) (.ret))))
theorem c_laws_eqArcS_d : decFn Try.prog Try.f192 = some (27, [.t 4], c_laws_eqArcS) := by kernel_rfl
theorem c_laws_eqArcS_i {args : List Value} {G : GH} {K : Value → GH → Prop} (hn : args.length ≤ 27) (h : gW Try.prog c_laws_eqArcS (RetK [.t 4] K) (T0 args) G) : GC Try.prog 192 args G K := GC_intro mixed Try.func192 c_laws_eqArcS_d hn h
abbrev c_laws_eqInt64S_0 : List GOp := [oo 4 (.mv (cb  false))]
abbrev c_laws_eqInt64S_1 : List GOp := [oo 6 (.mv (tt 0)), oo 7 (.len (tt 6)), oo 8 (.mv (tt 1)), oo 9 (.len (tt 8)), oo 10 (.bin .neq (tt 7) (tt 9))]
abbrev c_laws_eqInt64S_2 : List GOp := [oo 4 (.mv (cb  false))]
abbrev c_laws_eqInt64S_3 : List GOp := [oo 5 (.mv (ci 0))]
abbrev c_laws_eqInt64S_4 : List GOp := [oo 11 (.mv (tt 5)), oo 12 (.mv (tt 0)), oo 13 (.len (tt 12)), oo 14 (.bin .lss (tt 11) (tt 13))]
abbrev c_laws_eqInt64S_5 : List DOp := [dl 0 (oo 17 (.mv (tt 0))), dl 1 (oo 18 (.mv (tt 5))), dl 2 (oo 19 (.ia 1 (tt 17) (tt 18))), dl 3 (oo 20 (.ld (tt 19))), dl 4 (oo 21 (.mv (tt 1))), dl 5 (oo 22 (.mv (tt 5))), dl 6 (oo 23 (.ia 1 (tt 21) (tt 22))), dl 7 (oo 24 (.ld (tt 23))), dl 8 (oo 25 (.bin .neq (tt 20) (tt 24)))]
abbrev c_laws_eqInt64S_6 : List GOp := [oo 4 (.mv (cb  false))]
abbrev c_laws_eqInt64S_7 : List GOp := [oo 15 (.mv (tt 5)), oo 16 (.bin .add (tt 15) (ci 1)), oo 5 (.mv (tt 16))]
abbrev c_laws_eqInt64S_l0 : GCode := .seq (.seq (.reg c_laws_eqInt64S_4) (.cond (tt 14) (.skip) (.exit 0))) (.seq (.blk 1 (.seq (.dreg c_laws_eqInt64S_5) (.cond (tt 25) (.seq (.reg c_laws_eqInt64S_6) (.ret)) (.skip)))) (.reg c_laws_eqInt64S_7))
abbrev c_laws_eqInt64S_9 : List GOp := [oo 4 (.mv (cb  true))]
abbrev c_laws_eqInt64S : GCode := .seq (.reg c_laws_eqInt64S_0) (.seq (.seq (.reg c_laws_eqInt64S_1) (.cond (tt 10) (.seq (.reg c_laws_eqInt64S_2) (.ret)) (.skip))) (.seq (.seq (.reg c_laws_eqInt64S_3) (.blk 0 (.loop c_laws_eqInt64S_l0))) (.seq (.reg c_laws_eqInt64S_9) (.ret))))
theorem c_laws_eqInt64S_d : decFn Try.prog Try.f31 = some (26, [.t 4], c_laws_eqInt64S) := by kernel_rfl
theorem c_laws_eqInt64S_i {args : List Value} {G : GH} {K : Value → GH → Prop} (hn : args.length ≤ 26) (h : gW Try.prog c_laws_eqInt64S (RetK [.t 4] K) (T0 args) G) : GC Try.prog 31 args G K := GC_intro mixed Try.func31 c_laws_eqInt64S_d hn h
abbrev c_laws_eqNetwork_0 : List GOp := [oo 2 (.bx (tt 0)), oo 3 (.bx (tt 1)), oo 4 (.mv (cb  false))]
abbrev c_laws_eqNetwork_1 : List GOp := [oo 5 (.fa 0 (tt 2)), oo 6 (.ld (tt 5)), oo 7 (.fa 0 (tt 3)), oo 8 (.ld (tt 7)), oo 9 (.bin .neq (tt 6) (tt 8))]
abbrev c_laws_eqNetwork_2 : List GOp := [oo 4 (.mv (cb  false))]
abbrev c_laws_eqNetwork_3 : List GOp := [oo 10 (.fa 1 (tt 2)), oo 11 (.ld (tt 10)), oo 12 (.fa 1 (tt 3)), oo 13 (.ld (tt 12)), oo 14 (.bin .neq (tt 11) (tt 13))]
abbrev c_laws_eqNetwork_4 : List GOp := [oo 4 (.mv (cb  false))]
abbrev c_laws_eqNetwork_5 : List GOp := [oo 15 (.fa 2 (tt 2)), oo 16 (.ld (tt 15)), oo 17 (.fa 2 (tt 3)), oo 18 (.ld (tt 17)), oo 19 (.bin .neq (tt 16) (tt 18))]
abbrev c_laws_eqNetwork_6 : List GOp := [oo 4 (.mv (cb  false))]
abbrev c_laws_eqNetwork_7 : List GOp := [oo 20 (.fa 3 (tt 2)), oo 21 (.ld (tt 20)), oo 22 (.fa 3 (tt 3)), oo 23 (.ld (tt 22)), oo 24 (.call (ff 192) [tt 21, tt 23]), oo 25 (.un .not (tt 24))]
abbrev c_laws_eqNetwork_8 : List GOp := [oo 4 (.mv (cb  false))]
abbrev c_laws_eqNetwork_9 : List GOp := [oo 4 (.mv (cb  true))]
abbrev c_laws_eqNetwork : GCode := .seq (.reg c_laws_eqNetwork_0) (.seq (.seq (.reg c_laws_eqNetwork_1) (.cond (tt 9) (.seq (.reg c_laws_eqNetwork_2) (.ret)) (.skip))) (.seq (.seq (.reg c_laws_eqNetwork_3) (.cond (tt 14) (.seq (.reg c_laws_eqNetwork_4) (.ret)) (.skip))) (.seq (.seq (.reg c_laws_eqNetwork_5) (.cond (tt 19) (.seq (.reg c_laws_eqNetwork_6) (.ret)) (.skip))) (.seq (.seq (.reg c_laws_eqNetwork_7) (.cond (tt 25) (.seq (.reg c_laws_eqNetwork_8) (.ret)) (.skip))) (.seq (.reg c_laws_eqNetwork_9) (.ret))))))
theorem c_laws_eqNetwork_d : decFn Try.prog Try.f91 = some (26, [.t 4], c_laws_eqNetwork) := by kernel_rfl
theorem c_laws_eqNetwork_i {args : List Value} {G : GH} {K : Value → GH → Prop} (hn : args.length ≤ 26) (h : gW Try.prog c_laws_eqNetwork (RetK [.t 4] K) (T0 args) G) : GC Try.prog 91 args G K := GC_intro mixed Try.func91 c_laws_eqNetwork_d hn h
abbrev c_laws_heldInt64S_0 : List GOp := [oo 4 (.mv (ci 0))]
abbrev c_laws_heldInt64S_1 : List GOp := [oo 5 (.mv (ci 0))]
abbrev c_laws_heldInt64S_2 : List GOp := [oo 6 (.mv (tt 5)), oo 7 (.mv (tt 0)), oo 8 (.len (tt 7)), oo 9 (.bin .lss (tt 6) (tt 8))]
abbrev c_laws_heldInt64S_3 : List GOp := [oo 12 (.mv (tt 0)), oo 13 (.mv (tt 5)), oo 14 (.ia 1 (tt 12) (tt 13)), oo 15 (.ld (tt 14)), oo 16 (.mv (tt 1)), oo 17 (.bin .neq (tt 15) (tt 16))]
abbrev c_laws_heldInt64S_4 : List GOp := [oo 4 (.mv (ci (-1)))]
abbrev c_laws_heldInt64S_5 : List GOp := [oo 18 (.mv (tt 1)), oo 19 (.bin .add (tt 18) (ci 1)), oo 1 (.mv (tt 19))]
abbrev c_laws_heldInt64S_6 : List GOp := [oo 10 (.mv (tt 5)), oo 11 (.bin .add (tt 10) (ci 1)), oo 5 (.mv (tt 11))]
abbrev c_laws_heldInt64S_l0 : GCode := .seq (.seq (.reg c_laws_heldInt64S_2) (.cond (tt 9) (.skip) (.exit 0))) (.seq (.blk 1 (.seq (.seq (.reg c_laws_heldInt64S_3) (.cond (tt 17) (.seq (.reg c_laws_heldInt64S_4) (.ret)) (.skip))) (.reg c_laws_heldInt64S_5))) (.reg c_laws_heldInt64S_6))
abbrev c_laws_heldInt64S_8 : List GOp := [oo 20 (.mv (tt 1)), oo 4 (.mv (tt 20))]
abbrev c_laws_heldInt64S : GCode := .seq (.reg c_laws_heldInt64S_0) (.seq (.seq (.reg c_laws_heldInt64S_1) (.blk 0 (.loop c_laws_heldInt64S_l0))) (.seq (.reg c_laws_heldInt64S_8) (.ret)))
theorem c_laws_heldInt64S_d : decFn Try.prog Try.f35 = some (21, [.t 4], c_laws_heldInt64S) := by kernel_rfl
theorem c_laws_heldInt64S_i {args : List Value} {G : GH} {K : Value → GH → Prop} (hn : args.length ≤ 21) (h : gW Try.prog c_laws_heldInt64S (RetK [.t 4] K) (T0 args) G) : GC Try.prog 35 args G K := GC_intro mixed Try.func35 c_laws_heldInt64S_d hn h
abbrev c_laws_markArcS_0 : List GOp := [oo 4 (.mv (ci 0))]
abbrev c_laws_markArcS_1 : List GOp := [oo 5 (.mv (ci 0))]
abbrev c_laws_markArcS_2 : List GOp := [oo 6 (.mv (tt 5)), oo 7 (.mv (tt 0)), oo 8 (.len (tt 7)), oo 9 (.bin .lss (tt 6) (tt 8))]
abbrev c_laws_markArcS_3 : List GOp := [oo 12 (.mv (tt 0)), oo 13 (.mv (tt 5)), oo 14 (.mv (tt 1)), oo 15 (.ia 3 (tt 12) (tt 13)), oo 16 (.fa 0 (tt 15)), on (.st 1 (tt 16) (tt 14))]
abbrev c_laws_markArcS_4 : List GOp := [oo 17 (.mv (tt 1)), oo 18 (.bin .add (tt 17) (ci 1)), oo 1 (.mv (tt 18))]
abbrev c_laws_markArcS_5 : List GOp := [oo 19 (.mv (tt 0)), oo 20 (.mv (tt 5)), oo 21 (.mv (tt 1)), oo 22 (.ia 3 (tt 19) (tt 20)), oo 23 (.fa 1 (tt 22)), on (.st 1 (tt 23) (tt 21))]
abbrev c_laws_markArcS_6 : List GOp := [oo 24 (.mv (tt 1)), oo 25 (.bin .add (tt 24) (ci 1)), oo 1 (.mv (tt 25))]
abbrev c_laws_markArcS_7 : List GOp := [oo 26 (.mv (tt 0)), oo 27 (.mv (tt 5)), oo 28 (.mv (tt 1)), oo 29 (.ia 3 (tt 26) (tt 27)), oo 30 (.fa 2 (tt 29)), on (.st 1 (tt 30) (tt 28))]
abbrev c_laws_markArcS_8 : List GOp := [oo 31 (.mv (tt 1)), oo 32 (.bin .add (tt 31) (ci 1)), oo 1 (.mv (tt 32))]
abbrev c_laws_markArcS_9 : List GOp := [oo 10 (.mv (tt 5)), oo 11 (.bin .add (tt 10) (ci 1)), oo 5 (.mv (tt 11))]
abbrev c_laws_markArcS_l0 : GCode := .seq (.seq (.reg c_laws_markArcS_2) (.cond (tt 9) (.skip) (.exit 0))) (.seq (.blk 1 (.seq (.reg c_laws_markArcS_3) (.seq (.reg c_laws_markArcS_4) (.seq (.reg c_laws_markArcS_5) (.seq (.reg c_laws_markArcS_6) (.seq (.reg c_laws_markArcS_7) (.reg c_laws_markArcS_8))))))) (.reg c_laws_markArcS_9))
abbrev c_laws_markArcS_11 : List GOp := [oo 33 (.mv (tt 1)), oo 4 (.mv (tt 33))]
abbrev c_laws_markArcS : GCode := .seq (.reg c_laws_markArcS_0) (.seq (.seq (.reg c_laws_markArcS_1) (.blk 0 (.loop c_laws_markArcS_l0))) (.seq (.reg c_laws_markArcS_11) (.ret)))
theorem c_laws_markArcS_d : decFn Try.prog Try.f193 = some (34, [.t 4], c_laws_markArcS) := by kernel_rfl
theorem c_laws_markArcS_i {args : List Value} {G : GH} {K : Value → GH → Prop} (hn : args.length ≤ 34) (h : gW Try.prog c_laws_markArcS (RetK [.t 4] K) (T0 args) G) : GC Try.prog 193 args G K := GC_intro mixed Try.func193 c_laws_markArcS_d hn h
abbrev c_laws_markInt64S_0 : List GOp := [oo 4 (.mv (ci 0))]
abbrev c_laws_markInt64S_1 : List GOp := [oo 5 (.mv (ci 0))]
abbrev c_laws_markInt64S_2 : List GOp := [oo 6 (.mv (tt 5)), oo 7 (.mv (tt 0)), oo 8 (.len (tt 7)), oo 9 (.bin .lss (tt 6) (tt 8))]
abbrev c_laws_markInt64S_3 : List GOp := [oo 12 (.mv (tt 0)), oo 13 (.mv (tt 5)), oo 14 (.mv (tt 1)), oo 15 (.ia 1 (tt 12) (tt 13)), on (.st 1 (tt 15) (tt 14))]
abbrev c_laws_markInt64S_4 : List GOp := [oo 16 (.mv (tt 1)), oo 17 (.bin .add (tt 16) (ci 1)), oo 1 (.mv (tt 17))]
abbrev c_laws_markInt64S_5 : List GOp := [oo 10 (.mv (tt 5)), oo 11 (.bin .add (tt 10) (ci 1)), oo 5 (.mv (tt 11))]
abbrev c_laws_markInt64S_l0 : GCode := .seq (.seq (.reg c_laws_markInt64S_2) (.cond (tt 9) (.skip) (.exit 0))) (.seq (.blk 1 (.seq (.reg c_laws_markInt64S_3) (.reg c_laws_markInt64S_4))) (.reg c_laws_markInt64S_5))
abbrev c_laws_markInt64S_7 : List GOp := [oo 18 (.mv (tt 1)), oo 4 (.mv (tt 18))]
abbrev c_laws_markInt64S : GCode := .seq (.reg c_laws_markInt64S_0) (.seq (.seq (.reg c_laws_markInt64S_1) (.blk 0 (.loop c_laws_markInt64S_l0))) (.seq (.reg c_laws_markInt64S_7) (.ret)))
theorem c_laws_markInt64S_d : decFn Try.prog Try.f34 = some (19, [.t 4], c_laws_markInt64S) := by kernel_rfl
theorem c_laws_markInt64S_i {args : List Value} {G : GH} {K : Value → GH → Prop} (hn : args.length ≤ 19) (h : gW Try.prog c_laws_markInt64S (RetK [.t 4] K) (T0 args) G) : GC Try.prog 34 args G K := GC_intro mixed Try.func34 c_laws_markInt64S_d hn h
abbrev c_laws_markNetwork_0 : List GOp := [oo 2 (.bx (tt 0)), oo 4 (.mv (ci 0))]
abbrev c_laws_markNetwork_1 : List GOp := [oo 5 (.fa 3 (tt 2)), oo 6 (.ld (tt 5)), oo 7 (.mv (tt 1)), oo 8 (.call (ff 193) [tt 6, tt 7]), oo 1 (.mv (tt 8))]
abbrev c_laws_markNetwork_2 : List GOp := [oo 9 (.mv (tt 1)), oo 4 (.mv (tt 9))]
abbrev c_laws_markNetwork : GCode := .seq (.reg c_laws_markNetwork_0) (.seq (.reg c_laws_markNetwork_1) (.seq (.reg c_laws_markNetwork_2) (.ret)))
theorem c_laws_markNetwork_d : decFn Try.prog Try.f92 = some (10, [.t 4], c_laws_markNetwork) := by kernel_rfl
theorem c_laws_markNetwork_i {args : List Value} {G : GH} {K : Value → GH → Prop} (hn : args.length ≤ 10) (h : gW Try.prog c_laws_markNetwork (RetK [.t 4] K) (T0 args) G) : GC Try.prog 92 args G K := GC_intro mixed Try.func92 c_laws_markNetwork_d hn h
abbrev c_laws_szArcS_0 : List GOp := [oo 4 (.mv (ci 0))]
abbrev c_laws_szArcS_1 : List GOp := [oo 5 (.mv (tt 1)), oo 6 (.mv (tt 0)), oo 7 (.len (tt 6)), oo 8 (.bin .sub (tt 5) (tt 7)), oo 1 (.mv (tt 8))]
abbrev c_laws_szArcS_2 : List GOp := [oo 9 (.mv (tt 1)), oo 10 (.bin .lss (tt 9) (ci 0))]
abbrev c_laws_szArcS_3 : List GOp := [oo 4 (.mv (ci (-1)))]
abbrev c_laws_szArcS_4 : List GOp := [oo 11 (.mv (tt 1)), oo 4 (.mv (tt 11))]
abbrev c_laws_szArcS : GCode := .seq (.reg c_laws_szArcS_0) (.seq (.reg c_laws_szArcS_1) (.seq (.seq (.reg c_laws_szArcS_2) (.cond (tt 10) (.seq (.reg c_laws_szArcS_3) (.ret)) (.skip))) (.seq (.reg c_laws_szArcS_4) (.ret))))
theorem c_laws_szArcS_d : decFn Try.prog Try.f184 = some (12, [.t 4], c_laws_szArcS) := by kernel_rfl
theorem c_laws_szArcS_i {args : List Value} {G : GH} {K : Value → GH → Prop} (hn : args.length ≤ 12) (h : gW Try.prog c_laws_szArcS (RetK [.t 4] K) (T0 args) G) : GC Try.prog 184 args G K := GC_intro mixed Try.func184 c_laws_szArcS_d hn h
abbrev c_laws_szNetwork_0 : List GOp := [oo 2 (.bx (tt 0)), oo 4 (.mv (ci 0))]
abbrev c_laws_szNetwork_1 : List GOp := [oo 5 (.fa 3 (tt 2)), oo 6 (.ld (tt 5)), oo 7 (.mv (tt 1)), oo 8 (.call (ff 184) [tt 6, tt 7]), oo 1 (.mv (tt 8))]
abbrev c_laws_szNetwork_2 : List GOp := [oo 9 (.mv (tt 1)), oo 10 (.bin .lss (tt 9) (ci 0))]
abbrev c_laws_szNetwork_3 : List GOp := [oo 4 (.mv (ci (-1)))]
abbrev c_laws_szNetwork_4 : List GOp := [oo 11 (.mv (tt 1)), oo 4 (.mv (tt 11))]
abbrev c_laws_szNetwork : GCode := .seq (.reg c_laws_szNetwork_0) (.seq (.reg c_laws_szNetwork_1) (.seq (.seq (.reg c_laws_szNetwork_2) (.cond (tt 10) (.seq (.reg c_laws_szNetwork_3) (.ret)) (.skip))) (.seq (.reg c_laws_szNetwork_4) (.ret))))
theorem c_laws_szNetwork_d : decFn Try.prog Try.f87 = some (12, [.t 4], c_laws_szNetwork) := by kernel_rfl
theorem c_laws_szNetwork_i {args : List Value} {G : GH} {K : Value → GH → Prop} (hn : args.length ≤ 12) (h : gW Try.prog c_laws_szNetwork (RetK [.t 4] K) (T0 args) G) : GC Try.prog 87 args G K := GC_intro mixed Try.func87 c_laws_szNetwork_d hn h
abbrev c_laws_toArc_0 : List GOp := [oo 1 (.bx (tt 0)), oo 2 (.al [.int .i64 0, .int .i64 0, .int .i64 0])]
abbrev c_laws_toArc_1 : List GOp := [oo 3 (.al [.int .i64 0, .int .i64 0, .int .i64 0])]
abbrev c_laws_toArc_2 : List GOp := [oo 4 (.fa 0 (tt 1)), oo 5 (.ld (tt 4)), oo 6 (.fa 0 (tt 3)), on (.st 1 (tt 6) (tt 5))]
abbrev c_laws_toArc_3 : List GOp := [oo 7 (.fa 1 (tt 1)), oo 8 (.ld (tt 7)), oo 9 (.fa 1 (tt 3)), on (.st 1 (tt 9) (tt 8))]
abbrev c_laws_toArc_4 : List GOp := [oo 10 (.fa 2 (tt 1)), oo 11 (.ld (tt 10)), oo 12 (.fa 2 (tt 3)), on (.st 1 (tt 12) (tt 11))]
abbrev c_laws_toArc_5 : List GOp := [oo 13 (.ldn 3 (tt 3)), on (.st 3 (tt 2) (tt 13))]
abbrev c_laws_toArc : GCode := .seq (.reg c_laws_toArc_0) (.seq (.reg c_laws_toArc_1) (.seq (.reg c_laws_toArc_2) (.seq (.reg c_laws_toArc_3) (.seq (.reg c_laws_toArc_4) (.seq (.reg c_laws_toArc_5) (.ret))))))
theorem c_laws_toArc_d : decFn Try.prog Try.f240 = some (14, [.cn 2 3], c_laws_toArc) := by kernel_rfl
theorem c_laws_toArc_i {args : List Value} {G : GH} {K : Value → GH → Prop} (hn : args.length ≤ 14) (h : gW Try.prog c_laws_toArc (RetK [.cn 2 3] K) (T0 args) G) : GC Try.prog 240 args G K := GC_intro mixed Try.func240 c_laws_toArc_d hn h
abbrev c_laws_toArcS_0 : List GOp := [oo 2 (.mv (.const (.slice none 0 0)))]
abbrev c_laws_toArcS_1 : List GOp := [oo 5 (.mv (tt 0)), oo 6 (.len (tt 5)), oo 7 (.mk 3 24 [.int .i64 0, .int .i64 0, .int .i64 0] (tt 6) (tt 6)), oo 3 (.mv (tt 7))]
abbrev c_laws_toArcS_2 : List GOp := [oo 4 (.mv (ci 0))]
abbrev c_laws_toArcS_3 : List GOp := [oo 8 (.mv (tt 4)), oo 9 (.mv (tt 0)), oo 10 (.len (tt 9)), oo 11 (.bin .lss (tt 8) (tt 10))]
abbrev c_laws_toArcS_4 : List GOp := [oo 14 (.mv (tt 3)), oo 15 (.mv (tt 4)), oo 16 (.mv (tt 0)), oo 17 (.mv (tt 4)), oo 18 (.ia 3 (tt 16) (tt 17)), oo 19 (.ldn 3 (tt 18)), oo 20 (.call (ff 240) [tt 19]), oo 21 (.ia 3 (tt 14) (tt 15)), on (.st 3 (tt 21) (tt 20))]
abbrev c_laws_toArcS_5 : List GOp := [oo 12 (.mv (tt 4)), oo 13 (.bin .add (tt 12) (ci 1)), oo 4 (.mv (tt 13))]
abbrev c_laws_toArcS_l0 : GCode := .seq (.seq (.reg c_laws_toArcS_3) (.cond (tt 11) (.skip) (.exit 0))) (.seq (.blk 1 (.reg c_laws_toArcS_4)) (.reg c_laws_toArcS_5))
abbrev c_laws_toArcS_7 : List GOp := [oo 22 (.mv (tt 3)), oo 2 (.mv (tt 22))]
abbrev c_laws_toArcS : GCode := .seq (.reg c_laws_toArcS_0) (.seq (.reg c_laws_toArcS_1) (.seq (.seq (.reg c_laws_toArcS_2) (.blk 0 (.loop c_laws_toArcS_l0))) (.seq (.reg c_laws_toArcS_7) (.ret))))
theorem c_laws_toArcS_d : decFn Try.prog Try.f188 = some (23, [.t 2], c_laws_toArcS) := by kernel_rfl
theorem c_laws_toArcS_i {args : List Value} {G : GH} {K : Value → GH → Prop} (hn : args.length ≤ 23) (h : gW Try.prog c_laws_toArcS (RetK [.t 2] K) (T0 args) G) : GC Try.prog 188 args G K := GC_intro mixed Try.func188 c_laws_toArcS_d hn h
abbrev c_laws_toNetwork_0 : List GOp := [oo 1 (.bx (tt 0)), oo 2 (.al [.int .i64 0, .int .i64 0, .int .i64 0, .slice none 0 0])]
abbrev c_laws_toNetwork_1 : List GOp := [oo 3 (.al [.int .i64 0, .int .i64 0, .int .i64 0, .slice none 0 0])]
abbrev c_laws_toNetwork_2 : List GOp := [oo 4 (.fa 0 (tt 1)), oo 5 (.ld (tt 4)), oo 6 (.fa 0 (tt 3)), on (.st 1 (tt 6) (tt 5))]
abbrev c_laws_toNetwork_3 : List GOp := [oo 7 (.fa 1 (tt 1)), oo 8 (.ld (tt 7)), oo 9 (.fa 1 (tt 3)), on (.st 1 (tt 9) (tt 8))]
abbrev c_laws_toNetwork_4 : List GOp := [oo 10 (.fa 2 (tt 1)), oo 11 (.ld (tt 10)), oo 12 (.fa 2 (tt 3)), on (.st 1 (tt 12) (tt 11))]
abbrev c_laws_toNetwork_5 : List GOp := [oo 13 (.fa 3 (tt 1)), oo 14 (.ld (tt 13)), oo 15 (.call (ff 188) [tt 14]), oo 16 (.fa 3 (tt 3)), on (.st 1 (tt 16) (tt 15))]
abbrev c_laws_toNetwork_6 : List GOp := [oo 17 (.ldn 4 (tt 3)), on (.st 4 (tt 2) (tt 17))]
abbrev c_laws_toNetwork : GCode := .seq (.reg c_laws_toNetwork_0) (.seq (.reg c_laws_toNetwork_1) (.seq (.reg c_laws_toNetwork_2) (.seq (.reg c_laws_toNetwork_3) (.seq (.reg c_laws_toNetwork_4) (.seq (.reg c_laws_toNetwork_5) (.seq (.reg c_laws_toNetwork_6) (.ret)))))))
theorem c_laws_toNetwork_d : decFn Try.prog Try.f89 = some (18, [.cn 2 4], c_laws_toNetwork) := by kernel_rfl
theorem c_laws_toNetwork_i {args : List Value} {G : GH} {K : Value → GH → Prop} (hn : args.length ≤ 18) (h : gW Try.prog c_laws_toNetwork (RetK [.cn 2 4] K) (T0 args) G) : GC Try.prog 89 args G K := GC_intro mixed Try.func89 c_laws_toNetwork_d hn h
abbrev c_math_bits_Len_0 : List GOp := [oo 2 (.mv (ci 0))]
abbrev c_math_bits_Len_1 : List GOp := [oo 3 (.mv (tt 0)), oo 4 (.cvi .u32 (tt 3)), oo 5 (.call (ff 273) [tt 4]), oo 2 (.mv (tt 5))]
abbrev c_math_bits_Len_2 : List GOp := [oo 6 (.mv (tt 0)), oo 7 (.call (ff 274) [tt 6]), oo 2 (.mv (tt 7))]
abbrev c_math_bits_Len : GCode := .seq (.reg c_math_bits_Len_0) (.seq (.cond (cb  false) (.seq (.reg c_math_bits_Len_1) (.ret)) (.skip)) (.seq (.reg c_math_bits_Len_2) (.ret)))
theorem c_math_bits_Len_d : decFn Try.prog Try.f261 = some (8, [.t 2], c_math_bits_Len) := by kernel_rfl
theorem c_math_bits_Len_i {args : List Value} {G : GH} {K : Value → GH → Prop} (hn : args.length ≤ 8) (h : gW Try.prog c_math_bits_Len (RetK [.t 2] K) (T0 args) G) : GC Try.prog 261 args G K := GC_intro mixed Try.func261 c_math_bits_Len_d hn h
abbrev c_math_bits_Len64_0 : List GOp := [oo 2 (.mv (ci 0))]
abbrev c_math_bits_Len64_1 : List GOp := [oo 3 (.mv (tt 0)), oo 4 (.bin .geq (tt 3) (.const (.int .u64 4294967296)))]
abbrev c_math_bits_Len64_2 : List GOp := [oo 5 (.mv (tt 0)), oo 6 (.bin .shr (tt 5) (.const (.int .u64 32))), oo 0 (.mv (tt 6))]
abbrev c_math_bits_Len64_3 : List GOp := [oo 2 (.mv (ci 32))]
abbrev c_math_bits_Len64_4 : List GOp := [oo 7 (.mv (tt 0)), oo 8 (.bin .geq (tt 7) (.const (.int .u64 65536)))]
abbrev c_math_bits_Len64_5 : List GOp := [oo 9 (.mv (tt 0)), oo 10 (.bin .shr (tt 9) (.const (.int .u64 16))), oo 0 (.mv (tt 10))]
abbrev c_math_bits_Len64_6 : List GOp := [oo 11 (.mv (tt 2)), oo 12 (.bin .add (tt 11) (ci 16)), oo 2 (.mv (tt 12))]
abbrev c_math_bits_Len64_7 : List GOp := [oo 13 (.mv (tt 0)), oo 14 (.bin .geq (tt 13) (.const (.int .u64 256)))]
abbrev c_math_bits_Len64_8 : List GOp := [oo 15 (.mv (tt 0)), oo 16 (.bin .shr (tt 15) (.const (.int .u64 8))), oo 0 (.mv (tt 16))]
abbrev c_math_bits_Len64_9 : List GOp := [oo 17 (.mv (tt 2)), oo 18 (.bin .add (tt 17) (ci 8)), oo 2 (.mv (tt 18))]
abbrev c_math_bits_Len64_10 : List GOp := [oo 19 (.mv (tt 2)), oo 20 (.mv (tt 0)), oo 21 (.cvi .u8 (tt 20)), oo 22 (.ixs (.const (.string ⟨#[0, 1, 2, 2, 3, 3, 3, 3, 4, 4, 4, 4, 4, 4, 4, 4, 5, 5, 5, 5, 5, 5, 5, 5, 5, 5, 5, 5, 5, 5, 5, 5, 6, 6, 6, 6, 6, 6, 6, 6, 6, 6, 6, 6, 6, 6, 6, 6, 6, 6, 6, 6, 6, 6, 6, 6, 6, 6, 6, 6, 6, 6, 6, 6, 7, 7, 7, 7, 7, 7, 7, 7, 7, 7, 7, 7, 7, 7, 7, 7, 7, 7, 7, 7, 7, 7, 7, 7, 7, 7, 7, 7, 7, 7, 7, 7, 7, 7, 7, 7, 7, 7, 7, 7, 7, 7, 7, 7, 7, 7, 7, 7, 7, 7, 7, 7, 7, 7, 7, 7, 7, 7, 7, 7, 7, 7, 7, 7, 8, 8, 8, 8, 8, 8, 8, 8, 8, 8, 8, 8, 8, 8, 8, 8, 8, 8, 8, 8, 8, 8, 8, 8, 8, 8, 8, 8, 8, 8, 8, 8, 8, 8, 8, 8, 8, 8, 8, 8, 8, 8, 8, 8, 8, 8, 8, 8, 8, 8, 8, 8, 8, 8, 8, 8, 8, 8, 8, 8, 8, 8, 8, 8, 8, 8, 8, 8, 8, 8, 8, 8, 8, 8, 8, 8, 8, 8, 8, 8, 8, 8, 8, 8, 8, 8, 8, 8, 8, 8, 8, 8, 8, 8, 8, 8, 8, 8, 8, 8, 8, 8, 8, 8, 8, 8, 8, 8, 8, 8, 8, 8, 8, 8, 8, 8, 8, 8, 8, 8, 8, 8, 8, 8, 8, 8, 8, 8]⟩)) (tt 21)), oo 23 (.cvi .i64 (tt 22)), oo 24 (.bin .add (tt 19) (tt 23)), oo 2 (.mv (tt 24))]
abbrev c_math_bits_Len64 : GCode := .seq (.reg c_math_bits_Len64_0) (.seq (.seq (.reg c_math_bits_Len64_1) (.cond (tt 4) (.seq (.reg c_math_bits_Len64_2) (.reg c_math_bits_Len64_3)) (.skip))) (.seq (.seq (.reg c_math_bits_Len64_4) (.cond (tt 8) (.seq (.reg c_math_bits_Len64_5) (.reg c_math_bits_Len64_6)) (.skip))) (.seq (.seq (.reg c_math_bits_Len64_7) (.cond (tt 14) (.seq (.reg c_math_bits_Len64_8) (.reg c_math_bits_Len64_9)) (.skip))) (.seq (.reg c_math_bits_Len64_10) (.ret)))))
theorem c_math_bits_Len64_d : decFn Try.prog Try.f274 = some (25, [.t 2], c_math_bits_Len64) := by kernel_rfl
theorem c_math_bits_Len64_i {args : List Value} {G : GH} {K : Value → GH → Prop} (hn : args.length ≤ 25) (h : gW Try.prog c_math_bits_Len64 (RetK [.t 2] K) (T0 args) G) : GC Try.prog 274 args G K := GC_intro mixed Try.func274 c_math_bits_Len64_d hn h
abbrev c_slices_Contains_int64_int64_0 : List GOp := [oo 4 (.mv (cb  false))]
abbrev c_slices_Contains_int64_int64_1 : List GOp := [oo 5 (.mv (tt 0)), oo 6 (.mv (tt 1)), oo 7 (.call (ff 166) [tt 5, tt 6]), oo 8 (.bin .geq (tt 7) (ci 0)), oo 4 (.mv (tt 8))]
abbrev c_slices_Contains_int64_int64 : GCode := .seq (.reg c_slices_Contains_int64_int64_0) (.seq (.reg c_slices_Contains_int64_int64_1) (.ret))
theorem c_slices_Contains_int64_int64_d : decFn Try.prog Try.f137 = some (9, [.t 4], c_slices_Contains_int64_int64) := by kernel_rfl
theorem c_slices_Contains_int64_int64_i {args : List Value} {G : GH} {K : Value → GH → Prop} (hn : args.length ≤ 9) (h : gW Try.prog c_slices_Contains_int64_int64 (RetK [.t 4] K) (T0 args) G) : GC Try.prog 137 args G K := GC_intro mixed Try.func137 c_slices_Contains_int64_int64_d hn h
abbrev c_slices_IndexFunc_impl_Arc_impl_Arc_0 : List GOp := [oo 4 (.mv (ci 0))]
abbrev c_slices_IndexFunc_impl_Arc_impl_Arc_1 : List GOp := [oo 6 (.mv (tt 0)), oo 7 (.len (tt 6)), oo 8 (.mv (ci 0))]
abbrev c_slices_IndexFunc_impl_Arc_impl_Arc_2 : List GOp := [oo 9 (.bin .lss (tt 8) (tt 7))]
abbrev c_slices_IndexFunc_impl_Arc_impl_Arc_3 : List GOp := [oo 10 (.mv (tt 8)), oo 5 (.mv (tt 10))]
abbrev c_slices_IndexFunc_impl_Arc_impl_Arc_4 : List GOp := [oo 11 (.mv (tt 1)), oo 12 (.mv (tt 0)), oo 13 (.mv (tt 5)), oo 14 (.ia 3 (tt 12) (tt 13)), oo 15 (.ldn 3 (tt 14)), oo 16 (.call (tt 11) [tt 15])]
abbrev c_slices_IndexFunc_impl_Arc_impl_Arc_5 : List GOp := [oo 17 (.mv (tt 5)), oo 4 (.mv (tt 17))]
abbrev c_slices_IndexFunc_impl_Arc_impl_Arc_6 : List GOp := [oo 18 (.bin .add (tt 8) (ci 1)), oo 8 (.mv (tt 18))]
abbrev c_slices_IndexFunc_impl_Arc_impl_Arc_l0 : GCode := .seq (.reg c_slices_IndexFunc_impl_Arc_impl_Arc_2) (.seq (.cond (tt 9) (.skip) (.exit 0)) (.seq (.blk 1 (.seq (.reg c_slices_IndexFunc_impl_Arc_impl_Arc_3) (.seq (.reg c_slices_IndexFunc_impl_Arc_impl_Arc_4) (.cond (tt 16) (.seq (.reg c_slices_IndexFunc_impl_Arc_impl_Arc_5) (.ret)) (.skip))))) (.reg c_slices_IndexFunc_impl_Arc_impl_Arc_6)))
abbrev c_slices_IndexFunc_impl_Arc_impl_Arc_8 : List GOp := [oo 4 (.mv (ci (-1)))]
abbrev c_slices_IndexFunc_impl_Arc_impl_Arc : GCode := .seq (.reg c_slices_IndexFunc_impl_Arc_impl_Arc_0) (.seq (.seq (.reg c_slices_IndexFunc_impl_Arc_impl_Arc_1) (.blk 0 (.loop c_slices_IndexFunc_impl_Arc_impl_Arc_l0))) (.seq (.reg c_slices_IndexFunc_impl_Arc_impl_Arc_8) (.ret)))
theorem c_slices_IndexFunc_impl_Arc_impl_Arc_d : decFn Try.prog Try.f262 = some (19, [.t 4], c_slices_IndexFunc_impl_Arc_impl_Arc) := by kernel_rfl
theorem c_slices_IndexFunc_impl_Arc_impl_Arc_i {args : List Value} {G : GH} {K : Value → GH → Prop} (hn : args.length ≤ 19) (h : gW Try.prog c_slices_IndexFunc_impl_Arc_impl_Arc (RetK [.t 4] K) (T0 args) G) : GC Try.prog 262 args G K := GC_intro mixed Try.func262 c_slices_IndexFunc_impl_Arc_impl_Arc_d hn h
abbrev c_slices_Index_int64_int64_0 : List GOp := [oo 4 (.mv (ci 0))]
abbrev c_slices_Index_int64_int64_1 : List GOp := [oo 6 (.mv (tt 0)), oo 7 (.len (tt 6)), oo 8 (.mv (ci 0))]
abbrev c_slices_Index_int64_int64_2 : List GOp := [oo 9 (.bin .lss (tt 8) (tt 7))]
abbrev c_slices_Index_int64_int64_3 : List GOp := [oo 10 (.mv (tt 8)), oo 5 (.mv (tt 10))]
abbrev c_slices_Index_int64_int64_4 : List GOp := [oo 11 (.mv (tt 1)), oo 12 (.mv (tt 0)), oo 13 (.mv (tt 5)), oo 14 (.ia 1 (tt 12) (tt 13)), oo 15 (.ld (tt 14)), oo 16 (.bin .eql (tt 11) (tt 15))]
abbrev c_slices_Index_int64_int64_5 : List GOp := [oo 17 (.mv (tt 5)), oo 4 (.mv (tt 17))]
abbrev c_slices_Index_int64_int64_6 : List GOp := [oo 18 (.bin .add (tt 8) (ci 1)), oo 8 (.mv (tt 18))]
abbrev c_slices_Index_int64_int64_l0 : GCode := .seq (.reg c_slices_Index_int64_int64_2) (.seq (.cond (tt 9) (.skip) (.exit 0)) (.seq (.blk 1 (.seq (.reg c_slices_Index_int64_int64_3) (.seq (.reg c_slices_Index_int64_int64_4) (.cond (tt 16) (.seq (.reg c_slices_Index_int64_int64_5) (.ret)) (.skip))))) (.reg c_slices_Index_int64_int64_6)))
abbrev c_slices_Index_int64_int64_8 : List GOp := [oo 4 (.mv (ci (-1)))]
abbrev c_slices_Index_int64_int64 : GCode := .seq (.reg c_slices_Index_int64_int64_0) (.seq (.seq (.reg c_slices_Index_int64_int64_1) (.blk 0 (.loop c_slices_Index_int64_int64_l0))) (.seq (.reg c_slices_Index_int64_int64_8) (.ret)))
theorem c_slices_Index_int64_int64_d : decFn Try.prog Try.f166 = some (19, [.t 4], c_slices_Index_int64_int64) := by kernel_rfl
theorem c_slices_Index_int64_int64_i {args : List Value} {G : GH} {K : Value → GH → Prop} (hn : args.length ≤ 19) (h : gW Try.prog c_slices_Index_int64_int64 (RetK [.t 4] K) (T0 args) G) : GC Try.prog 166 args G K := GC_intro mixed Try.func166 c_slices_Index_int64_int64_d hn h
abbrev c_slices_Sort_int64_int64_0 : List GOp := [oo 3 (.mv (tt 0)), oo 4 (.len (tt 3)), oo 2 (.mv (tt 4))]
abbrev c_slices_Sort_int64_int64_1 : List GOp := [oo 5 (.mv (tt 0)), oo 6 (.mv (tt 2)), oo 7 (.mv (tt 2)), oo 8 (.cvi .u64 (tt 7)), oo 9 (.call (ff 261) [tt 8]), oo 10 (.call (ff 260) [tt 5, (ci 0), tt 6, tt 9])]
abbrev c_slices_Sort_int64_int64 : GCode := .seq (.reg c_slices_Sort_int64_int64_0) (.reg c_slices_Sort_int64_int64_1)
theorem c_slices_Sort_int64_int64_d : decFn Try.prog Try.f244 = some (11, [], c_slices_Sort_int64_int64) := by kernel_rfl
theorem c_slices_Sort_int64_int64_i {args : List Value} {G : GH} {K : Value → GH → Prop} (hn : args.length ≤ 11) (h : gW Try.prog c_slices_Sort_int64_int64 (RetK [] K) (T0 args) G) : GC Try.prog 244 args G K := GC_intro mixed Try.func244 c_slices_Sort_int64_int64_d hn h
abbrev c_slices_insertionSortOrdered_int64_0 : List GOp := [oo 8 (.mv (tt 1)), oo 9 (.bin .add (tt 8) (ci 1)), oo 6 (.mv (tt 9))]
abbrev c_slices_insertionSortOrdered_int64_1 : List GOp := [oo 10 (.mv (tt 6)), oo 11 (.mv (tt 2)), oo 12 (.bin .lss (tt 10) (tt 11))]
abbrev c_slices_insertionSortOrdered_int64_2 : List GOp := [oo 15 (.mv (tt 6)), oo 7 (.mv (tt 15))]
abbrev c_slices_insertionSortOrdered_int64_3 : List DOp := [dl 0 (oo 16 (.mv (tt 7))), dl 1 (oo 17 (.mv (tt 1))), dl 2 (oo 18 (.bin .gtr (tt 16) (tt 17))), dl 3 (oo 19 (.mv (tt 18))), dl 4 (og 20 19 true (.mv (tt 0))), dl 5 (og 21 19 true (.mv (tt 7))), dl 6 (og 22 19 true (.ia 1 (tt 20) (tt 21))), dl 7 (og 23 19 true (.ld (tt 22))), dl 8 (og 24 19 true (.mv (tt 0))), dl 9 (og 25 19 true (.mv (tt 7))), dl 10 (og 26 19 true (.bin .sub (tt 25) (ci 1))), dl 11 (og 27 19 true (.ia 1 (tt 24) (tt 26))), dl 12 (og 28 19 true (.ld (tt 27))), dh 13 [] (og 29 19 true (.call (ff 270) [tt 23, tt 28])), dl 14 (oo 30 (.pick (tt 19) (tt 29) (cb  false)))]
abbrev c_slices_insertionSortOrdered_int64_4 : List DOp := [dl 0 (oo 33 (.mv (tt 0))), dl 1 (oo 34 (.mv (tt 7))), dl 2 (oo 35 (.mv (tt 0))), dl 3 (oo 36 (.mv (tt 7))), dl 4 (oo 37 (.bin .sub (tt 36) (ci 1))), dl 5 (oo 38 (.mv (tt 0))), dl 6 (oo 39 (.mv (tt 7))), dl 7 (oo 40 (.bin .sub (tt 39) (ci 1))), dl 8 (oo 41 (.ia 1 (tt 38) (tt 40))), dl 9 (oo 42 (.ld (tt 41))), dl 10 (oo 43 (.mv (tt 0))), dl 11 (oo 44 (.mv (tt 7))), dl 12 (oo 45 (.ia 1 (tt 43) (tt 44))), dl 13 (oo 46 (.ld (tt 45))), dl 14 (oo 47 (.ia 1 (tt 33) (tt 34))), dh 15 [] (on (.st 1 (tt 47) (tt 42))), dl 16 (oo 48 (.ia 1 (tt 35) (tt 37))), dh 17 [] (on (.st 1 (tt 48) (tt 46)))]
abbrev c_slices_insertionSortOrdered_int64_5 : List GOp := [oo 31 (.mv (tt 7)), oo 32 (.bin .sub (tt 31) (ci 1)), oo 7 (.mv (tt 32))]
abbrev c_slices_insertionSortOrdered_int64_l0 : GCode := .seq (.seq (.dreg c_slices_insertionSortOrdered_int64_3) (.cond (tt 30) (.skip) (.exit 2))) (.seq (.blk 3 (.dreg c_slices_insertionSortOrdered_int64_4)) (.reg c_slices_insertionSortOrdered_int64_5))
abbrev c_slices_insertionSortOrdered_int64_7 : List GOp := [oo 13 (.mv (tt 6)), oo 14 (.bin .add (tt 13) (ci 1)), oo 6 (.mv (tt 14))]
abbrev c_slices_insertionSortOrdered_int64_l1 : GCode := .seq (.seq (.reg c_slices_insertionSortOrdered_int64_1) (.cond (tt 12) (.skip) (.exit 0))) (.seq (.blk 1 (.seq (.reg c_slices_insertionSortOrdered_int64_2) (.blk 2 (.loop c_slices_insertionSortOrdered_int64_l0)))) (.reg c_slices_insertionSortOrdered_int64_7))
abbrev c_slices_insertionSortOrdered_int64 : GCode := .seq (.reg c_slices_insertionSortOrdered_int64_0) (.blk 0 (.loop c_slices_insertionSortOrdered_int64_l1))
theorem c_slices_insertionSortOrdered_int64_d : decFn Try.prog Try.f264 = some (49, [], c_slices_insertionSortOrdered_int64) := by kernel_rfl
theorem c_slices_insertionSortOrdered_int64_i {args : List Value} {G : GH} {K : Value → GH → Prop} (hn : args.length ≤ 49) (h : gW Try.prog c_slices_insertionSortOrdered_int64 (RetK [] K) (T0 args) G) : GC Try.prog 264 args G K := GC_intro mixed Try.func264 c_slices_insertionSortOrdered_int64_d hn h
abbrev c_slices_pdqsortOrdered_int64_0 : List GOp := [oo 8 (.mv (cb  true))]
abbrev c_slices_pdqsortOrdered_int64_1 : List GOp := [oo 9 (.mv (cb  true))]
abbrev c_slices_pdqsortOrdered_int64_2 : List GOp := [oo 19 (.mv (tt 2)), oo 20 (.mv (tt 1)), oo 21 (.bin .sub (tt 19) (tt 20)), oo 10 (.mv (tt 21))]
abbrev c_slices_pdqsortOrdered_int64_3 : List GOp := [oo 22 (.mv (tt 10)), oo 23 (.bin .leq (tt 22) (ci 12))]
abbrev c_slices_pdqsortOrdered_int64_4 : List GOp := [oo 24 (.mv (tt 0)), oo 25 (.mv (tt 1)), oo 26 (.mv (tt 2)), oo 27 (.call (ff 264) [tt 24, tt 25, tt 26])]
abbrev c_slices_pdqsortOrdered_int64_5 : List GOp := [oo 28 (.mv (tt 3)), oo 29 (.bin .eql (tt 28) (ci 0))]
abbrev c_slices_pdqsortOrdered_int64_6 : List GOp := [oo 30 (.mv (tt 0)), oo 31 (.mv (tt 1)), oo 32 (.mv (tt 2)), oo 33 (.call (ff 265) [tt 30, tt 31, tt 32])]
abbrev c_slices_pdqsortOrdered_int64_7 : List GOp := [oo 34 (.mv (tt 8)), oo 35 (.un .not (tt 34))]
abbrev c_slices_pdqsortOrdered_int64_8 : List GOp := [oo 36 (.mv (tt 0)), oo 37 (.mv (tt 1)), oo 38 (.mv (tt 2)), oo 39 (.call (ff 266) [tt 36, tt 37, tt 38])]
abbrev c_slices_pdqsortOrdered_int64_9 : List GOp := [oo 40 (.mv (tt 3)), oo 41 (.bin .sub (tt 40) (ci 1)), oo 3 (.mv (tt 41))]
abbrev c_slices_pdqsortOrdered_int64_10 : List GOp := [oo 43 (.mv (tt 0)), oo 44 (.mv (tt 1)), oo 45 (.mv (tt 2)), oo 46 (.call (ff 267) [tt 43, tt 44, tt 45]), oo 42 (.mv (tt 46)), oo 47 (.ex 0 (tt 42)), oo 48 (.ex 1 (tt 42)), oo 11 (.mv (tt 47)), oo 12 (.mv (tt 48))]
abbrev c_slices_pdqsortOrdered_int64_11 : List GOp := [oo 49 (.mv (tt 12)), oo 50 (.bin .eql (tt 49) (ci 2))]
abbrev c_slices_pdqsortOrdered_int64_12 : List GOp := [oo 51 (.mv (tt 0)), oo 52 (.mv (tt 1)), oo 53 (.mv (tt 2)), oo 54 (.call (ff 268) [tt 51, tt 52, tt 53])]
abbrev c_slices_pdqsortOrdered_int64_13 : List GOp := [oo 55 (.mv (tt 2)), oo 56 (.bin .sub (tt 55) (ci 1)), oo 57 (.mv (tt 11)), oo 58 (.mv (tt 1)), oo 59 (.bin .sub (tt 57) (tt 58)), oo 60 (.bin .sub (tt 56) (tt 59)), oo 11 (.mv (tt 60))]
abbrev c_slices_pdqsortOrdered_int64_14 : List GOp := [oo 12 (.mv (ci 1))]
abbrev c_slices_pdqsortOrdered_int64_15 : List GOp := [oo 61 (.mv (tt 8)), oo 62 (.mv (tt 61)), og 63 62 true (.mv (tt 9)), oo 64 (.pick (tt 62) (tt 63) (cb  false)), oo 65 (.mv (tt 64)), og 66 65 true (.mv (tt 12)), og 67 65 true (.bin .eql (tt 66) (ci 1)), oo 68 (.pick (tt 65) (tt 67) (cb  false))]
abbrev c_slices_pdqsortOrdered_int64_16 : List GOp := [oo 69 (.mv (tt 0)), oo 70 (.mv (tt 1)), oo 71 (.mv (tt 2)), oo 72 (.call (ff 269) [tt 69, tt 70, tt 71])]
abbrev c_slices_pdqsortOrdered_int64_17 : List DOp := [dl 0 (oo 73 (.mv (tt 1))), dl 1 (oo 74 (.bin .gtr (tt 73) (ci 0))), dl 2 (oo 75 (.mv (tt 74))), dl 3 (og 76 75 true (.mv (tt 0))), dl 4 (og 77 75 true (.mv (tt 1))), dl 5 (og 78 75 true (.bin .sub (tt 77) (ci 1))), dl 6 (og 79 75 true (.ia 1 (tt 76) (tt 78))), dl 7 (og 80 75 true (.ld (tt 79))), dl 8 (og 81 75 true (.mv (tt 0))), dl 9 (og 82 75 true (.mv (tt 11))), dl 10 (og 83 75 true (.ia 1 (tt 81) (tt 82))), dl 11 (og 84 75 true (.ld (tt 83))), dh 12 [] (og 85 75 true (.call (ff 270) [tt 80, tt 84])), dl 13 (og 86 75 true (.un .not (tt 85))), dl 14 (oo 87 (.pick (tt 75) (tt 86) (cb  false)))]
abbrev c_slices_pdqsortOrdered_int64_18 : List GOp := [oo 88 (.mv (tt 0)), oo 89 (.mv (tt 1)), oo 90 (.mv (tt 2)), oo 91 (.mv (tt 11)), oo 92 (.call (ff 271) [tt 88, tt 89, tt 90, tt 91]), oo 13 (.mv (tt 92))]
abbrev c_slices_pdqsortOrdered_int64_19 : List GOp := [oo 93 (.mv (tt 13)), oo 1 (.mv (tt 93))]
abbrev c_slices_pdqsortOrdered_int64_20 : List GOp := [oo 95 (.mv (tt 0)), oo 96 (.mv (tt 1)), oo 97 (.mv (tt 2)), oo 98 (.mv (tt 11)), oo 99 (.call (ff 272) [tt 95, tt 96, tt 97, tt 98]), oo 94 (.mv (tt 99)), oo 100 (.ex 0 (tt 94)), oo 101 (.ex 1 (tt 94)), oo 14 (.mv (tt 100)), oo 15 (.mv (tt 101))]
abbrev c_slices_pdqsortOrdered_int64_21 : List GOp := [oo 102 (.mv (tt 15)), oo 9 (.mv (tt 102))]
abbrev c_slices_pdqsortOrdered_int64_22 : List GOp := [oo 103 (.mv (tt 14)), oo 104 (.mv (tt 1)), oo 105 (.bin .sub (tt 103) (tt 104)), oo 106 (.mv (tt 2)), oo 107 (.mv (tt 14)), oo 108 (.bin .sub (tt 106) (tt 107)), oo 16 (.mv (tt 105)), oo 17 (.mv (tt 108))]
abbrev c_slices_pdqsortOrdered_int64_23 : List GOp := [oo 109 (.mv (tt 10)), oo 110 (.bin .quo (tt 109) (ci 8)), oo 18 (.mv (tt 110))]
abbrev c_slices_pdqsortOrdered_int64_24 : List GOp := [oo 111 (.mv (tt 16)), oo 112 (.mv (tt 17)), oo 113 (.bin .lss (tt 111) (tt 112))]
abbrev c_slices_pdqsortOrdered_int64_25 : List GOp := [oo 114 (.mv (tt 16)), oo 115 (.mv (tt 18)), oo 116 (.bin .geq (tt 114) (tt 115)), oo 8 (.mv (tt 116))]
abbrev c_slices_pdqsortOrdered_int64_26 : List GOp := [oo 117 (.mv (tt 0)), oo 118 (.mv (tt 1)), oo 119 (.mv (tt 14)), oo 120 (.mv (tt 3)), oo 121 (.call (ff 260) [tt 117, tt 118, tt 119, tt 120])]
abbrev c_slices_pdqsortOrdered_int64_27 : List GOp := [oo 122 (.mv (tt 14)), oo 123 (.bin .add (tt 122) (ci 1)), oo 1 (.mv (tt 123))]
abbrev c_slices_pdqsortOrdered_int64_28 : List GOp := [oo 124 (.mv (tt 17)), oo 125 (.mv (tt 18)), oo 126 (.bin .geq (tt 124) (tt 125)), oo 8 (.mv (tt 126))]
abbrev c_slices_pdqsortOrdered_int64_29 : List GOp := [oo 127 (.mv (tt 0)), oo 128 (.mv (tt 14)), oo 129 (.bin .add (tt 128) (ci 1)), oo 130 (.mv (tt 2)), oo 131 (.mv (tt 3)), oo 132 (.call (ff 260) [tt 127, tt 129, tt 130, tt 131])]
abbrev c_slices_pdqsortOrdered_int64_30 : List GOp := [oo 133 (.mv (tt 14)), oo 2 (.mv (tt 133))]
abbrev c_slices_pdqsortOrdered_int64_l0 : GCode := .blk 1 (.seq (.reg c_slices_pdqsortOrdered_int64_2) (.seq (.seq (.reg c_slices_pdqsortOrdered_int64_3) (.cond (tt 23) (.seq (.reg c_slices_pdqsortOrdered_int64_4) (.ret)) (.skip))) (.seq (.seq (.reg c_slices_pdqsortOrdered_int64_5) (.cond (tt 29) (.seq (.reg c_slices_pdqsortOrdered_int64_6) (.ret)) (.skip))) (.seq (.seq (.reg c_slices_pdqsortOrdered_int64_7) (.cond (tt 35) (.seq (.reg c_slices_pdqsortOrdered_int64_8) (.reg c_slices_pdqsortOrdered_int64_9)) (.skip))) (.seq (.reg c_slices_pdqsortOrdered_int64_10) (.seq (.seq (.reg c_slices_pdqsortOrdered_int64_11) (.cond (tt 50) (.seq (.reg c_slices_pdqsortOrdered_int64_12) (.seq (.reg c_slices_pdqsortOrdered_int64_13) (.reg c_slices_pdqsortOrdered_int64_14))) (.skip))) (.seq (.seq (.reg c_slices_pdqsortOrdered_int64_15) (.cond (tt 68) (.seq (.reg c_slices_pdqsortOrdered_int64_16) (.cond (tt 72) (.ret) (.skip))) (.skip))) (.seq (.seq (.dreg c_slices_pdqsortOrdered_int64_17) (.cond (tt 87) (.seq (.reg c_slices_pdqsortOrdered_int64_18) (.seq (.reg c_slices_pdqsortOrdered_int64_19) (.exit 1))) (.skip))) (.seq (.reg c_slices_pdqsortOrdered_int64_20) (.seq (.reg c_slices_pdqsortOrdered_int64_21) (.seq (.reg c_slices_pdqsortOrdered_int64_22) (.seq (.reg c_slices_pdqsortOrdered_int64_23) (.seq (.reg c_slices_pdqsortOrdered_int64_24) (.cond (tt 113) (.seq (.reg c_slices_pdqsortOrdered_int64_25) (.seq (.reg c_slices_pdqsortOrdered_int64_26) (.reg c_slices_pdqsortOrdered_int64_27))) (.seq (.reg c_slices_pdqsortOrdered_int64_28) (.seq (.reg c_slices_pdqsortOrdered_int64_29) (.reg c_slices_pdqsortOrdered_int64_30)))))))))))))))))
abbrev c_slices_pdqsortOrdered_int64 : GCode := .seq (.reg c_slices_pdqsortOrdered_int64_0) (.seq (.reg c_slices_pdqsortOrdered_int64_1) (.blk 0 (.loop c_slices_pdqsortOrdered_int64_l0)))
theorem c_slices_pdqsortOrdered_int64_d : decFn Try.prog Try.f260 = some (134, [], c_slices_pdqsortOrdered_int64) := by kernel_rfl
theorem c_slices_pdqsortOrdered_int64_i {args : List Value} {G : GH} {K : Value → GH → Prop} (hn : args.length ≤ 134) (h : gW Try.prog c_slices_pdqsortOrdered_int64 (RetK [] K) (T0 args) G) : GC Try.prog 260 args G K := GC_intro mixed Try.func260 c_slices_pdqsortOrdered_int64_d hn h
abbrev c_spec_NarrowCut_0 : List GOp := [oo 1 (.bx (tt 0)), oo 2 (.mv (.const (.slice none 0 0))), oo 3 (.mv (ci 0)), oo 4 (.mv (ci 0))]
abbrev c_spec_NarrowCut_1 : List GOp := [oo 8 (.call (ff 185) [tt 1]), oo 9 (.un .not (tt 8))]
abbrev c_spec_NarrowCut_2 : List GOp := [oo 2 (.mv (.const (.slice none 0 0))), oo 3 (.mv (ci 0)), oo 4 (.mv (ci 1))]
abbrev c_spec_NarrowCut_3 : List GOp := [oo 10 (.call (ff 186) [tt 1]), oo 11 (.call (ff 194) [tt 1, tt 10]), oo 5 (.mv (tt 11))]
abbrev c_spec_NarrowCut_4 : List GOp := [oo 12 (.bs 1 []), oo 6 (.mv (tt 12))]
abbrev c_spec_NarrowCut_5 : List GOp := [oo 7 (.mv (ci 0))]
abbrev c_spec_NarrowCut_6 : List GOp := [oo 13 (.mv (tt 7)), oo 14 (.fa 0 (tt 1)), oo 15 (.ld (tt 14)), oo 16 (.bin .lss (tt 13) (tt 15))]
abbrev c_spec_NarrowCut_7 : List GOp := [oo 19 (.mv (tt 5)), oo 20 (.mv (tt 7)), oo 21 (.ia 1 (tt 19) (tt 20)), oo 22 (.ld (tt 21)), oo 23 (.bin .geq (tt 22) (ci 0))]
abbrev c_spec_NarrowCut_8 : List GOp := [oo 24 (.mv (tt 6)), oo 25 (.mv (tt 7)), oo 26 (.bs 1 [tt 25]), oo 27 (.ap 1 8 [.int .i64 0] (tt 24) (tt 26)), oo 6 (.mv (tt 27))]
abbrev c_spec_NarrowCut_9 : List GOp := [oo 17 (.mv (tt 7)), oo 18 (.bin .add (tt 17) (ci 1)), oo 7 (.mv (tt 18))]
abbrev c_spec_NarrowCut_l0 : GCode := .seq (.seq (.reg c_spec_NarrowCut_6) (.cond (tt 16) (.skip) (.exit 0))) (.seq (.blk 1 (.seq (.reg c_spec_NarrowCut_7) (.cond (tt 23) (.reg c_spec_NarrowCut_8) (.skip)))) (.reg c_spec_NarrowCut_9))
abbrev c_spec_NarrowCut_11 : List GOp := [oo 28 (.mv (tt 6)), oo 29 (.mv (tt 6)), oo 30 (.call (ff 195) [tt 1, tt 29]), oo 2 (.mv (tt 28)), oo 3 (.mv (tt 30)), oo 4 (.mv (ci 0))]
abbrev c_spec_NarrowCut : GCode := .seq (.reg c_spec_NarrowCut_0) (.seq (.seq (.reg c_spec_NarrowCut_1) (.cond (tt 9) (.seq (.reg c_spec_NarrowCut_2) (.ret)) (.skip))) (.seq (.reg c_spec_NarrowCut_3) (.seq (.reg c_spec_NarrowCut_4) (.seq (.seq (.reg c_spec_NarrowCut_5) (.blk 0 (.loop c_spec_NarrowCut_l0))) (.seq (.reg c_spec_NarrowCut_11) (.ret))))))
theorem c_spec_NarrowCut_d : decFn Try.prog Try.f93 = some (31, [.t 2, .t 3, .t 4], c_spec_NarrowCut) := by kernel_rfl
theorem c_spec_NarrowCut_i {args : List Value} {G : GH} {K : Value → GH → Prop} (hn : args.length ≤ 31) (h : gW Try.prog c_spec_NarrowCut (RetK [.t 2, .t 3, .t 4] K) (T0 args) G) : GC Try.prog 93 args G K := GC_intro mixed Try.func93 c_spec_NarrowCut_d hn h
abbrev c_spec_l00Has_0 : List GOp := [oo 4 (.mv (cb  false))]
abbrev c_spec_l00Has_1 : List GOp := [oo 5 (.mv (ci 0))]
abbrev c_spec_l00Has_2 : List GOp := [oo 6 (.mv (tt 5)), oo 7 (.mv (tt 0)), oo 8 (.len (tt 7)), oo 9 (.bin .lss (tt 6) (tt 8))]
abbrev c_spec_l00Has_3 : List GOp := [oo 12 (.mv (tt 0)), oo 13 (.mv (tt 5)), oo 14 (.ia 1 (tt 12) (tt 13)), oo 15 (.ld (tt 14)), oo 16 (.mv (tt 1)), oo 17 (.bin .eql (tt 15) (tt 16))]
abbrev c_spec_l00Has_4 : List GOp := [oo 4 (.mv (cb  true))]
abbrev c_spec_l00Has_5 : List GOp := [oo 10 (.mv (tt 5)), oo 11 (.bin .add (tt 10) (ci 1)), oo 5 (.mv (tt 11))]
abbrev c_spec_l00Has_l0 : GCode := .seq (.seq (.reg c_spec_l00Has_2) (.cond (tt 9) (.skip) (.exit 0))) (.seq (.blk 1 (.seq (.reg c_spec_l00Has_3) (.cond (tt 17) (.seq (.reg c_spec_l00Has_4) (.ret)) (.skip)))) (.reg c_spec_l00Has_5))
abbrev c_spec_l00Has_7 : List GOp := [oo 4 (.mv (cb  false))]
abbrev c_spec_l00Has : GCode := .seq (.reg c_spec_l00Has_0) (.seq (.seq (.reg c_spec_l00Has_1) (.blk 0 (.loop c_spec_l00Has_l0))) (.seq (.reg c_spec_l00Has_7) (.ret)))
theorem c_spec_l00Has_d : decFn Try.prog Try.f134 = some (18, [.t 4], c_spec_l00Has) := by kernel_rfl
theorem c_spec_l00Has_i {args : List Value} {G : GH} {K : Value → GH → Prop} (hn : args.length ≤ 18) (h : gW Try.prog c_spec_l00Has (RetK [.t 4] K) (T0 args) G) : GC Try.prog 134 args G K := GC_intro mixed Try.func134 c_spec_l00Has_d hn h
abbrev c_spec_l00In_0 : List GOp := [oo 6 (.mv (cb  false))]
abbrev c_spec_l00In_1 : List GOp := [oo 7 (.mv (tt 0)), oo 8 (.mv (tt 1)), oo 9 (.bin .geq (tt 7) (tt 8)), oo 10 (.mv (tt 9)), og 11 10 true (.mv (tt 0)), og 12 10 true (.mv (tt 2)), og 13 10 true (.bin .leq (tt 11) (tt 12)), oo 14 (.pick (tt 10) (tt 13) (cb  false)), oo 6 (.mv (tt 14))]
abbrev c_spec_l00In : GCode := .seq (.reg c_spec_l00In_0) (.seq (.reg c_spec_l00In_1) (.ret))
theorem c_spec_l00In_d : decFn Try.prog Try.f121 = some (15, [.t 6], c_spec_l00In) := by kernel_rfl
theorem c_spec_l00In_i {args : List Value} {G : GH} {K : Value → GH → Prop} (hn : args.length ≤ 15) (h : gW Try.prog c_spec_l00In (RetK [.t 6] K) (T0 args) G) : GC Try.prog 121 args G K := GC_intro mixed Try.func121 c_spec_l00In_d hn h
abbrev c_spec_l00Min_0 : List GOp := [oo 4 (.mv (ci 0))]
abbrev c_spec_l00Min_1 : List GOp := [oo 5 (.mv (tt 0)), oo 6 (.mv (tt 1)), oo 7 (.bin .lss (tt 5) (tt 6))]
abbrev c_spec_l00Min_2 : List GOp := [oo 8 (.mv (tt 0)), oo 4 (.mv (tt 8))]
abbrev c_spec_l00Min_3 : List GOp := [oo 9 (.mv (tt 1)), oo 4 (.mv (tt 9))]
abbrev c_spec_l00Min : GCode := .seq (.reg c_spec_l00Min_0) (.seq (.seq (.reg c_spec_l00Min_1) (.cond (tt 7) (.seq (.reg c_spec_l00Min_2) (.ret)) (.skip))) (.seq (.reg c_spec_l00Min_3) (.ret)))
theorem c_spec_l00Min_d : decFn Try.prog Try.f206 = some (10, [.t 4], c_spec_l00Min) := by kernel_rfl
theorem c_spec_l00Min_i {args : List Value} {G : GH} {K : Value → GH → Prop} (hn : args.length ≤ 10) (h : gW Try.prog c_spec_l00Min (RetK [.t 4] K) (T0 args) G) : GC Try.prog 206 args G K := GC_intro mixed Try.func206 c_spec_l00Min_d hn h
abbrev c_spec_l19Capacity_0 : List GOp := [oo 4 (.mv (ci 0))]
abbrev c_spec_l19Capacity_1 : List GOp := [oo 5 (.mv (ci 0))]
abbrev c_spec_l19Capacity_2 : List GOp := [oo 6 (.mv (ci 0))]
abbrev c_spec_l19Capacity_3 : List GOp := [oo 7 (.mv (tt 6)), oo 8 (.mv (tt 0)), oo 9 (.nc (tt 8)), oo 10 (.fa 3 (tt 9)), oo 11 (.ld (tt 10)), oo 12 (.len (tt 11)), oo 13 (.bin .lss (tt 7) (tt 12))]
abbrev c_spec_l19Capacity_4 : List GOp := [oo 16 (.mv (tt 1)), oo 17 (.mv (tt 0)), oo 18 (.nc (tt 17)), oo 19 (.fa 3 (tt 18)), oo 20 (.ld (tt 19)), oo 21 (.mv (tt 6)), oo 22 (.ia 3 (tt 20) (tt 21)), oo 23 (.fa 0 (tt 22)), oo 24 (.ld (tt 23)), oo 25 (.call (ff 134) [tt 16, tt 24]), oo 26 (.mv (tt 25)), og 27 26 true (.mv (tt 1)), og 28 26 true (.mv (tt 0)), og 29 26 true (.nc (tt 28)), og 30 26 true (.fa 3 (tt 29)), og 31 26 true (.ld (tt 30)), og 32 26 true (.mv (tt 6)), og 33 26 true (.ia 3 (tt 31) (tt 32)), og 34 26 true (.fa 1 (tt 33)), og 35 26 true (.ld (tt 34)), og 36 26 true (.call (ff 134) [tt 27, tt 35]), og 37 26 true (.un .not (tt 36)), oo 38 (.pick (tt 26) (tt 37) (cb  false))]
abbrev c_spec_l19Capacity_5 : List GOp := [oo 39 (.mv (tt 5)), oo 40 (.mv (tt 0)), oo 41 (.nc (tt 40)), oo 42 (.fa 3 (tt 41)), oo 43 (.ld (tt 42)), oo 44 (.mv (tt 6)), oo 45 (.ia 3 (tt 43) (tt 44)), oo 46 (.fa 2 (tt 45)), oo 47 (.ld (tt 46)), oo 48 (.bin .add (tt 39) (tt 47)), oo 5 (.mv (tt 48))]
abbrev c_spec_l19Capacity_6 : List GOp := [oo 14 (.mv (tt 6)), oo 15 (.bin .add (tt 14) (ci 1)), oo 6 (.mv (tt 15))]
abbrev c_spec_l19Capacity_l0 : GCode := .seq (.seq (.reg c_spec_l19Capacity_3) (.cond (tt 13) (.skip) (.exit 0))) (.seq (.blk 1 (.seq (.reg c_spec_l19Capacity_4) (.cond (tt 38) (.reg c_spec_l19Capacity_5) (.skip)))) (.reg c_spec_l19Capacity_6))
abbrev c_spec_l19Capacity_8 : List GOp := [oo 49 (.mv (tt 5)), oo 4 (.mv (tt 49))]
abbrev c_spec_l19Capacity : GCode := .seq (.reg c_spec_l19Capacity_0) (.seq (.reg c_spec_l19Capacity_1) (.seq (.seq (.reg c_spec_l19Capacity_2) (.blk 0 (.loop c_spec_l19Capacity_l0))) (.seq (.reg c_spec_l19Capacity_8) (.ret))))
theorem c_spec_l19Capacity_d : decFn Try.prog Try.f195 = some (50, [.t 4], c_spec_l19Capacity) := by kernel_rfl
theorem c_spec_l19Capacity_i {args : List Value} {G : GH} {K : Value → GH → Prop} (hn : args.length ≤ 50) (h : gW Try.prog c_spec_l19Capacity (RetK [.t 4] K) (T0 args) G) : GC Try.prog 195 args G K := GC_intro mixed Try.func195 c_spec_l19Capacity_d hn h
abbrev c_spec_l19Greatest_0 : List GOp := [oo 2 (.mv (.const (.slice none 0 0)))]
abbrev c_spec_l19Greatest_1 : List GOp := [oo 8 (.mv (tt 0)), oo 9 (.nc (tt 8)), oo 10 (.fa 3 (tt 9)), oo 11 (.ld (tt 10)), oo 12 (.len (tt 11)), oo 13 (.mk 1 8 [.int .i64 0] (tt 12) (tt 12)), oo 3 (.mv (tt 13))]
abbrev c_spec_l19Greatest_2 : List GOp := [oo 14 (.mv (tt 0)), oo 15 (.mv (tt 3)), oo 16 (.call (ff 194) [tt 14, tt 15]), oo 4 (.mv (tt 16))]
abbrev c_spec_l19Greatest_3 : List GOp := [oo 17 (.mv (tt 4)), oo 18 (.mv (tt 0)), oo 19 (.nc (tt 18)), oo 20 (.fa 2 (tt 19)), oo 21 (.ld (tt 20)), oo 22 (.ia 1 (tt 17) (tt 21)), oo 23 (.ld (tt 22)), oo 24 (.bin .lss (tt 23) (ci 0))]
abbrev c_spec_l19Greatest_4 : List GOp := [oo 25 (.mv (tt 3)), oo 2 (.mv (tt 25))]
abbrev c_spec_l19Greatest_5 : List GOp := [oo 5 (.mv (ci 1000000000000))]
abbrev c_spec_l19Greatest_6 : List GOp := [oo 26 (.mv (tt 0)), oo 27 (.nc (tt 26)), oo 28 (.fa 2 (tt 27)), oo 29 (.ld (tt 28)), oo 6 (.mv (tt 29))]
abbrev c_spec_l19Greatest_7 : List GOp := [oo 30 (.mv (tt 6)), oo 31 (.mv (tt 0)), oo 32 (.nc (tt 31)), oo 33 (.fa 1 (tt 32)), oo 34 (.ld (tt 33)), oo 35 (.bin .neq (tt 30) (tt 34))]
abbrev c_spec_l19Greatest_8 : List GOp := [oo 40 (.mv (tt 5)), oo 41 (.mv (tt 0)), oo 42 (.mv (tt 3)), oo 43 (.mv (tt 4)), oo 44 (.mv (tt 6)), oo 45 (.ia 1 (tt 43) (tt 44)), oo 46 (.ld (tt 45)), oo 47 (.mv (tt 6)), oo 48 (.call (ff 238) [tt 41, tt 42, tt 46, tt 47]), oo 49 (.call (ff 206) [tt 40, tt 48]), oo 5 (.mv (tt 49))]
abbrev c_spec_l19Greatest_9 : List GOp := [oo 36 (.mv (tt 4)), oo 37 (.mv (tt 6)), oo 38 (.ia 1 (tt 36) (tt 37)), oo 39 (.ld (tt 38)), oo 6 (.mv (tt 39))]
abbrev c_spec_l19Greatest_l0 : GCode := .seq (.seq (.reg c_spec_l19Greatest_7) (.cond (tt 35) (.skip) (.exit 2))) (.seq (.blk 3 (.reg c_spec_l19Greatest_8)) (.reg c_spec_l19Greatest_9))
abbrev c_spec_l19Greatest_11 : List GOp := [oo 50 (.mv (tt 0)), oo 51 (.nc (tt 50)), oo 52 (.fa 2 (tt 51)), oo 53 (.ld (tt 52)), oo 7 (.mv (tt 53))]
abbrev c_spec_l19Greatest_12 : List GOp := [oo 54 (.mv (tt 7)), oo 55 (.mv (tt 0)), oo 56 (.nc (tt 55)), oo 57 (.fa 1 (tt 56)), oo 58 (.ld (tt 57)), oo 59 (.bin .neq (tt 54) (tt 58))]
abbrev c_spec_l19Greatest_13 : List GOp := [oo 64 (.mv (tt 0)), oo 65 (.mv (tt 3)), oo 66 (.mv (tt 4)), oo 67 (.mv (tt 7)), oo 68 (.ia 1 (tt 66) (tt 67)), oo 69 (.ld (tt 68)), oo 70 (.mv (tt 7)), oo 71 (.mv (tt 5)), oo 72 (.call (ff 239) [tt 64, tt 65, tt 69, tt 70, tt 71])]
abbrev c_spec_l19Greatest_14 : List GOp := [oo 60 (.mv (tt 4)), oo 61 (.mv (tt 7)), oo 62 (.ia 1 (tt 60) (tt 61)), oo 63 (.ld (tt 62)), oo 7 (.mv (tt 63))]
abbrev c_spec_l19Greatest_l1 : GCode := .seq (.seq (.reg c_spec_l19Greatest_12) (.cond (tt 59) (.skip) (.exit 4))) (.seq (.blk 5 (.reg c_spec_l19Greatest_13)) (.reg c_spec_l19Greatest_14))
abbrev c_spec_l19Greatest_l2 : GCode := .blk 1 (.seq (.reg c_spec_l19Greatest_2) (.seq (.seq (.reg c_spec_l19Greatest_3) (.cond (tt 24) (.seq (.reg c_spec_l19Greatest_4) (.ret)) (.skip))) (.seq (.reg c_spec_l19Greatest_5) (.seq (.seq (.reg c_spec_l19Greatest_6) (.blk 2 (.loop c_spec_l19Greatest_l0))) (.seq (.reg c_spec_l19Greatest_11) (.blk 4 (.loop c_spec_l19Greatest_l1)))))))
abbrev c_spec_l19Greatest : GCode := .seq (.reg c_spec_l19Greatest_0) (.seq (.reg c_spec_l19Greatest_1) (.blk 0 (.loop c_spec_l19Greatest_l2)))
theorem c_spec_l19Greatest_d : decFn Try.prog Try.f186 = some (73, [.t 2], c_spec_l19Greatest) := by kernel_rfl
theorem c_spec_l19Greatest_i {args : List Value} {G : GH} {K : Value → GH → Prop} (hn : args.length ≤ 73) (h : gW Try.prog c_spec_l19Greatest (RetK [.t 2] K) (T0 args) G) : GC Try.prog 186 args G K := GC_intro mixed Try.func186 c_spec_l19Greatest_d hn h
abbrev c_spec_l19Ok_0 : List GOp := [oo 2 (.mv (cb  false))]
abbrev c_spec_l19Ok_1 : List DOp := [dl 0 (oo 5 (.mv (tt 0))), dl 1 (oo 6 (.nc (tt 5))), dl 2 (oo 7 (.fa 0 (tt 6))), dl 3 (oo 8 (.ld (tt 7))), dh 4 [] (oo 9 (.call (ff 121) [tt 8, (ci 2), (ci 12)])), dl 5 (oo 10 (.un .not (tt 9))), dl 6 (oo 11 (.mv (tt 10))), dl 7 (og 12 11 false (.mv (tt 0))), dl 8 (og 13 11 false (.nc (tt 12))), dl 9 (og 14 11 false (.fa 1 (tt 13))), dl 10 (og 15 11 false (.ld (tt 14))), dl 11 (og 16 11 false (.mv (tt 0))), dl 12 (og 17 11 false (.nc (tt 16))), dl 13 (og 18 11 false (.fa 0 (tt 17))), dl 14 (og 19 11 false (.ld (tt 18))), dl 15 (og 20 11 false (.bin .sub (tt 19) (ci 1))), dh 16 [14, 3] (og 21 11 false (.call (ff 121) [tt 15, (ci 0), tt 20])), dl 17 (og 22 11 false (.un .not (tt 21))), dl 18 (oo 23 (.pick (tt 11) (cb  true) (tt 22))), dl 19 (oo 24 (.mv (tt 23))), dl 20 (og 25 24 false (.mv (tt 0))), dl 21 (og 26 24 false (.nc (tt 25))), dl 22 (og 27 24 false (.fa 2 (tt 26))), dl 23 (og 28 24 false (.ld (tt 27))), dl 24 (og 29 24 false (.mv (tt 0))), dl 25 (og 30 24 false (.nc (tt 29))), dl 26 (og 31 24 false (.fa 0 (tt 30))), dl 27 (og 32 24 false (.ld (tt 31))), dl 28 (og 33 24 false (.bin .sub (tt 32) (ci 1))), dh 29 [27, 14, 10, 3] (og 34 24 false (.call (ff 121) [tt 28, (ci 0), tt 33])), dl 30 (og 35 24 false (.un .not (tt 34))), dl 31 (oo 36 (.pick (tt 24) (cb  true) (tt 35))), dl 32 (oo 37 (.mv (tt 36))), dl 33 (og 38 37 false (.mv (tt 0))), dl 34 (og 39 37 false (.nc (tt 38))), dl 35 (og 40 37 false (.fa 1 (tt 39))), dl 36 (og 41 37 false (.ld (tt 40))), dl 37 (og 42 37 false (.mv (tt 0))), dl 38 (og 43 37 false (.nc (tt 42))), dl 39 (og 44 37 false (.fa 2 (tt 43))), dl 40 (og 45 37 false (.ld (tt 44))), dl 41 (og 46 37 false (.bin .eql (tt 41) (tt 45))), dl 42 (oo 47 (.pick (tt 37) (cb  true) (tt 46)))]
abbrev c_spec_l19Ok_2 : List GOp := [oo 2 (.mv (cb  false))]
abbrev c_spec_l19Ok_3 : List GOp := [oo 3 (.mv (ci 0))]
abbrev c_spec_l19Ok_4 : List GOp := [oo 48 (.mv (tt 3)), oo 49 (.mv (tt 0)), oo 50 (.nc (tt 49)), oo 51 (.fa 3 (tt 50)), oo 52 (.ld (tt 51)), oo 53 (.len (tt 52)), oo 54 (.bin .lss (tt 48) (tt 53))]
abbrev c_spec_l19Ok_5 : List GOp := [oo 57 (.mv (tt 0)), oo 58 (.nc (tt 57)), oo 59 (.fa 3 (tt 58)), oo 60 (.ld (tt 59)), oo 61 (.mv (tt 3)), oo 62 (.ia 3 (tt 60) (tt 61)), oo 63 (.ldn 3 (tt 62)), oo 4 (.al [.int .i64 0, .int .i64 0, .int .i64 0]), on (.st 3 (tt 4) (tt 63))]
abbrev c_spec_l19Ok_6 : List DOp := [dl 0 (oo 64 (.fa 0 (tt 4))), dl 1 (oo 65 (.ld (tt 64))), dl 2 (oo 66 (.mv (tt 0))), dl 3 (oo 67 (.nc (tt 66))), dl 4 (oo 68 (.fa 0 (tt 67))), dl 5 (oo 69 (.ld (tt 68))), dl 6 (oo 70 (.bin .sub (tt 69) (ci 1))), dh 7 [5] (oo 71 (.call (ff 121) [tt 65, (ci 0), tt 70])), dl 8 (oo 72 (.un .not (tt 71))), dl 9 (oo 73 (.mv (tt 72))), dl 10 (og 74 73 false (.fa 1 (tt 4))), dl 11 (og 75 73 false (.ld (tt 74))), dl 12 (og 76 73 false (.mv (tt 0))), dl 13 (og 77 73 false (.nc (tt 76))), dl 14 (og 78 73 false (.fa 0 (tt 77))), dl 15 (og 79 73 false (.ld (tt 78))), dl 16 (og 80 73 false (.bin .sub (tt 79) (ci 1))), dh 17 [15, 5, 1] (og 81 73 false (.call (ff 121) [tt 75, (ci 0), tt 80])), dl 18 (og 82 73 false (.un .not (tt 81))), dl 19 (oo 83 (.pick (tt 73) (cb  true) (tt 82))), dl 20 (oo 84 (.mv (tt 83))), dl 21 (og 85 84 false (.fa 0 (tt 4))), dl 22 (og 86 84 false (.ld (tt 85))), dl 23 (og 87 84 false (.fa 1 (tt 4))), dl 24 (og 88 84 false (.ld (tt 87))), dl 25 (og 89 84 false (.bin .eql (tt 86) (tt 88))), dl 26 (oo 90 (.pick (tt 84) (cb  true) (tt 89))), dl 27 (oo 91 (.mv (tt 90))), dl 28 (og 92 91 false (.fa 2 (tt 4))), dl 29 (og 93 91 false (.ld (tt 92))), dh 30 [24, 22, 15, 11, 5, 1] (og 94 91 false (.call (ff 121) [tt 93, (ci 0), (ci 1000000)])), dl 31 (og 95 91 false (.un .not (tt 94))), dl 32 (oo 96 (.pick (tt 91) (cb  true) (tt 95)))]
abbrev c_spec_l19Ok_7 : List GOp := [oo 2 (.mv (cb  false))]
abbrev c_spec_l19Ok_8 : List DOp := [dl 0 (oo 97 (.mv (tt 3))), dl 1 (oo 98 (.bin .gtr (tt 97) (ci 0))), dl 2 (oo 99 (.mv (tt 98))), dl 3 (og 100 99 true (.mv (tt 0))), dl 4 (og 101 99 true (.nc (tt 100))), dl 5 (og 102 99 true (.fa 3 (tt 101))), dl 6 (og 103 99 true (.ld (tt 102))), dl 7 (og 104 99 true (.mv (tt 3))), dl 8 (og 105 99 true (.bin .sub (tt 104) (ci 1))), dl 9 (og 106 99 true (.ia 3 (tt 103) (tt 105))), dl 10 (og 107 99 true (.fa 0 (tt 106))), dl 11 (og 108 99 true (.ld (tt 107))), dl 12 (og 109 99 true (.fa 0 (tt 4))), dl 13 (og 110 99 true (.ld (tt 109))), dl 14 (og 111 99 true (.bin .gtr (tt 108) (tt 110))), dl 15 (og 112 99 true (.mv (tt 111))), dl 16 (og 113 112 false (.mv (tt 0))), dl 17 (og 114 112 false (.nc (tt 113))), dl 18 (og 115 112 false (.fa 3 (tt 114))), dl 19 (og 116 112 false (.ld (tt 115))), dl 20 (og 117 112 false (.mv (tt 3))), dl 21 (og 118 112 false (.bin .sub (tt 117) (ci 1))), dl 22 (og 119 112 false (.ia 3 (tt 116) (tt 118))), dl 23 (og 120 112 false (.fa 0 (tt 119))), dl 24 (og 121 112 false (.ld (tt 120))), dl 25 (og 122 112 false (.fa 0 (tt 4))), dl 26 (og 123 112 false (.ld (tt 122))), dl 27 (og 124 112 false (.bin .eql (tt 121) (tt 123))), dl 28 (og 125 112 false (.mv (tt 124))), dl 29 (og 126 125 true (.mv (tt 0))), dl 30 (og 127 125 true (.nc (tt 126))), dl 31 (og 128 125 true (.fa 3 (tt 127))), dl 32 (og 129 125 true (.ld (tt 128))), dl 33 (og 130 125 true (.mv (tt 3))), dl 34 (og 131 125 true (.bin .sub (tt 130) (ci 1))), dl 35 (og 132 125 true (.ia 3 (tt 129) (tt 131))), dl 36 (og 133 125 true (.fa 1 (tt 132))), dl 37 (og 134 125 true (.ld (tt 133))), dl 38 (og 135 125 true (.fa 1 (tt 4))), dl 39 (og 136 125 true (.ld (tt 135))), dl 40 (og 137 125 true (.bin .geq (tt 134) (tt 136))), dl 41 (og 138 112 false (.pick (tt 125) (tt 137) (cb  false))), dl 42 (og 139 99 true (.pick (tt 112) (cb  true) (tt 138))), dl 43 (oo 140 (.pick (tt 99) (tt 139) (cb  false)))]
abbrev c_spec_l19Ok_9 : List GOp := [oo 2 (.mv (cb  false))]
abbrev c_spec_l19Ok_10 : List GOp := [oo 55 (.mv (tt 3)), oo 56 (.bin .add (tt 55) (ci 1)), oo 3 (.mv (tt 56))]
abbrev c_spec_l19Ok_l0 : GCode := .seq (.seq (.reg c_spec_l19Ok_4) (.cond (tt 54) (.skip) (.exit 0))) (.seq (.blk 1 (.seq (.reg c_spec_l19Ok_5) (.seq (.seq (.dreg c_spec_l19Ok_6) (.cond (tt 96) (.seq (.reg c_spec_l19Ok_7) (.ret)) (.skip))) (.seq (.dreg c_spec_l19Ok_8) (.cond (tt 140) (.seq (.reg c_spec_l19Ok_9) (.ret)) (.skip)))))) (.reg c_spec_l19Ok_10))
abbrev c_spec_l19Ok_12 : List GOp := [oo 141 (.mv (tt 0)), oo 142 (.nc (tt 141)), oo 143 (.fa 3 (tt 142)), oo 144 (.ld (tt 143)), oo 145 (.len (tt 144)), oo 146 (.bin .leq (tt 145) (ci 24)), oo 2 (.mv (tt 146))]
abbrev c_spec_l19Ok : GCode := .seq (.reg c_spec_l19Ok_0) (.seq (.seq (.dreg c_spec_l19Ok_1) (.cond (tt 47) (.seq (.reg c_spec_l19Ok_2) (.ret)) (.skip))) (.seq (.seq (.reg c_spec_l19Ok_3) (.blk 0 (.loop c_spec_l19Ok_l0))) (.seq (.reg c_spec_l19Ok_12) (.ret))))
theorem c_spec_l19Ok_d : decFn Try.prog Try.f185 = some (147, [.t 2], c_spec_l19Ok) := by kernel_rfl
theorem c_spec_l19Ok_i {args : List Value} {G : GH} {K : Value → GH → Prop} (hn : args.length ≤ 147) (h : gW Try.prog c_spec_l19Ok (RetK [.t 2] K) (T0 args) G) : GC Try.prog 185 args G K := GC_intro mixed Try.func185 c_spec_l19Ok_d hn h
abbrev c_spec_l19Push_0 : List GOp := [oo 10 (.mv (ci 0))]
abbrev c_spec_l19Push_1 : List GOp := [oo 13 (.mv (tt 10)), oo 14 (.mv (tt 0)), oo 15 (.nc (tt 14)), oo 16 (.fa 3 (tt 15)), oo 17 (.ld (tt 16)), oo 18 (.len (tt 17)), oo 19 (.bin .lss (tt 13) (tt 18))]
abbrev c_spec_l19Push_2 : List GOp := [oo 22 (.mv (tt 0)), oo 23 (.nc (tt 22)), oo 24 (.fa 3 (tt 23)), oo 25 (.ld (tt 24)), oo 26 (.mv (tt 10)), oo 27 (.ia 3 (tt 25) (tt 26)), oo 28 (.fa 0 (tt 27)), oo 29 (.ld (tt 28)), oo 30 (.mv (tt 3)), oo 31 (.bin .eql (tt 29) (tt 30)), oo 32 (.mv (tt 31)), og 33 32 true (.mv (tt 0)), og 34 32 true (.nc (tt 33)), og 35 32 true (.fa 3 (tt 34)), og 36 32 true (.ld (tt 35)), og 37 32 true (.mv (tt 10)), og 38 32 true (.ia 3 (tt 36) (tt 37)), og 39 32 true (.fa 1 (tt 38)), og 40 32 true (.ld (tt 39)), og 41 32 true (.mv (tt 2)), og 42 32 true (.bin .eql (tt 40) (tt 41)), oo 43 (.pick (tt 32) (tt 42) (cb  false))]
abbrev c_spec_l19Push_3 : List GOp := [oo 44 (.mv (tt 4)), oo 45 (.mv (tt 1)), oo 46 (.mv (tt 10)), oo 47 (.ia 1 (tt 45) (tt 46)), oo 48 (.ld (tt 47)), oo 49 (.call (ff 206) [tt 44, tt 48]), oo 11 (.mv (tt 49))]
abbrev c_spec_l19Push_4 : List GOp := [oo 50 (.mv (tt 1)), oo 51 (.mv (tt 10)), oo 52 (.ia 1 (tt 50) (tt 51)), oo 53 (.ld (tt 52)), oo 54 (.mv (tt 11)), oo 55 (.bin .sub (tt 53) (tt 54)), oo 56 (.ia 1 (tt 50) (tt 51)), on (.st 1 (tt 56) (tt 55))]
abbrev c_spec_l19Push_5 : List GOp := [oo 57 (.mv (tt 4)), oo 58 (.mv (tt 11)), oo 59 (.bin .sub (tt 57) (tt 58)), oo 4 (.mv (tt 59))]
abbrev c_spec_l19Push_6 : List GOp := [oo 20 (.mv (tt 10)), oo 21 (.bin .add (tt 20) (ci 1)), oo 10 (.mv (tt 21))]
abbrev c_spec_l19Push_l0 : GCode := .seq (.seq (.reg c_spec_l19Push_1) (.cond (tt 19) (.skip) (.exit 0))) (.seq (.blk 1 (.seq (.reg c_spec_l19Push_2) (.cond (tt 43) (.seq (.reg c_spec_l19Push_3) (.seq (.reg c_spec_l19Push_4) (.reg c_spec_l19Push_5))) (.skip)))) (.reg c_spec_l19Push_6))
abbrev c_spec_l19Push_8 : List GOp := [oo 12 (.mv (ci 0))]
abbrev c_spec_l19Push_9 : List GOp := [oo 60 (.mv (tt 12)), oo 61 (.mv (tt 0)), oo 62 (.nc (tt 61)), oo 63 (.fa 3 (tt 62)), oo 64 (.ld (tt 63)), oo 65 (.len (tt 64)), oo 66 (.bin .lss (tt 60) (tt 65))]
abbrev c_spec_l19Push_10 : List GOp := [oo 69 (.mv (tt 0)), oo 70 (.nc (tt 69)), oo 71 (.fa 3 (tt 70)), oo 72 (.ld (tt 71)), oo 73 (.mv (tt 12)), oo 74 (.ia 3 (tt 72) (tt 73)), oo 75 (.fa 0 (tt 74)), oo 76 (.ld (tt 75)), oo 77 (.mv (tt 2)), oo 78 (.bin .eql (tt 76) (tt 77)), oo 79 (.mv (tt 78)), og 80 79 true (.mv (tt 0)), og 81 79 true (.nc (tt 80)), og 82 79 true (.fa 3 (tt 81)), og 83 79 true (.ld (tt 82)), og 84 79 true (.mv (tt 12)), og 85 79 true (.ia 3 (tt 83) (tt 84)), og 86 79 true (.fa 1 (tt 85)), og 87 79 true (.ld (tt 86)), og 88 79 true (.mv (tt 3)), og 89 79 true (.bin .eql (tt 87) (tt 88)), oo 90 (.pick (tt 79) (tt 89) (cb  false))]
abbrev c_spec_l19Push_11 : List GOp := [oo 91 (.mv (tt 1)), oo 92 (.mv (tt 12)), oo 93 (.ia 1 (tt 91) (tt 92)), oo 94 (.ld (tt 93)), oo 95 (.mv (tt 4)), oo 96 (.bin .add (tt 94) (tt 95)), oo 97 (.ia 1 (tt 91) (tt 92)), on (.st 1 (tt 97) (tt 96))]
abbrev c_spec_l19Push_12 : List GOp := [oo 67 (.mv (tt 12)), oo 68 (.bin .add (tt 67) (ci 1)), oo 12 (.mv (tt 68))]
abbrev c_spec_l19Push_l1 : GCode := .seq (.seq (.reg c_spec_l19Push_9) (.cond (tt 66) (.skip) (.exit 2))) (.seq (.blk 3 (.seq (.reg c_spec_l19Push_10) (.cond (tt 90) (.reg c_spec_l19Push_11) (.skip)))) (.reg c_spec_l19Push_12))
abbrev c_spec_l19Push : GCode := .seq (.seq (.reg c_spec_l19Push_0) (.blk 0 (.loop c_spec_l19Push_l0))) (.seq (.reg c_spec_l19Push_8) (.blk 2 (.loop c_spec_l19Push_l1)))
theorem c_spec_l19Push_d : decFn Try.prog Try.f239 = some (98, [], c_spec_l19Push) := by kernel_rfl
theorem c_spec_l19Push_i {args : List Value} {G : GH} {K : Value → GH → Prop} (hn : args.length ≤ 98) (h : gW Try.prog c_spec_l19Push (RetK [] K) (T0 args) G) : GC Try.prog 239 args G K := GC_intro mixed Try.func239 c_spec_l19Push_d hn h
abbrev c_spec_l19Reach_0 : List GOp := [oo 4 (.mv (.const (.slice none 0 0)))]
abbrev c_spec_l19Reach_1 : List GOp := [oo 10 (.bs 1 []), oo 5 (.mv (tt 10))]
abbrev c_spec_l19Reach_2 : List GOp := [oo 6 (.mv (ci 0))]
abbrev c_spec_l19Reach_3 : List GOp := [oo 11 (.mv (tt 6)), oo 12 (.mv (tt 0)), oo 13 (.nc (tt 12)), oo 14 (.fa 0 (tt 13)), oo 15 (.ld (tt 14)), oo 16 (.bin .lss (tt 11) (tt 15))]
abbrev c_spec_l19Reach_4 : List GOp := [oo 19 (.mv (tt 5)), oo 20 (.bs 1 [(ci (-1))]), oo 21 (.ap 1 8 [.int .i64 0] (tt 19) (tt 20)), oo 5 (.mv (tt 21))]
abbrev c_spec_l19Reach_5 : List GOp := [oo 17 (.mv (tt 6)), oo 18 (.bin .add (tt 17) (ci 1)), oo 6 (.mv (tt 18))]
abbrev c_spec_l19Reach_l0 : GCode := .seq (.seq (.reg c_spec_l19Reach_3) (.cond (tt 16) (.skip) (.exit 0))) (.seq (.blk 1 (.reg c_spec_l19Reach_4)) (.reg c_spec_l19Reach_5))
abbrev c_spec_l19Reach_7 : List DOp := [dl 0 (oo 22 (.mv (tt 5))), dl 1 (oo 23 (.mv (tt 0))), dl 2 (oo 24 (.nc (tt 23))), dl 3 (oo 25 (.fa 1 (tt 24))), dl 4 (oo 26 (.ld (tt 25))), dl 5 (oo 27 (.mv (tt 0))), dl 6 (oo 28 (.nc (tt 27))), dl 7 (oo 29 (.fa 1 (tt 28))), dl 8 (oo 30 (.ld (tt 29))), dl 9 (oo 31 (.ia 1 (tt 22) (tt 26))), dh 10 [] (on (.st 1 (tt 31) (tt 30)))]
abbrev c_spec_l19Reach_8 : List GOp := [oo 32 (.mv (tt 0)), oo 33 (.nc (tt 32)), oo 34 (.fa 1 (tt 33)), oo 35 (.ld (tt 34)), oo 36 (.bs 1 [tt 35]), oo 7 (.mv (tt 36))]
abbrev c_spec_l19Reach_9 : List GOp := [oo 8 (.mv (ci 0))]
abbrev c_spec_l19Reach_10 : List GOp := [oo 37 (.mv (tt 8)), oo 38 (.mv (tt 7)), oo 39 (.len (tt 38)), oo 40 (.bin .lss (tt 37) (tt 39))]
abbrev c_spec_l19Reach_11 : List GOp := [oo 9 (.mv (ci 0))]
abbrev c_spec_l19Reach_12 : List GOp := [oo 43 (.mv (tt 9)), oo 44 (.mv (tt 0)), oo 45 (.nc (tt 44)), oo 46 (.fa 0 (tt 45)), oo 47 (.ld (tt 46)), oo 48 (.bin .lss (tt 43) (tt 47))]
abbrev c_spec_l19Reach_13 : List GOp := [oo 51 (.mv (tt 5)), oo 52 (.mv (tt 9)), oo 53 (.ia 1 (tt 51) (tt 52)), oo 54 (.ld (tt 53)), oo 55 (.bin .lss (tt 54) (ci 0)), oo 56 (.mv (tt 55)), og 57 56 true (.mv (tt 0)), og 58 56 true (.mv (tt 1)), og 59 56 true (.mv (tt 7)), og 60 56 true (.mv (tt 8)), og 61 56 true (.ia 1 (tt 59) (tt 60)), og 62 56 true (.ld (tt 61)), og 63 56 true (.mv (tt 9)), og 64 56 true (.call (ff 238) [tt 57, tt 58, tt 62, tt 63]), og 65 56 true (.bin .gtr (tt 64) (ci 0)), oo 66 (.pick (tt 56) (tt 65) (cb  false))]
abbrev c_spec_l19Reach_14 : List GOp := [oo 67 (.mv (tt 5)), oo 68 (.mv (tt 9)), oo 69 (.mv (tt 7)), oo 70 (.mv (tt 8)), oo 71 (.ia 1 (tt 69) (tt 70)), oo 72 (.ld (tt 71)), oo 73 (.ia 1 (tt 67) (tt 68)), on (.st 1 (tt 73) (tt 72))]
abbrev c_spec_l19Reach_15 : List GOp := [oo 74 (.mv (tt 7)), oo 75 (.mv (tt 9)), oo 76 (.bs 1 [tt 75]), oo 77 (.ap 1 8 [.int .i64 0] (tt 74) (tt 76)), oo 7 (.mv (tt 77))]
abbrev c_spec_l19Reach_16 : List GOp := [oo 49 (.mv (tt 9)), oo 50 (.bin .add (tt 49) (ci 1)), oo 9 (.mv (tt 50))]
abbrev c_spec_l19Reach_l1 : GCode := .seq (.seq (.reg c_spec_l19Reach_12) (.cond (tt 48) (.skip) (.exit 4))) (.seq (.blk 5 (.seq (.reg c_spec_l19Reach_13) (.cond (tt 66) (.seq (.reg c_spec_l19Reach_14) (.reg c_spec_l19Reach_15)) (.skip)))) (.reg c_spec_l19Reach_16))
abbrev c_spec_l19Reach_18 : List GOp := [oo 41 (.mv (tt 8)), oo 42 (.bin .add (tt 41) (ci 1)), oo 8 (.mv (tt 42))]
abbrev c_spec_l19Reach_l2 : GCode := .seq (.seq (.reg c_spec_l19Reach_10) (.cond (tt 40) (.skip) (.exit 2))) (.seq (.blk 3 (.seq (.reg c_spec_l19Reach_11) (.blk 4 (.loop c_spec_l19Reach_l1)))) (.reg c_spec_l19Reach_18))
abbrev c_spec_l19Reach_20 : List GOp := [oo 78 (.mv (tt 5)), oo 4 (.mv (tt 78))]
abbrev c_spec_l19Reach : GCode := .seq (.reg c_spec_l19Reach_0) (.seq (.reg c_spec_l19Reach_1) (.seq (.seq (.reg c_spec_l19Reach_2) (.blk 0 (.loop c_spec_l19Reach_l0))) (.seq (.dreg c_spec_l19Reach_7) (.seq (.reg c_spec_l19Reach_8) (.seq (.seq (.reg c_spec_l19Reach_9) (.blk 2 (.loop c_spec_l19Reach_l2))) (.seq (.reg c_spec_l19Reach_20) (.ret)))))))
theorem c_spec_l19Reach_d : decFn Try.prog Try.f194 = some (79, [.t 4], c_spec_l19Reach) := by kernel_rfl
theorem c_spec_l19Reach_i {args : List Value} {G : GH} {K : Value → GH → Prop} (hn : args.length ≤ 79) (h : gW Try.prog c_spec_l19Reach (RetK [.t 4] K) (T0 args) G) : GC Try.prog 194 args G K := GC_intro mixed Try.func194 c_spec_l19Reach_d hn h
abbrev c_spec_l19Room_0 : List GOp := [oo 8 (.mv (ci 0))]
abbrev c_spec_l19Room_1 : List GOp := [oo 9 (.mv (ci 0))]
abbrev c_spec_l19Room_2 : List GOp := [oo 10 (.mv (ci 0))]
abbrev c_spec_l19Room_3 : List GOp := [oo 11 (.mv (tt 10)), oo 12 (.mv (tt 0)), oo 13 (.nc (tt 12)), oo 14 (.fa 3 (tt 13)), oo 15 (.ld (tt 14)), oo 16 (.len (tt 15)), oo 17 (.bin .lss (tt 11) (tt 16))]
abbrev c_spec_l19Room_4 : List GOp := [oo 20 (.mv (tt 0)), oo 21 (.nc (tt 20)), oo 22 (.fa 3 (tt 21)), oo 23 (.ld (tt 22)), oo 24 (.mv (tt 10)), oo 25 (.ia 3 (tt 23) (tt 24)), oo 26 (.fa 0 (tt 25)), oo 27 (.ld (tt 26)), oo 28 (.mv (tt 2)), oo 29 (.bin .eql (tt 27) (tt 28)), oo 30 (.mv (tt 29)), og 31 30 true (.mv (tt 0)), og 32 30 true (.nc (tt 31)), og 33 30 true (.fa 3 (tt 32)), og 34 30 true (.ld (tt 33)), og 35 30 true (.mv (tt 10)), og 36 30 true (.ia 3 (tt 34) (tt 35)), og 37 30 true (.fa 1 (tt 36)), og 38 30 true (.ld (tt 37)), og 39 30 true (.mv (tt 3)), og 40 30 true (.bin .eql (tt 38) (tt 39)), oo 41 (.pick (tt 30) (tt 40) (cb  false))]
abbrev c_spec_l19Room_5 : List DOp := [dl 0 (oo 42 (.mv (tt 9))), dl 1 (oo 43 (.mv (tt 0))), dl 2 (oo 44 (.nc (tt 43))), dl 3 (oo 45 (.fa 3 (tt 44))), dl 4 (oo 46 (.ld (tt 45))), dl 5 (oo 47 (.mv (tt 10))), dl 6 (oo 48 (.ia 3 (tt 46) (tt 47))), dl 7 (oo 49 (.fa 2 (tt 48))), dl 8 (oo 50 (.ld (tt 49))), dl 9 (oo 51 (.mv (tt 1))), dl 10 (oo 52 (.mv (tt 10))), dl 11 (oo 53 (.ia 1 (tt 51) (tt 52))), dl 12 (oo 54 (.ld (tt 53))), dl 13 (oo 55 (.bin .sub (tt 50) (tt 54))), dl 14 (oo 56 (.bin .add (tt 42) (tt 55))), dl 15 (oo 9 (.mv (tt 56)))]
abbrev c_spec_l19Room_6 : List GOp := [oo 57 (.mv (tt 0)), oo 58 (.nc (tt 57)), oo 59 (.fa 3 (tt 58)), oo 60 (.ld (tt 59)), oo 61 (.mv (tt 10)), oo 62 (.ia 3 (tt 60) (tt 61)), oo 63 (.fa 0 (tt 62)), oo 64 (.ld (tt 63)), oo 65 (.mv (tt 3)), oo 66 (.bin .eql (tt 64) (tt 65)), oo 67 (.mv (tt 66)), og 68 67 true (.mv (tt 0)), og 69 67 true (.nc (tt 68)), og 70 67 true (.fa 3 (tt 69)), og 71 67 true (.ld (tt 70)), og 72 67 true (.mv (tt 10)), og 73 67 true (.ia 3 (tt 71) (tt 72)), og 74 67 true (.fa 1 (tt 73)), og 75 67 true (.ld (tt 74)), og 76 67 true (.mv (tt 2)), og 77 67 true (.bin .eql (tt 75) (tt 76)), oo 78 (.pick (tt 67) (tt 77) (cb  false))]
abbrev c_spec_l19Room_7 : List GOp := [oo 79 (.mv (tt 9)), oo 80 (.mv (tt 1)), oo 81 (.mv (tt 10)), oo 82 (.ia 1 (tt 80) (tt 81)), oo 83 (.ld (tt 82)), oo 84 (.bin .add (tt 79) (tt 83)), oo 9 (.mv (tt 84))]
abbrev c_spec_l19Room_8 : List GOp := [oo 18 (.mv (tt 10)), oo 19 (.bin .add (tt 18) (ci 1)), oo 10 (.mv (tt 19))]
abbrev c_spec_l19Room_l0 : GCode := .seq (.seq (.reg c_spec_l19Room_3) (.cond (tt 17) (.skip) (.exit 0))) (.seq (.blk 1 (.seq (.seq (.reg c_spec_l19Room_4) (.cond (tt 41) (.dreg c_spec_l19Room_5) (.skip))) (.seq (.reg c_spec_l19Room_6) (.cond (tt 78) (.reg c_spec_l19Room_7) (.skip))))) (.reg c_spec_l19Room_8))
abbrev c_spec_l19Room_10 : List GOp := [oo 85 (.mv (tt 9)), oo 8 (.mv (tt 85))]
abbrev c_spec_l19Room : GCode := .seq (.reg c_spec_l19Room_0) (.seq (.reg c_spec_l19Room_1) (.seq (.seq (.reg c_spec_l19Room_2) (.blk 0 (.loop c_spec_l19Room_l0))) (.seq (.reg c_spec_l19Room_10) (.ret))))
theorem c_spec_l19Room_d : decFn Try.prog Try.f238 = some (86, [.t 8], c_spec_l19Room) := by kernel_rfl
theorem c_spec_l19Room_i {args : List Value} {G : GH} {K : Value → GH → Prop} (hn : args.length ≤ 86) (h : gW Try.prog c_spec_l19Room (RetK [.t 8] K) (T0 args) G) : GC Try.prog 238 args G K := GC_intro mixed Try.func238 c_spec_l19Room_d hn h

end Go.Proofs.Ytmlkgpoakkgjbaa.Gh
