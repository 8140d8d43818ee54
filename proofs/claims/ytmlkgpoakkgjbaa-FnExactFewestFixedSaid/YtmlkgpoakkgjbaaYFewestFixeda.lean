/- Code trees that the law FewestFixed reaches: each is what the decoding gives (checked by the kernel). -/
import Derived.Test.YtmlkgpoakkgjbaaC0
import Derived.Test.YtmlkgpoakkgjbaaFm
import Derived.Test.YtmlkgpoakkgjbaaFz
namespace Go.Proofs.Ytmlkgpoakkgjbaa.Gh
open Go Go.RowKit Go.Proofs
set_option linter.unusedVariables false
set_option linter.unusedSimpArgs false
set_option maxHeartbeats 4000000

abbrev c_cmp_Compare_int64_0 : List GOp := [oo 4 (.mv (ci 0))]
abbrev c_cmp_Compare_int64_1 : List GOp := [oo 7 (.mv (tt 0)), oo 8 (.call (ff 248) [tt 7]), oo 5 (.mv (tt 8))]
abbrev c_cmp_Compare_int64_2 : List GOp := [oo 9 (.mv (tt 1)), oo 10 (.call (ff 248) [tt 9]), oo 6 (.mv (tt 10))]
abbrev c_cmp_Compare_int64_3 : List GOp := [oo 11 (.mv (tt 5))]
abbrev c_cmp_Compare_int64_4 : List GOp := [oo 12 (.mv (tt 6))]
abbrev c_cmp_Compare_int64_5 : List GOp := [oo 4 (.mv (ci 0))]
abbrev c_cmp_Compare_int64_6 : List GOp := [oo 4 (.mv (ci (-1)))]
abbrev c_cmp_Compare_int64_7 : List GOp := [oo 13 (.mv (tt 6))]
abbrev c_cmp_Compare_int64_8 : List GOp := [oo 4 (.mv (ci 1))]
abbrev c_cmp_Compare_int64_9 : List GOp := [oo 14 (.mv (tt 0)), oo 15 (.mv (tt 1)), oo 16 (.bin .lss (tt 14) (tt 15))]
abbrev c_cmp_Compare_int64_10 : List GOp := [oo 4 (.mv (ci (-1)))]
abbrev c_cmp_Compare_int64_11 : List GOp := [oo 17 (.mv (tt 0)), oo 18 (.mv (tt 1)), oo 19 (.bin .gtr (tt 17) (tt 18))]
abbrev c_cmp_Compare_int64_12 : List GOp := [oo 4 (.mv (ci 1))]
abbrev c_cmp_Compare_int64_13 : List GOp := [oo 4 (.mv (ci 0))]
abbrev c_cmp_Compare_int64 : GCode := .seq (.reg c_cmp_Compare_int64_0) (.seq (.reg c_cmp_Compare_int64_1) (.seq (.reg c_cmp_Compare_int64_2) (.seq (.seq (.reg c_cmp_Compare_int64_3) (.cond (tt 11) (.seq (.seq (.reg c_cmp_Compare_int64_4) (.cond (tt 12) (.seq (.reg c_cmp_Compare_int64_5) (.ret)) (.skip))) (.seq (.reg c_cmp_Compare_int64_6) (.ret))) (.skip))) (.seq (.seq (.reg c_cmp_Compare_int64_7) (.cond (tt 13) (.seq (.reg c_cmp_Compare_int64_8) (.ret)) (.skip))) (.seq (.seq (.reg c_cmp_Compare_int64_9) (.cond (tt 16) (.seq (.reg c_cmp_Compare_int64_10) (.ret)) (.skip))) (.seq (.seq (.reg c_cmp_Compare_int64_11) (.cond (tt 19) (.seq (.reg c_cmp_Compare_int64_12) (.ret)) (.skip))) (.seq (.reg c_cmp_Compare_int64_13) (.ret))))))))
theorem c_cmp_Compare_int64_d : decFn Try.prog Try.f218 = some (20, [.t 4], c_cmp_Compare_int64) := by kernel_rfl
theorem c_cmp_Compare_int64_i {args : List Value} {G : GH} {K : Value → GH → Prop} (hn : args.length ≤ 20) (h : gW Try.prog c_cmp_Compare_int64 (RetK [.t 4] K) (T0 args) G) : GC Try.prog 218 args G K := GC_intro mixed Try.func218 c_cmp_Compare_int64_d hn h
abbrev c_cmp_Or_int_0 : List GOp := [oo 2 (.mv (ci 0))]
abbrev c_cmp_Or_int_1 : List GOp := [oo 3 (.mv (ci 0))]
abbrev c_cmp_Or_int_2 : List GOp := [oo 6 (.mv (tt 0)), oo 7 (.len (tt 6)), oo 8 (.mv (ci 0))]
abbrev c_cmp_Or_int_3 : List GOp := [oo 9 (.bin .lss (tt 8) (tt 7))]
abbrev c_cmp_Or_int_4 : List GOp := [oo 10 (.ia 1 (tt 6) (tt 8)), oo 11 (.ld (tt 10)), oo 5 (.mv (tt 11))]
abbrev c_cmp_Or_int_5 : List GOp := [oo 12 (.mv (tt 5)), oo 13 (.mv (tt 3)), oo 14 (.bin .neq (tt 12) (tt 13))]
abbrev c_cmp_Or_int_6 : List GOp := [oo 15 (.mv (tt 5)), oo 2 (.mv (tt 15))]
abbrev c_cmp_Or_int_7 : List GOp := [oo 16 (.bin .add (tt 8) (ci 1)), oo 8 (.mv (tt 16))]
abbrev c_cmp_Or_int_l0 : GCode := .seq (.reg c_cmp_Or_int_3) (.seq (.cond (tt 9) (.skip) (.exit 0)) (.seq (.blk 1 (.seq (.reg c_cmp_Or_int_4) (.seq (.reg c_cmp_Or_int_5) (.cond (tt 14) (.seq (.reg c_cmp_Or_int_6) (.ret)) (.skip))))) (.reg c_cmp_Or_int_7)))
abbrev c_cmp_Or_int_9 : List GOp := [oo 17 (.mv (tt 3)), oo 2 (.mv (tt 17))]
abbrev c_cmp_Or_int : GCode := .seq (.reg c_cmp_Or_int_0) (.seq (.reg c_cmp_Or_int_1) (.seq (.seq (.reg c_cmp_Or_int_2) (.blk 0 (.loop c_cmp_Or_int_l0))) (.seq (.reg c_cmp_Or_int_9) (.ret))))
theorem c_cmp_Or_int_d : decFn Try.prog Try.f241 = some (18, [.t 2], c_cmp_Or_int) := by kernel_rfl
theorem c_cmp_Or_int_i {args : List Value} {G : GH} {K : Value → GH → Prop} (hn : args.length ≤ 18) (h : gW Try.prog c_cmp_Or_int (RetK [.t 2] K) (T0 args) G) : GC Try.prog 241 args G K := GC_intro mixed Try.func241 c_cmp_Or_int_d hn h
abbrev c_cmp_isNaN_int64_0 : List GOp := [oo 2 (.mv (cb  false))]
abbrev c_cmp_isNaN_int64_1 : List GOp := [oo 3 (.mv (tt 0)), oo 4 (.mv (tt 0)), oo 5 (.bin .neq (tt 3) (tt 4)), oo 2 (.mv (tt 5))]
abbrev c_cmp_isNaN_int64 : GCode := .seq (.reg c_cmp_isNaN_int64_0) (.seq (.reg c_cmp_isNaN_int64_1) (.ret))
theorem c_cmp_isNaN_int64_d : decFn Try.prog Try.f248 = some (6, [.t 2], c_cmp_isNaN_int64) := by kernel_rfl
theorem c_cmp_isNaN_int64_i {args : List Value} {G : GH} {K : Value → GH → Prop} (hn : args.length ≤ 6) (h : gW Try.prog c_cmp_isNaN_int64 (RetK [.t 2] K) (T0 args) G) : GC Try.prog 248 args G K := GC_intro mixed Try.func248 c_cmp_isNaN_int64_d hn h
abbrev c_impl_FewestFixed_0 : List GOp := [oo 5 (.bx (tt 0)), oo 10 (.mv (.const (.slice none 0 0))), oo 11 (.mv (ci 0))]
abbrev c_impl_FewestFixed_1 : List GOp := [oo 17 (.ldn 2 (tt 5)), oo 18 (.mv (tt 1)), oo 19 (.mv (tt 2)), oo 20 (.call (ff 119) [tt 17, tt 18, tt 19, (.const (.slice none 0 0))]), oo 12 (.mv (tt 20))]
abbrev c_impl_FewestFixed_2 : List GOp := [oo 21 (.mv (tt 12)), oo 22 (.bin .neq (tt 21) (ci 0))]
abbrev c_impl_FewestFixed_3 : List GOp := [oo 23 (.mv (tt 12)), oo 10 (.mv (.const (.slice none 0 0))), oo 11 (.mv (tt 23))]
abbrev c_impl_FewestFixed_4 : List GOp := [oo 24 (.mv (tt 3)), oo 25 (.call (ff 122) [tt 24, (ci (-1000000)), (ci 1000000)]), oo 26 (.un .not (tt 25)), oo 27 (.mv (tt 26)), og 28 27 false (.mv (tt 4)), og 29 27 false (.call (ff 127) [tt 28]), og 30 27 false (.un .not (tt 29)), oo 31 (.pick (tt 27) (cb  true) (tt 30))]
abbrev c_impl_FewestFixed_5 : List GOp := [oo 10 (.mv (.const (.slice none 0 0))), oo 11 (.mv (ci 2))]
abbrev c_impl_FewestFixed_6 : List GOp := [oo 32 (.mv (tt 4)), oo 33 (.bld [.int .i64 0, .bool false] [(0, 1, (tt 32))]), oo 13 (.al [.int .i64 0, .bool false]), on (.st 2 (tt 13) (tt 33))]
abbrev c_impl_FewestFixed_7 : List GOp := [oo 34 (.fa 0 (tt 5)), oo 35 (.ld (tt 34)), oo 36 (.bin .add (tt 35) (ci 1)), oo 37 (.mv (ci 0))]
abbrev c_impl_FewestFixed_8 : List GOp := [oo 38 (.bin .lss (tt 37) (tt 36))]
abbrev c_impl_FewestFixed_9 : List GOp := [oo 39 (.mv (tt 37)), oo 14 (.mv (tt 39))]
abbrev c_impl_FewestFixed_10 : List GOp := [oo 40 (.mv (tt 14)), oo 41 (.call (ff 128) [tt 40]), oo 15 (.mv (tt 41)), oo 16 (.mv (cb  true))]
abbrev c_impl_FewestFixed_11 : List GOp := [oo 42 (.mv (tt 16))]
abbrev c_impl_FewestFixed_12 : List GOp := [oo 43 (.call (ff 129) [tt 13]), oo 44 (.un .not (tt 43))]
abbrev c_impl_FewestFixed_13 : List GOp := [oo 10 (.mv (.const (.slice none 0 0))), oo 11 (.mv (ci 5))]
abbrev c_impl_FewestFixed_14 : List GOp := [oo 45 (.ldn 2 (tt 5)), oo 46 (.mv (tt 1)), oo 47 (.mv (tt 2)), oo 48 (.mv (tt 3)), oo 49 (.mv (tt 15)), oo 50 (.call (ff 130) [tt 45, tt 46, tt 47, tt 48, tt 49])]
abbrev c_impl_FewestFixed_15 : List GOp := [oo 51 (.mv (tt 15)), oo 10 (.mv (tt 51)), oo 11 (.mv (ci 0))]
abbrev c_impl_FewestFixed_16 : List GOp := [oo 53 (.mv (tt 15)), oo 54 (.fa 0 (tt 5)), oo 55 (.ld (tt 54)), oo 56 (.call (ff 131) [tt 53, tt 55]), oo 52 (.mv (tt 56)), oo 57 (.ex 0 (tt 52)), oo 58 (.ex 1 (tt 52)), oo 15 (.mv (tt 57)), oo 16 (.mv (tt 58))]
abbrev c_impl_FewestFixed_l0 : GCode := .seq (.seq (.reg c_impl_FewestFixed_11) (.cond (tt 42) (.skip) (.exit 2))) (.blk 3 (.seq (.seq (.reg c_impl_FewestFixed_12) (.cond (tt 44) (.seq (.reg c_impl_FewestFixed_13) (.ret)) (.skip))) (.seq (.seq (.reg c_impl_FewestFixed_14) (.cond (tt 50) (.seq (.reg c_impl_FewestFixed_15) (.ret)) (.skip))) (.reg c_impl_FewestFixed_16))))
abbrev c_impl_FewestFixed_18 : List GOp := [oo 59 (.bin .add (tt 37) (ci 1)), oo 37 (.mv (tt 59))]
abbrev c_impl_FewestFixed_l1 : GCode := .seq (.reg c_impl_FewestFixed_8) (.seq (.cond (tt 38) (.skip) (.exit 0)) (.seq (.blk 1 (.seq (.reg c_impl_FewestFixed_9) (.seq (.reg c_impl_FewestFixed_10) (.blk 2 (.loop c_impl_FewestFixed_l0))))) (.reg c_impl_FewestFixed_18)))
abbrev c_impl_FewestFixed_20 : List GOp := [oo 10 (.mv (.const (.slice none 0 0))), oo 11 (.mv (ci 3))]
abbrev c_impl_FewestFixed : GCode := .seq (.reg c_impl_FewestFixed_0) (.seq (.seq (.reg c_impl_FewestFixed_1) (.seq (.reg c_impl_FewestFixed_2) (.cond (tt 22) (.seq (.reg c_impl_FewestFixed_3) (.ret)) (.skip)))) (.seq (.seq (.reg c_impl_FewestFixed_4) (.cond (tt 31) (.seq (.reg c_impl_FewestFixed_5) (.ret)) (.skip))) (.seq (.reg c_impl_FewestFixed_6) (.seq (.seq (.reg c_impl_FewestFixed_7) (.blk 0 (.loop c_impl_FewestFixed_l1))) (.seq (.reg c_impl_FewestFixed_20) (.ret))))))
theorem c_impl_FewestFixed_d : decFn Try.prog Try.f51 = some (60, [.t 10, .t 11], c_impl_FewestFixed) := by kernel_rfl
theorem c_impl_FewestFixed_i {args : List Value} {G : GH} {K : Value → GH → Prop} (hn : args.length ≤ 60) (h : gW Try.prog c_impl_FewestFixed (RetK [.t 10, .t 11] K) (T0 args) G) : GC Try.prog 51 args G K := GC_intro mixed Try.func51 c_impl_FewestFixed_d hn h
abbrev c_impl_ValidGraph_0 : List GOp := [oo 1 (.bx (tt 0)), oo 2 (.mv (cb  false))]
abbrev c_impl_ValidGraph_1 : List GOp := [oo 5 (.fa 1 (tt 1)), oo 6 (.ld (tt 5)), oo 7 (.len (tt 6)), oo 8 (.mv (ci 0))]
abbrev c_impl_ValidGraph_2 : List GOp := [oo 9 (.bin .lss (tt 8) (tt 7))]
abbrev c_impl_ValidGraph_3 : List GOp := [oo 10 (.mv (tt 8)), oo 11 (.ia 3 (tt 6) (tt 8)), oo 12 (.ldn 3 (tt 11)), oo 4 (.al [.int .i64 0, .int .i64 0, .int .i64 0]), oo 3 (.mv (tt 10)), on (.st 3 (tt 4) (tt 12))]
abbrev c_impl_ValidGraph_4 : List DOp := [dl 0 (oo 13 (.fa 0 (tt 4))), dl 1 (oo 14 (.ld (tt 13))), dl 2 (oo 15 (.bin .lss (tt 14) (ci 0))), dl 3 (oo 16 (.mv (tt 15))), dl 4 (og 17 16 false (.fa 0 (tt 4))), dl 5 (og 18 16 false (.ld (tt 17))), dl 6 (og 19 16 false (.fa 1 (tt 4))), dl 7 (og 20 16 false (.ld (tt 19))), dl 8 (og 21 16 false (.bin .geq (tt 18) (tt 20))), dl 9 (oo 22 (.pick (tt 16) (cb  true) (tt 21))), dl 10 (oo 23 (.mv (tt 22))), dl 11 (og 24 23 false (.fa 1 (tt 4))), dl 12 (og 25 23 false (.ld (tt 24))), dl 13 (og 26 23 false (.fa 0 (tt 1))), dl 14 (og 27 23 false (.ld (tt 26))), dl 15 (og 28 23 false (.bin .geq (tt 25) (tt 27))), dl 16 (oo 29 (.pick (tt 23) (cb  true) (tt 28))), dl 17 (oo 30 (.mv (tt 29))), dl 18 (og 31 30 false (.fa 2 (tt 4))), dl 19 (og 32 30 false (.ld (tt 31))), dh 20 [14, 12, 7, 5, 1] (og 33 30 false (.call (ff 122) [tt 32, (ci 1), (ci 9)])), dl 21 (og 34 30 false (.un .not (tt 33))), dl 22 (oo 35 (.pick (tt 30) (cb  true) (tt 34))), dl 23 (oo 36 (.mv (tt 35))), dl 24 (og 37 36 false (.mv (tt 3))), dl 25 (og 38 36 false (.bin .gtr (tt 37) (ci 0))), dl 26 (og 39 36 false (.mv (tt 38))), dl 27 (og 40 39 true (.fa 1 (tt 1))), dl 28 (og 41 39 true (.ld (tt 40))), dl 29 (og 42 39 true (.mv (tt 3))), dl 30 (og 43 39 true (.bin .sub (tt 42) (ci 1))), dl 31 (og 44 39 true (.ia 3 (tt 41) (tt 43))), dl 32 (og 45 39 true (.ldn 3 (tt 44))), dl 33 (og 46 39 true (.ldn 3 (tt 4))), dh 34 [28, 19, 14, 12, 7, 5, 1] (og 47 39 true (.call (ff 217) [tt 45, tt 46])), dl 35 (og 48 39 true (.bin .geq (tt 47) (ci 0))), dl 36 (og 49 36 false (.pick (tt 39) (tt 48) (cb  false))), dl 37 (oo 50 (.pick (tt 36) (cb  true) (tt 49)))]
abbrev c_impl_ValidGraph_5 : List GOp := [oo 2 (.mv (cb  false))]
abbrev c_impl_ValidGraph_6 : List GOp := [oo 51 (.bin .add (tt 8) (ci 1)), oo 8 (.mv (tt 51))]
abbrev c_impl_ValidGraph_l0 : GCode := .seq (.reg c_impl_ValidGraph_2) (.seq (.cond (tt 9) (.skip) (.exit 0)) (.seq (.blk 1 (.seq (.reg c_impl_ValidGraph_3) (.seq (.dreg c_impl_ValidGraph_4) (.cond (tt 50) (.seq (.reg c_impl_ValidGraph_5) (.ret)) (.skip))))) (.reg c_impl_ValidGraph_6)))
abbrev c_impl_ValidGraph_8 : List GOp := [oo 52 (.fa 0 (tt 1)), oo 53 (.ld (tt 52)), oo 54 (.call (ff 122) [tt 53, (ci 1), (ci 12)]), oo 55 (.mv (tt 54)), og 56 55 true (.fa 1 (tt 1)), og 57 55 true (.ld (tt 56)), og 58 55 true (.len (tt 57)), og 59 55 true (.bin .leq (tt 58) (ci 24)), oo 60 (.pick (tt 55) (tt 59) (cb  false)), oo 2 (.mv (tt 60))]
abbrev c_impl_ValidGraph : GCode := .seq (.reg c_impl_ValidGraph_0) (.seq (.seq (.reg c_impl_ValidGraph_1) (.blk 0 (.loop c_impl_ValidGraph_l0))) (.seq (.reg c_impl_ValidGraph_8) (.ret)))
theorem c_impl_ValidGraph_d : decFn Try.prog Try.f141 = some (61, [.t 2], c_impl_ValidGraph) := by kernel_rfl
theorem c_impl_ValidGraph_i {args : List Value} {G : GH} {K : Value → GH → Prop} (hn : args.length ≤ 61) (h : gW Try.prog c_impl_ValidGraph (RetK [.t 2] K) (T0 args) G) : GC Try.prog 141 args G K := GC_intro mixed Try.func141 c_impl_ValidGraph_d hn h
abbrev c_impl_abs_0 : List GOp := [oo 2 (.mv (ci 0))]
abbrev c_impl_abs_1 : List GOp := [oo 3 (.mv (tt 0)), oo 4 (.bin .lss (tt 3) (ci 0))]
abbrev c_impl_abs_2 : List GOp := [oo 5 (.mv (tt 0)), oo 6 (.un .neg (tt 5)), oo 2 (.mv (tt 6))]
abbrev c_impl_abs_3 : List GOp := [oo 7 (.mv (tt 0)), oo 2 (.mv (tt 7))]
abbrev c_impl_abs : GCode := .seq (.reg c_impl_abs_0) (.seq (.seq (.reg c_impl_abs_1) (.cond (tt 4) (.seq (.reg c_impl_abs_2) (.ret)) (.skip))) (.seq (.reg c_impl_abs_3) (.ret)))
theorem c_impl_abs_d : decFn Try.prog Try.f115 = some (8, [.t 2], c_impl_abs) := by kernel_rfl
theorem c_impl_abs_i {args : List Value} {G : GH} {K : Value → GH → Prop} (hn : args.length ≤ 8) (h : gW Try.prog c_impl_abs (RetK [.t 2] K) (T0 args) G) : GC Try.prog 115 args G K := GC_intro mixed Try.func115 c_impl_abs_d hn h
abbrev c_impl_areElements_0 : List GOp := [oo 3 (.bx (tt 1)), oo 4 (.mv (cb  false))]
abbrev c_impl_areElements_1 : List GOp := [oo 5 (.mv (tt 0)), oo 6 (.mf (.func 247) [] [tt 3]), oo 7 (.call (ff 152) [tt 5, tt 6]), oo 8 (.un .not (tt 7)), oo 4 (.mv (tt 8))]
abbrev c_impl_areElements : GCode := .seq (.reg c_impl_areElements_0) (.seq (.reg c_impl_areElements_1) (.ret))
theorem c_impl_areElements_d : decFn Try.prog Try.f216 = some (9, [.t 4], c_impl_areElements) := by kernel_rfl
theorem c_impl_areElements_i {args : List Value} {G : GH} {K : Value → GH → Prop} (hn : args.length ≤ 9) (h : gW Try.prog c_impl_areElements (RetK [.t 4] K) (T0 args) G) : GC Try.prog 216 args G K := GC_intro mixed Try.func216 c_impl_areElements_d hn h
abbrev c_impl_areElements_fn1_0 : List GOp := [oo 3 (.mv (cb  false))]
abbrev c_impl_areElements_fn1_1 : List GOp := [oo 4 (.mv (tt 0)), oo 5 (.ld (tt 1)), oo 6 (.call (ff 180) [tt 4, tt 5]), oo 7 (.un .not (tt 6)), oo 3 (.mv (tt 7))]
abbrev c_impl_areElements_fn1 : GCode := .seq (.reg c_impl_areElements_fn1_0) (.seq (.reg c_impl_areElements_fn1_1) (.ret))
theorem c_impl_areElements_fn1_d : decFn Try.prog Try.f247 = some (8, [.t 3], c_impl_areElements_fn1) := by kernel_rfl
theorem c_impl_areElements_fn1_i {args : List Value} {G : GH} {K : Value → GH → Prop} (hn : args.length ≤ 8) (h : gW Try.prog c_impl_areElements_fn1 (RetK [.t 3] K) (T0 args) G) : GC Try.prog 247 args G K := GC_intro mixed Try.func247 c_impl_areElements_fn1_d hn h
abbrev c_impl_averageRest_0 : List GOp := [oo 4 (.bx (tt 0)), oo 6 (.bx (tt 2)), oo 7 (.bx (tt 3)), oo 8 (.mv (ci 0)), oo 9 (.mv (.const (.slice none 0 0)))]
abbrev c_impl_averageRest_1 : List GOp := [oo 10 (.mv (tt 1)), oo 11 (.mf (.func 210) [] [tt 4, tt 6, tt 7]), oo 12 (.call (ff 111) [tt 10, tt 11]), oo 13 (.ex 0 (tt 12)), oo 14 (.ex 1 (tt 12)), oo 8 (.mv (tt 13)), oo 9 (.mv (tt 14))]
abbrev c_impl_averageRest : GCode := .seq (.reg c_impl_averageRest_0) (.seq (.reg c_impl_averageRest_1) (.ret))
theorem c_impl_averageRest_d : decFn Try.prog Try.f125 = some (15, [.t 8, .t 9], c_impl_averageRest) := by kernel_rfl
theorem c_impl_averageRest_i {args : List Value} {G : GH} {K : Value → GH → Prop} (hn : args.length ≤ 15) (h : gW Try.prog c_impl_averageRest (RetK [.t 8, .t 9] K) (T0 args) G) : GC Try.prog 125 args G K := GC_intro mixed Try.func125 c_impl_averageRest_d hn h
abbrev c_impl_averageRest_fn1_0 : List GOp := [oo 5 (.mv (.const (.slice none 0 0)))]
abbrev c_impl_averageRest_fn1_1 : List GOp := [oo 6 (.ldn 2 (tt 1)), oo 7 (.mv (tt 0)), oo 8 (.ld (tt 2)), oo 9 (.ld (tt 3)), oo 10 (.call (ff 120) [tt 6, tt 7, tt 8, (ci 2000000), tt 9]), oo 5 (.mv (tt 10))]
abbrev c_impl_averageRest_fn1 : GCode := .seq (.reg c_impl_averageRest_fn1_0) (.seq (.reg c_impl_averageRest_fn1_1) (.ret))
theorem c_impl_averageRest_fn1_d : decFn Try.prog Try.f210 = some (11, [.t 5], c_impl_averageRest_fn1) := by kernel_rfl
theorem c_impl_averageRest_fn1_i {args : List Value} {G : GH} {K : Value → GH → Prop} (hn : args.length ≤ 11) (h : gW Try.prog c_impl_averageRest_fn1 (RetK [.t 5] K) (T0 args) G) : GC Try.prog 210 args G K := GC_intro mixed Try.func210 c_impl_averageRest_fn1_d hn h
abbrev c_impl_averaged_0 : List GOp := [oo 5 (.bx (tt 0)), oo 10 (.mv (.const (.slice none 0 0)))]
abbrev c_impl_averaged_1 : DT := (.path [dl 0 (oo 18 (.fa 0 (tt 5)))] (.path [dl 1 (oo 19 (.ld (tt 18)))] (.path [dl 3 (oo 21 (.fa 0 (tt 5)))] (.path [dl 4 (oo 22 (.ld (tt 21)))] (.both (.path [dh 2 [4] (oo 20 (.mk 1 8 [.int .i64 0] (tt 19) (tt 19)))] (.path [dl 6 (oo 11 (.mv (tt 20)))] (.path [dh 5 [1] (oo 23 (.mk 1 8 [.int .i64 0] (tt 22) (tt 22)))] (.path [dl 7 (oo 12 (.mv (tt 23)))] .fin)))) (.path [dh 5 [1] (oo 23 (.mk 1 8 [.int .i64 0] (tt 22) (tt 22)))] (.path [dh 2 [4] (oo 20 (.mk 1 8 [.int .i64 0] (tt 19) (tt 19)))] (.path [dl 6 (oo 11 (.mv (tt 20)))] (.path [dl 7 (oo 12 (.mv (tt 23)))] .fin)))))))))
abbrev c_impl_averaged_2 : List GOp := [oo 24 (.mv (tt 11)), oo 25 (.len (tt 24)), oo 26 (.mv (ci 0))]
abbrev c_impl_averaged_3 : List GOp := [oo 27 (.bin .lss (tt 26) (tt 25))]
abbrev c_impl_averaged_4 : List GOp := [oo 28 (.mv (tt 26)), oo 13 (.mv (tt 28))]
abbrev c_impl_averaged_5 : List GOp := [oo 29 (.mv (tt 11)), oo 30 (.mv (tt 13)), oo 31 (.mv (tt 12)), oo 32 (.mv (tt 13)), oo 33 (.mv (tt 2)), oo 34 (.mv (tt 1)), oo 35 (.mv (tt 13)), oo 36 (.ia 1 (tt 34) (tt 35)), oo 37 (.ld (tt 36)), oo 38 (.bin .mul (tt 33) (tt 37)), oo 39 (.mv (tt 2)), oo 40 (.ia 1 (tt 29) (tt 30)), on (.st 1 (tt 40) (tt 38)), oo 41 (.ia 1 (tt 31) (tt 32)), on (.st 1 (tt 41) (tt 39))]
abbrev c_impl_averaged_6 : List GOp := [oo 42 (.bin .add (tt 26) (ci 1)), oo 26 (.mv (tt 42))]
abbrev c_impl_averaged_l0 : GCode := .seq (.reg c_impl_averaged_3) (.seq (.cond (tt 27) (.skip) (.exit 0)) (.seq (.blk 1 (.seq (.reg c_impl_averaged_4) (.reg c_impl_averaged_5))) (.reg c_impl_averaged_6)))
abbrev c_impl_averaged_8 : List GOp := [oo 43 (.fa 1 (tt 5)), oo 44 (.ld (tt 43)), oo 45 (.len (tt 44)), oo 46 (.mv (ci 0))]
abbrev c_impl_averaged_9 : List GOp := [oo 47 (.bin .lss (tt 46) (tt 45))]
abbrev c_impl_averaged_10 : List GOp := [oo 48 (.ia 3 (tt 44) (tt 46)), oo 49 (.ldn 3 (tt 48)), oo 15 (.al [.int .i64 0, .int .i64 0, .int .i64 0]), on (.st 3 (tt 15) (tt 49))]
abbrev c_impl_averaged_11 : List DOp := [dl 0 (oo 50 (.mv (tt 1))), dl 1 (oo 51 (.fa 0 (tt 15))), dl 2 (oo 52 (.ld (tt 51))), dl 3 (oo 53 (.ia 1 (tt 50) (tt 52))), dl 4 (oo 54 (.ld (tt 53))), dl 5 (oo 55 (.mv (tt 1))), dl 6 (oo 56 (.fa 1 (tt 15))), dl 7 (oo 57 (.ld (tt 56))), dl 8 (oo 58 (.ia 1 (tt 55) (tt 57))), dl 9 (oo 59 (.ld (tt 58))), dl 10 (oo 60 (.bin .sub (tt 54) (tt 59))), dl 12 (oo 62 (.mv (tt 3))), dh 11 [9, 7, 4, 2] (oo 61 (.call (ff 115) [tt 60])), dl 13 (oo 63 (.bin .leq (tt 61) (tt 62)))]
abbrev c_impl_averaged_12 : List DOp := [dl 0 (oo 64 (.mv (tt 11))), dl 1 (oo 65 (.fa 0 (tt 15))), dl 2 (oo 66 (.ld (tt 65))), dl 3 (oo 67 (.ia 1 (tt 64) (tt 66))), dl 4 (oo 68 (.ld (tt 67))), dl 5 (oo 69 (.fa 2 (tt 15))), dl 6 (oo 70 (.ld (tt 69))), dl 7 (oo 71 (.mv (tt 1))), dl 8 (oo 72 (.fa 1 (tt 15))), dl 9 (oo 73 (.ld (tt 72))), dl 10 (oo 74 (.ia 1 (tt 71) (tt 73))), dl 11 (oo 75 (.ld (tt 74))), dl 12 (oo 76 (.bin .mul (tt 70) (tt 75))), dl 13 (oo 77 (.bin .add (tt 68) (tt 76))), dl 14 (oo 78 (.ia 1 (tt 64) (tt 66))), dh 15 [] (on (.st 1 (tt 78) (tt 77)))]
abbrev c_impl_averaged_13 : List DOp := [dl 0 (oo 79 (.mv (tt 11))), dl 1 (oo 80 (.fa 1 (tt 15))), dl 2 (oo 81 (.ld (tt 80))), dl 3 (oo 82 (.ia 1 (tt 79) (tt 81))), dl 4 (oo 83 (.ld (tt 82))), dl 5 (oo 84 (.fa 2 (tt 15))), dl 6 (oo 85 (.ld (tt 84))), dl 7 (oo 86 (.mv (tt 1))), dl 8 (oo 87 (.fa 0 (tt 15))), dl 9 (oo 88 (.ld (tt 87))), dl 10 (oo 89 (.ia 1 (tt 86) (tt 88))), dl 11 (oo 90 (.ld (tt 89))), dl 12 (oo 91 (.bin .mul (tt 85) (tt 90))), dl 13 (oo 92 (.bin .add (tt 83) (tt 91))), dl 14 (oo 93 (.ia 1 (tt 79) (tt 81))), dh 15 [] (on (.st 1 (tt 93) (tt 92)))]
abbrev c_impl_averaged_14 : List DOp := [dl 0 (oo 94 (.mv (tt 12))), dl 1 (oo 95 (.fa 0 (tt 15))), dl 2 (oo 96 (.ld (tt 95))), dl 3 (oo 97 (.ia 1 (tt 94) (tt 96))), dl 4 (oo 98 (.ld (tt 97))), dl 5 (oo 99 (.fa 2 (tt 15))), dl 6 (oo 100 (.ld (tt 99))), dl 7 (oo 101 (.bin .add (tt 98) (tt 100))), dl 8 (oo 102 (.ia 1 (tt 94) (tt 96))), dh 9 [] (on (.st 1 (tt 102) (tt 101)))]
abbrev c_impl_averaged_15 : List DOp := [dl 0 (oo 103 (.mv (tt 12))), dl 1 (oo 104 (.fa 1 (tt 15))), dl 2 (oo 105 (.ld (tt 104))), dl 3 (oo 106 (.ia 1 (tt 103) (tt 105))), dl 4 (oo 107 (.ld (tt 106))), dl 5 (oo 108 (.fa 2 (tt 15))), dl 6 (oo 109 (.ld (tt 108))), dl 7 (oo 110 (.bin .add (tt 107) (tt 109))), dl 8 (oo 111 (.ia 1 (tt 103) (tt 105))), dh 9 [] (on (.st 1 (tt 111) (tt 110)))]
abbrev c_impl_averaged_16 : List GOp := [oo 112 (.bin .add (tt 46) (ci 1)), oo 46 (.mv (tt 112))]
abbrev c_impl_averaged_l1 : GCode := .seq (.reg c_impl_averaged_9) (.seq (.cond (tt 47) (.skip) (.exit 2)) (.seq (.blk 3 (.seq (.reg c_impl_averaged_10) (.seq (.dreg c_impl_averaged_11) (.cond (tt 63) (.seq (.dreg c_impl_averaged_12) (.seq (.dreg c_impl_averaged_13) (.seq (.dreg c_impl_averaged_14) (.dreg c_impl_averaged_15)))) (.skip))))) (.reg c_impl_averaged_16)))
abbrev c_impl_averaged_18 : List GOp := [oo 113 (.mv (tt 1)), oo 114 (.call (ff 123) [tt 113]), oo 16 (.mv (tt 114))]
abbrev c_impl_averaged_19 : List GOp := [oo 115 (.mv (tt 16)), oo 116 (.len (tt 115)), oo 117 (.mv (ci 0))]
abbrev c_impl_averaged_20 : List GOp := [oo 118 (.bin .lss (tt 117) (tt 116))]
abbrev c_impl_averaged_21 : List GOp := [oo 119 (.mv (tt 117)), oo 17 (.mv (tt 119))]
abbrev c_impl_averaged_22 : List GOp := [oo 120 (.mv (tt 12)), oo 121 (.mv (tt 17)), oo 122 (.ia 1 (tt 120) (tt 121)), oo 123 (.ld (tt 122)), oo 124 (.bin .gtr (tt 123) (ci 0)), oo 125 (.mv (tt 124)), og 126 125 true (.mv (tt 4)), og 127 125 true (.mv (tt 17)), og 128 125 true (.call (ff 137) [tt 126, tt 127]), og 129 125 true (.un .not (tt 128)), oo 130 (.pick (tt 125) (tt 129) (cb  false))]
abbrev c_impl_averaged_23 : List DOp := [dl 0 (oo 131 (.mv (tt 16))), dl 1 (oo 132 (.mv (tt 17))), dl 2 (oo 133 (.mv (tt 11))), dl 3 (oo 134 (.mv (tt 17))), dl 4 (oo 135 (.ia 1 (tt 133) (tt 134))), dl 5 (oo 136 (.ld (tt 135))), dl 6 (oo 137 (.mv (tt 12))), dl 7 (oo 138 (.mv (tt 17))), dl 8 (oo 139 (.ia 1 (tt 137) (tt 138))), dl 9 (oo 140 (.ld (tt 139))), dh 10 [] (oo 141 (.call (ff 209) [tt 136, tt 140])), dl 11 (oo 142 (.ia 1 (tt 131) (tt 132))), dh 12 [] (on (.st 1 (tt 142) (tt 141)))]
abbrev c_impl_averaged_24 : List GOp := [oo 143 (.bin .add (tt 117) (ci 1)), oo 117 (.mv (tt 143))]
abbrev c_impl_averaged_l2 : GCode := .seq (.reg c_impl_averaged_20) (.seq (.cond (tt 118) (.skip) (.exit 4)) (.seq (.blk 5 (.seq (.reg c_impl_averaged_21) (.seq (.reg c_impl_averaged_22) (.cond (tt 130) (.dreg c_impl_averaged_23) (.skip))))) (.reg c_impl_averaged_24)))
abbrev c_impl_averaged_26 : List GOp := [oo 144 (.mv (tt 16)), oo 10 (.mv (tt 144))]
abbrev c_impl_averaged : GCode := .seq (.reg c_impl_averaged_0) (.seq (.dtree c_impl_averaged_1) (.seq (.seq (.reg c_impl_averaged_2) (.blk 0 (.loop c_impl_averaged_l0))) (.seq (.seq (.reg c_impl_averaged_8) (.blk 2 (.loop c_impl_averaged_l1))) (.seq (.reg c_impl_averaged_18) (.seq (.seq (.reg c_impl_averaged_19) (.blk 4 (.loop c_impl_averaged_l2))) (.seq (.reg c_impl_averaged_26) (.ret)))))))
theorem c_impl_averaged_d : decFn Try.prog Try.f120 = some (145, [.t 10], c_impl_averaged) := by kernel_rfl
theorem c_impl_averaged_i {args : List Value} {G : GH} {K : Value → GH → Prop} (hn : args.length ≤ 145) (h : gW Try.prog c_impl_averaged (RetK [.t 10] K) (T0 args) G) : GC Try.prog 120 args G K := GC_intro mixed Try.func120 c_impl_averaged_d hn h
abbrev c_impl_compareEdges_0 : List GOp := [oo 2 (.bx (tt 0)), oo 3 (.bx (tt 1)), oo 4 (.mv (ci 0))]
abbrev c_impl_compareEdges_1 : List DOp := [dl 0 (oo 5 (.fa 0 (tt 2))), dl 1 (oo 6 (.ld (tt 5))), dl 2 (oo 7 (.fa 0 (tt 3))), dl 3 (oo 8 (.ld (tt 7))), dl 5 (oo 10 (.fa 1 (tt 2))), dl 6 (oo 11 (.ld (tt 10))), dl 7 (oo 12 (.fa 1 (tt 3))), dl 8 (oo 13 (.ld (tt 12))), dh 4 [8, 6] (oo 9 (.call (ff 218) [tt 6, tt 8])), dh 9 [3, 1] (oo 14 (.call (ff 218) [tt 11, tt 13])), dh 10 [8, 6, 3, 1] (oo 15 (.bs 1 [tt 9, tt 14])), dh 11 [8, 6, 3, 1] (oo 16 (.call (ff 241) [tt 15])), dl 12 (oo 4 (.mv (tt 16)))]
abbrev c_impl_compareEdges : GCode := .seq (.reg c_impl_compareEdges_0) (.seq (.dreg c_impl_compareEdges_1) (.ret))
theorem c_impl_compareEdges_d : decFn Try.prog Try.f217 = some (17, [.t 4], c_impl_compareEdges) := by kernel_rfl
theorem c_impl_compareEdges_i {args : List Value} {G : GH} {K : Value → GH → Prop} (hn : args.length ≤ 17) (h : gW Try.prog c_impl_compareEdges (RetK [.t 4] K) (T0 args) G) : GC Try.prog 217 args G K := GC_intro mixed Try.func217 c_impl_compareEdges_d hn h
abbrev c_impl_counter_node_0 : List GOp := [oo 2 (.mv (cb  false))]
abbrev c_impl_counter_node_1 : List GOp := [oo 3 (.mv (tt 0)), oo 4 (.nc (tt 3)), oo 5 (.fa 0 (tt 4)), oo 6 (.ld (tt 5)), oo 7 (.bin .eql (tt 6) (ci 0))]
abbrev c_impl_counter_node_2 : List GOp := [oo 8 (.mv (tt 0)), oo 9 (.nc (tt 8)), oo 10 (.fa 1 (tt 9)), on (.st 1 (tt 10) (cb  true))]
abbrev c_impl_counter_node_3 : List GOp := [oo 2 (.mv (cb  false))]
abbrev c_impl_counter_node_4 : List GOp := [oo 11 (.mv (tt 0)), oo 12 (.nc (tt 11)), oo 13 (.fa 0 (tt 12)), oo 14 (.ld (tt 13)), oo 15 (.bin .sub (tt 14) (ci 1)), oo 16 (.nc (tt 11)), oo 17 (.fa 0 (tt 16)), on (.st 1 (tt 17) (tt 15))]
abbrev c_impl_counter_node_5 : List GOp := [oo 2 (.mv (cb  true))]
abbrev c_impl_counter_node : GCode := .seq (.reg c_impl_counter_node_0) (.seq (.seq (.reg c_impl_counter_node_1) (.cond (tt 7) (.seq (.reg c_impl_counter_node_2) (.seq (.reg c_impl_counter_node_3) (.ret))) (.skip))) (.seq (.reg c_impl_counter_node_4) (.seq (.reg c_impl_counter_node_5) (.ret))))
theorem c_impl_counter_node_d : decFn Try.prog Try.f129 = some (18, [.t 2], c_impl_counter_node) := by kernel_rfl
theorem c_impl_counter_node_i {args : List Value} {G : GH} {K : Value → GH → Prop} (hn : args.length ≤ 18) (h : gW Try.prog c_impl_counter_node (RetK [.t 2] K) (T0 args) G) : GC Try.prog 129 args G K := GC_intro mixed Try.func129 c_impl_counter_node_d hn h
abbrev c_impl_firstChoice_0 : List GOp := [oo 2 (.mv (.const (.slice none 0 0)))]
abbrev c_impl_firstChoice_1 : List GOp := [oo 3 (.mv (.const (.slice none 0 0)))]
abbrev c_impl_firstChoice_2 : List GOp := [oo 5 (.mv (tt 0)), oo 6 (.mv (ci 0))]
abbrev c_impl_firstChoice_3 : List GOp := [oo 7 (.bin .lss (tt 6) (tt 5))]
abbrev c_impl_firstChoice_4 : List GOp := [oo 8 (.mv (tt 6)), oo 4 (.mv (tt 8))]
abbrev c_impl_firstChoice_5 : List GOp := [oo 9 (.mv (tt 3)), oo 10 (.mv (tt 4)), oo 11 (.bs 1 [tt 10]), oo 12 (.ap 1 8 [.int .i64 0] (tt 9) (tt 11)), oo 3 (.mv (tt 12))]
abbrev c_impl_firstChoice_6 : List GOp := [oo 13 (.bin .add (tt 6) (ci 1)), oo 6 (.mv (tt 13))]
abbrev c_impl_firstChoice_l0 : GCode := .seq (.reg c_impl_firstChoice_3) (.seq (.cond (tt 7) (.skip) (.exit 0)) (.seq (.blk 1 (.seq (.reg c_impl_firstChoice_4) (.reg c_impl_firstChoice_5))) (.reg c_impl_firstChoice_6)))
abbrev c_impl_firstChoice_8 : List GOp := [oo 14 (.mv (tt 3)), oo 2 (.mv (tt 14))]
abbrev c_impl_firstChoice : GCode := .seq (.reg c_impl_firstChoice_0) (.seq (.reg c_impl_firstChoice_1) (.seq (.seq (.reg c_impl_firstChoice_2) (.blk 0 (.loop c_impl_firstChoice_l0))) (.seq (.reg c_impl_firstChoice_8) (.ret))))
theorem c_impl_firstChoice_d : decFn Try.prog Try.f128 = some (15, [.t 2], c_impl_firstChoice) := by kernel_rfl
theorem c_impl_firstChoice_i {args : List Value} {G : GH} {K : Value → GH → Prop} (hn : args.length ≤ 15) (h : gW Try.prog c_impl_firstChoice (RetK [.t 2] K) (T0 args) G) : GC Try.prog 128 args G K := GC_intro mixed Try.func128 c_impl_firstChoice_d hn h
abbrev c_impl_isBudget_0 : List GOp := [oo 2 (.mv (cb  false))]
abbrev c_impl_isBudget_1 : List GOp := [oo 3 (.mv (tt 0)), oo 4 (.call (ff 122) [tt 3, (ci 1), (ci 20000)]), oo 2 (.mv (tt 4))]
abbrev c_impl_isBudget : GCode := .seq (.reg c_impl_isBudget_0) (.seq (.reg c_impl_isBudget_1) (.ret))
theorem c_impl_isBudget_d : decFn Try.prog Try.f127 = some (5, [.t 2], c_impl_isBudget) := by kernel_rfl
theorem c_impl_isBudget_i {args : List Value} {G : GH} {K : Value → GH → Prop} (hn : args.length ≤ 5) (h : gW Try.prog c_impl_isBudget (RetK [.t 2] K) (T0 args) G) : GC Try.prog 127 args G K := GC_intro mixed Try.func127 c_impl_isBudget_d hn h
abbrev c_impl_isElement_0 : List GOp := [oo 4 (.mv (cb  false))]
abbrev c_impl_isElement_1 : List GOp := [oo 5 (.mv (tt 0)), oo 6 (.mv (tt 1)), oo 7 (.bin .sub (tt 6) (ci 1)), oo 8 (.call (ff 122) [tt 5, (ci 0), tt 7]), oo 4 (.mv (tt 8))]
abbrev c_impl_isElement : GCode := .seq (.reg c_impl_isElement_0) (.seq (.reg c_impl_isElement_1) (.ret))
theorem c_impl_isElement_d : decFn Try.prog Try.f180 = some (9, [.t 4], c_impl_isElement) := by kernel_rfl
theorem c_impl_isElement_i {args : List Value} {G : GH} {K : Value → GH → Prop} (hn : args.length ≤ 9) (h : gW Try.prog c_impl_isElement (RetK [.t 4] K) (T0 args) G) : GC Try.prog 180 args G K := GC_intro mixed Try.func180 c_impl_isElement_d hn h
abbrev c_impl_isGraphVector_0 : List GOp := [oo 2 (.bx (tt 0)), oo 4 (.mv (cb  false))]
abbrev c_impl_isGraphVector_1 : List DOp := [dl 0 (oo 5 (.mv (tt 1))), dl 2 (oo 7 (.fa 0 (tt 2))), dl 3 (oo 8 (.ld (tt 7))), dh 1 [3] (oo 6 (.call (ff 213) [tt 5])), dl 4 (oo 9 (.bin .eql (tt 6) (tt 8))), dl 5 (oo 10 (.mv (tt 9))), dl 6 (og 11 10 true (.mv (tt 1))), dh 7 [3] (og 12 10 true (.call (ff 152) [tt 11, (ff 246)])), dl 8 (og 13 10 true (.un .not (tt 12))), dl 9 (oo 14 (.pick (tt 10) (tt 13) (cb  false))), dl 10 (oo 4 (.mv (tt 14)))]
abbrev c_impl_isGraphVector : GCode := .seq (.reg c_impl_isGraphVector_0) (.seq (.dreg c_impl_isGraphVector_1) (.ret))
theorem c_impl_isGraphVector_d : decFn Try.prog Try.f201 = some (15, [.t 4], c_impl_isGraphVector) := by kernel_rfl
theorem c_impl_isGraphVector_i {args : List Value} {G : GH} {K : Value → GH → Prop} (hn : args.length ≤ 15) (h : gW Try.prog c_impl_isGraphVector (RetK [.t 4] K) (T0 args) G) : GC Try.prog 201 args G K := GC_intro mixed Try.func201 c_impl_isGraphVector_d hn h
abbrev c_impl_isGraphVector_fn1_0 : List GOp := [oo 2 (.mv (cb  false))]
abbrev c_impl_isGraphVector_fn1_1 : List GOp := [oo 3 (.mv (tt 0)), oo 4 (.call (ff 122) [tt 3, (ci (-1000000)), (ci 1000000)]), oo 5 (.un .not (tt 4)), oo 2 (.mv (tt 5))]
abbrev c_impl_isGraphVector_fn1 : GCode := .seq (.reg c_impl_isGraphVector_fn1_0) (.seq (.reg c_impl_isGraphVector_fn1_1) (.ret))
theorem c_impl_isGraphVector_fn1_d : decFn Try.prog Try.f246 = some (6, [.t 2], c_impl_isGraphVector_fn1) := by kernel_rfl
theorem c_impl_isGraphVector_fn1_i {args : List Value} {G : GH} {K : Value → GH → Prop} (hn : args.length ≤ 6) (h : gW Try.prog c_impl_isGraphVector_fn1 (RetK [.t 2] K) (T0 args) G) : GC Try.prog 246 args G K := GC_intro mixed Try.func246 c_impl_isGraphVector_fn1_d hn h
abbrev c_impl_isOwn_0 : List GOp := [oo 2 (.mv (cb  false))]
abbrev c_impl_isOwn_1 : List GOp := [oo 3 (.mv (tt 0)), oo 4 (.call (ff 122) [tt 3, (ci 0), (ci 1000)]), oo 2 (.mv (tt 4))]
abbrev c_impl_isOwn : GCode := .seq (.reg c_impl_isOwn_0) (.seq (.reg c_impl_isOwn_1) (.ret))
theorem c_impl_isOwn_d : decFn Try.prog Try.f208 = some (5, [.t 2], c_impl_isOwn) := by kernel_rfl
theorem c_impl_isOwn_i {args : List Value} {G : GH} {K : Value → GH → Prop} (hn : args.length ≤ 5) (h : gW Try.prog c_impl_isOwn (RetK [.t 2] K) (T0 args) G) : GC Try.prog 208 args G K := GC_intro mixed Try.func208 c_impl_isOwn_d hn h
abbrev c_impl_isRising_0 : List GOp := [oo 2 (.mv (cb  false))]
abbrev c_impl_isRising_1 : List GOp := [oo 3 (.mv (ci 1))]
abbrev c_impl_isRising_2 : List GOp := [oo 4 (.mv (tt 3)), oo 5 (.mv (tt 0)), oo 6 (.len (tt 5)), oo 7 (.bin .lss (tt 4) (tt 6))]
abbrev c_impl_isRising_3 : List DOp := [dl 0 (oo 10 (.mv (tt 0))), dl 1 (oo 11 (.mv (tt 3))), dl 2 (oo 12 (.bin .sub (tt 11) (ci 1))), dl 3 (oo 13 (.ia 1 (tt 10) (tt 12))), dl 4 (oo 14 (.ld (tt 13))), dl 5 (oo 15 (.mv (tt 0))), dl 6 (oo 16 (.mv (tt 3))), dl 7 (oo 17 (.ia 1 (tt 15) (tt 16))), dl 8 (oo 18 (.ld (tt 17))), dl 9 (oo 19 (.bin .geq (tt 14) (tt 18)))]
abbrev c_impl_isRising_4 : List GOp := [oo 2 (.mv (cb  false))]
abbrev c_impl_isRising_5 : List GOp := [oo 8 (.mv (tt 3)), oo 9 (.bin .add (tt 8) (ci 1)), oo 3 (.mv (tt 9))]
abbrev c_impl_isRising_l0 : GCode := .seq (.seq (.reg c_impl_isRising_2) (.cond (tt 7) (.skip) (.exit 0))) (.seq (.blk 1 (.seq (.dreg c_impl_isRising_3) (.cond (tt 19) (.seq (.reg c_impl_isRising_4) (.ret)) (.skip)))) (.reg c_impl_isRising_5))
abbrev c_impl_isRising_7 : List GOp := [oo 2 (.mv (cb  true))]
abbrev c_impl_isRising : GCode := .seq (.reg c_impl_isRising_0) (.seq (.seq (.reg c_impl_isRising_1) (.blk 0 (.loop c_impl_isRising_l0))) (.seq (.reg c_impl_isRising_7) (.ret)))
theorem c_impl_isRising_d : decFn Try.prog Try.f215 = some (20, [.t 2], c_impl_isRising) := by kernel_rfl
theorem c_impl_isRising_i {args : List Value} {G : GH} {K : Value → GH → Prop} (hn : args.length ≤ 20) (h : gW Try.prog c_impl_isRising (RetK [.t 2] K) (T0 args) G) : GC Try.prog 215 args G K := GC_intro mixed Try.func215 c_impl_isRising_d hn h
abbrev c_impl_isSet_0 : List GOp := [oo 2 (.bx (tt 0)), oo 4 (.mv (cb  false))]
abbrev c_impl_isSet_1 : List GOp := [oo 5 (.mv (tt 1)), oo 6 (.call (ff 215) [tt 5]), oo 7 (.mv (tt 6)), og 8 7 true (.mv (tt 1)), og 9 7 true (.fa 0 (tt 2)), og 10 7 true (.ld (tt 9)), og 11 7 true (.call (ff 216) [tt 8, tt 10]), oo 12 (.pick (tt 7) (tt 11) (cb  false)), oo 4 (.mv (tt 12))]
abbrev c_impl_isSet : GCode := .seq (.reg c_impl_isSet_0) (.seq (.reg c_impl_isSet_1) (.ret))
theorem c_impl_isSet_d : decFn Try.prog Try.f135 = some (13, [.t 4], c_impl_isSet) := by kernel_rfl
theorem c_impl_isSet_i {args : List Value} {G : GH} {K : Value → GH → Prop} (hn : args.length ≤ 13) (h : gW Try.prog c_impl_isSet (RetK [.t 4] K) (T0 args) G) : GC Try.prog 135 args G K := GC_intro mixed Try.func135 c_impl_isSet_d hn h
abbrev c_impl_leadsTo_0 : List GOp := [oo 5 (.bx (tt 0)), oo 8 (.bx (tt 3)), oo 10 (.mv (cb  false))]
abbrev c_impl_leadsTo_1 : List GOp := [oo 16 (.mv (tt 1)), oo 17 (.call (ff 123) [tt 16]), oo 11 (.mv (tt 17))]
abbrev c_impl_leadsTo_2 : List GOp := [oo 18 (.mv (tt 4)), oo 19 (.len (tt 18)), oo 20 (.mv (ci 0))]
abbrev c_impl_leadsTo_3 : List GOp := [oo 21 (.bin .lss (tt 20) (tt 19))]
abbrev c_impl_leadsTo_4 : List GOp := [oo 22 (.ia 1 (tt 18) (tt 20)), oo 23 (.ld (tt 22)), oo 13 (.mv (tt 23))]
abbrev c_impl_leadsTo_5 : List GOp := [oo 24 (.mv (tt 11)), oo 25 (.mv (tt 13)), oo 26 (.ld (tt 8)), oo 27 (.ia 1 (tt 24) (tt 25)), on (.st 1 (tt 27) (tt 26))]
abbrev c_impl_leadsTo_6 : List GOp := [oo 28 (.bin .add (tt 20) (ci 1)), oo 20 (.mv (tt 28))]
abbrev c_impl_leadsTo_l0 : GCode := .seq (.reg c_impl_leadsTo_3) (.seq (.cond (tt 21) (.skip) (.exit 0)) (.seq (.blk 1 (.seq (.reg c_impl_leadsTo_4) (.reg c_impl_leadsTo_5))) (.reg c_impl_leadsTo_6)))
abbrev c_impl_leadsTo_8 : List GOp := [oo 30 (.ldn 2 (tt 5)), oo 31 (.mv (tt 11)), oo 32 (.mv (tt 2)), oo 33 (.mv (tt 4)), oo 34 (.call (ff 125) [tt 30, tt 31, tt 32, tt 33]), oo 29 (.mv (tt 34)), oo 35 (.ex 0 (tt 29)), oo 36 (.ex 1 (tt 29)), oo 14 (.mv (tt 35)), oo 15 (.mv (tt 36))]
abbrev c_impl_leadsTo_9 : List GOp := [oo 37 (.mv (tt 14)), oo 38 (.bin .geq (tt 37) (ci 0)), oo 39 (.mv (tt 38)), og 40 39 true (.mv (tt 15)), og 41 39 true (.mf (.func 212) [] [tt 8]), og 42 39 true (.call (ff 152) [tt 40, tt 41]), og 43 39 true (.un .not (tt 42)), oo 44 (.pick (tt 39) (tt 43) (cb  false)), oo 10 (.mv (tt 44))]
abbrev c_impl_leadsTo : GCode := .seq (.reg c_impl_leadsTo_0) (.seq (.reg c_impl_leadsTo_1) (.seq (.seq (.reg c_impl_leadsTo_2) (.blk 0 (.loop c_impl_leadsTo_l0))) (.seq (.reg c_impl_leadsTo_8) (.seq (.reg c_impl_leadsTo_9) (.ret)))))
theorem c_impl_leadsTo_d : decFn Try.prog Try.f130 = some (45, [.t 10], c_impl_leadsTo) := by kernel_rfl
theorem c_impl_leadsTo_i {args : List Value} {G : GH} {K : Value → GH → Prop} (hn : args.length ≤ 45) (h : gW Try.prog c_impl_leadsTo (RetK [.t 10] K) (T0 args) G) : GC Try.prog 130 args G K := GC_intro mixed Try.func130 c_impl_leadsTo_d hn h
abbrev c_impl_leadsTo_fn1_0 : List GOp := [oo 3 (.mv (cb  false))]
abbrev c_impl_leadsTo_fn1_1 : List GOp := [oo 4 (.mv (tt 0)), oo 5 (.ld (tt 1)), oo 6 (.bin .neq (tt 4) (tt 5)), oo 3 (.mv (tt 6))]
abbrev c_impl_leadsTo_fn1 : GCode := .seq (.reg c_impl_leadsTo_fn1_0) (.seq (.reg c_impl_leadsTo_fn1_1) (.ret))
theorem c_impl_leadsTo_fn1_d : decFn Try.prog Try.f212 = some (7, [.t 3], c_impl_leadsTo_fn1) := by kernel_rfl
theorem c_impl_leadsTo_fn1_i {args : List Value} {G : GH} {K : Value → GH → Prop} (hn : args.length ≤ 7) (h : gW Try.prog c_impl_leadsTo_fn1 (RetK [.t 3] K) (T0 args) G) : GC Try.prog 212 args G K := GC_intro mixed Try.func212 c_impl_leadsTo_fn1_d hn h
abbrev c_impl_nearest_0 : List GOp := [oo 4 (.mv (ci 0))]
abbrev c_impl_nearest_1 : List DOp := [dl 0 (oo 7 (.mv (tt 0))), dl 1 (oo 8 (.mv (tt 1))), dl 2 (oo 9 (.bin .quo (tt 7) (tt 8))), dl 3 (oo 10 (.mv (tt 0))), dl 4 (oo 11 (.mv (tt 1))), dl 5 (oo 12 (.bin .rem (tt 10) (tt 11))), dh 6 [] (oo 13 (.call (ff 115) [tt 12])), dl 7 (oo 5 (.mv (tt 9))), dl 8 (oo 6 (.mv (tt 13)))]
abbrev c_impl_nearest_2 : List GOp := [oo 14 (.mv (tt 6)), oo 15 (.mv (tt 1)), oo 16 (.call (ff 115) [tt 15]), oo 17 (.mv (tt 6)), oo 18 (.bin .sub (tt 16) (tt 17)), oo 19 (.bin .geq (tt 14) (tt 18))]
abbrev c_impl_nearest_3 : List GOp := [oo 20 (.mv (tt 0)), oo 21 (.bin .lss (tt 20) (ci 0)), oo 22 (.mv (tt 1)), oo 23 (.bin .lss (tt 22) (ci 0)), oo 24 (.eqb true (tt 21) (tt 23))]
abbrev c_impl_nearest_4 : List GOp := [oo 25 (.mv (tt 5)), oo 26 (.bin .sub (tt 25) (ci 1)), oo 4 (.mv (tt 26))]
abbrev c_impl_nearest_5 : List GOp := [oo 27 (.mv (tt 5)), oo 28 (.bin .add (tt 27) (ci 1)), oo 4 (.mv (tt 28))]
abbrev c_impl_nearest_6 : List GOp := [oo 29 (.mv (tt 5)), oo 4 (.mv (tt 29))]
abbrev c_impl_nearest : GCode := .seq (.reg c_impl_nearest_0) (.seq (.dreg c_impl_nearest_1) (.seq (.seq (.reg c_impl_nearest_2) (.cond (tt 19) (.seq (.seq (.reg c_impl_nearest_3) (.cond (tt 24) (.seq (.reg c_impl_nearest_4) (.ret)) (.skip))) (.seq (.reg c_impl_nearest_5) (.ret))) (.skip))) (.seq (.reg c_impl_nearest_6) (.ret))))
theorem c_impl_nearest_d : decFn Try.prog Try.f209 = some (30, [.t 4], c_impl_nearest) := by kernel_rfl
theorem c_impl_nearest_i {args : List Value} {G : GH} {K : Value → GH → Prop} (hn : args.length ≤ 30) (h : gW Try.prog c_impl_nearest (RetK [.t 4] K) (T0 args) G) : GC Try.prog 209 args G K := GC_intro mixed Try.func209 c_impl_nearest_d hn h
abbrev c_impl_nextChoice_0 : List GOp := [oo 4 (.mv (.const (.slice none 0 0))), oo 5 (.mv (cb  false))]
abbrev c_impl_nextChoice_1 : List GOp := [oo 10 (.mv (tt 0)), oo 11 (.call (ff 213) [tt 10]), oo 6 (.mv (tt 11))]
abbrev c_impl_nextChoice_2 : List GOp := [oo 12 (.mv (tt 6)), oo 13 (.bin .sub (tt 12) (ci 1)), oo 7 (.mv (tt 13))]
abbrev c_impl_nextChoice_3 : List GOp := [oo 14 (.mv (tt 7)), oo 15 (.bin .geq (tt 14) (ci 0))]
abbrev c_impl_nextChoice_4 : List GOp := [oo 18 (.mv (tt 0)), oo 19 (.mv (tt 7)), oo 20 (.ia 1 (tt 18) (tt 19)), oo 21 (.ld (tt 20)), oo 22 (.mv (tt 1)), oo 23 (.mv (tt 6)), oo 24 (.bin .sub (tt 22) (tt 23)), oo 25 (.mv (tt 7)), oo 26 (.bin .add (tt 24) (tt 25)), oo 27 (.bin .lss (tt 21) (tt 26))]
abbrev c_impl_nextChoice_5 : List GOp := [oo 28 (.mv (tt 0)), oo 29 (.call (ff 123) [tt 28]), oo 8 (.mv (tt 29))]
abbrev c_impl_nextChoice_6 : List GOp := [oo 30 (.mv (tt 7)), oo 9 (.mv (tt 30))]
abbrev c_impl_nextChoice_7 : List GOp := [oo 31 (.mv (tt 9)), oo 32 (.mv (tt 6)), oo 33 (.bin .lss (tt 31) (tt 32))]
abbrev c_impl_nextChoice_8 : List GOp := [oo 36 (.mv (tt 8)), oo 37 (.mv (tt 9)), oo 38 (.mv (tt 0)), oo 39 (.mv (tt 7)), oo 40 (.ia 1 (tt 38) (tt 39)), oo 41 (.ld (tt 40)), oo 42 (.bin .add (tt 41) (ci 1)), oo 43 (.mv (tt 9)), oo 44 (.bin .add (tt 42) (tt 43)), oo 45 (.mv (tt 7)), oo 46 (.bin .sub (tt 44) (tt 45)), oo 47 (.ia 1 (tt 36) (tt 37)), on (.st 1 (tt 47) (tt 46))]
abbrev c_impl_nextChoice_9 : List GOp := [oo 34 (.mv (tt 9)), oo 35 (.bin .add (tt 34) (ci 1)), oo 9 (.mv (tt 35))]
abbrev c_impl_nextChoice_l0 : GCode := .seq (.seq (.reg c_impl_nextChoice_7) (.cond (tt 33) (.skip) (.exit 2))) (.seq (.blk 3 (.reg c_impl_nextChoice_8)) (.reg c_impl_nextChoice_9))
abbrev c_impl_nextChoice_11 : List GOp := [oo 48 (.mv (tt 8)), oo 4 (.mv (tt 48)), oo 5 (.mv (cb  true))]
abbrev c_impl_nextChoice_12 : List GOp := [oo 16 (.mv (tt 7)), oo 17 (.bin .sub (tt 16) (ci 1)), oo 7 (.mv (tt 17))]
abbrev c_impl_nextChoice_l1 : GCode := .seq (.seq (.reg c_impl_nextChoice_3) (.cond (tt 15) (.skip) (.exit 0))) (.seq (.blk 1 (.seq (.reg c_impl_nextChoice_4) (.cond (tt 27) (.seq (.reg c_impl_nextChoice_5) (.seq (.seq (.reg c_impl_nextChoice_6) (.blk 2 (.loop c_impl_nextChoice_l0))) (.seq (.reg c_impl_nextChoice_11) (.ret)))) (.skip)))) (.reg c_impl_nextChoice_12))
abbrev c_impl_nextChoice_14 : List GOp := [oo 4 (.mv (.const (.slice none 0 0))), oo 5 (.mv (cb  false))]
abbrev c_impl_nextChoice : GCode := .seq (.reg c_impl_nextChoice_0) (.seq (.reg c_impl_nextChoice_1) (.seq (.seq (.reg c_impl_nextChoice_2) (.blk 0 (.loop c_impl_nextChoice_l1))) (.seq (.reg c_impl_nextChoice_14) (.ret))))
theorem c_impl_nextChoice_d : decFn Try.prog Try.f131 = some (49, [.t 4, .t 5], c_impl_nextChoice) := by kernel_rfl
theorem c_impl_nextChoice_i {args : List Value} {G : GH} {K : Value → GH → Prop} (hn : args.length ≤ 49) (h : gW Try.prog c_impl_nextChoice (RetK [.t 4, .t 5] K) (T0 args) G) : GC Try.prog 131 args G K := GC_intro mixed Try.func131 c_impl_nextChoice_d hn h
abbrev c_impl_rest_0 : List GOp := [oo 4 (.mv (ci 0)), oo 5 (.mv (.const (.slice none 0 0)))]
abbrev c_impl_rest_1 : List GOp := [oo 6 (.mv (ci 0))]
abbrev c_impl_rest_2 : List GOp := [oo 8 (.mv (tt 6)), oo 9 (.bin .leq (tt 8) (ci 1000))]
abbrev c_impl_rest_3 : List GOp := [oo 12 (.mv (tt 1)), oo 13 (.mv (tt 0)), oo 14 (.call (tt 12) [tt 13]), oo 7 (.mv (tt 14))]
abbrev c_impl_rest_4 : List GOp := [oo 15 (.mv (tt 7)), oo 16 (.mv (tt 0)), oo 17 (.call (ff 205) [tt 15, tt 16])]
abbrev c_impl_rest_5 : List GOp := [oo 18 (.mv (tt 6)), oo 19 (.mv (tt 0)), oo 20 (.call (ff 123) [tt 19]), oo 4 (.mv (tt 18)), oo 5 (.mv (tt 20))]
abbrev c_impl_rest_6 : List GOp := [oo 21 (.mv (tt 7)), oo 0 (.mv (tt 21))]
abbrev c_impl_rest_7 : List GOp := [oo 10 (.mv (tt 6)), oo 11 (.bin .add (tt 10) (ci 1)), oo 6 (.mv (tt 11))]
abbrev c_impl_rest_l0 : GCode := .seq (.seq (.reg c_impl_rest_2) (.cond (tt 9) (.skip) (.exit 0))) (.seq (.blk 1 (.seq (.reg c_impl_rest_3) (.seq (.seq (.reg c_impl_rest_4) (.cond (tt 17) (.seq (.reg c_impl_rest_5) (.ret)) (.skip))) (.reg c_impl_rest_6)))) (.reg c_impl_rest_7))
abbrev c_impl_rest_9 : List GOp := [oo 4 (.mv (ci (-1))), oo 5 (.mv (.const (.slice none 0 0)))]
abbrev c_impl_rest : GCode := .seq (.reg c_impl_rest_0) (.seq (.seq (.reg c_impl_rest_1) (.blk 0 (.loop c_impl_rest_l0))) (.seq (.reg c_impl_rest_9) (.ret)))
theorem c_impl_rest_d : decFn Try.prog Try.f111 = some (22, [.t 4, .t 5], c_impl_rest) := by kernel_rfl
theorem c_impl_rest_i {args : List Value} {G : GH} {K : Value → GH → Prop} (hn : args.length ≤ 22) (h : gW Try.prog c_impl_rest (RetK [.t 4, .t 5] K) (T0 args) G) : GC Try.prog 111 args G K := GC_intro mixed Try.func111 c_impl_rest_d hn h
abbrev c_impl_size_int64_0 : List GOp := [oo 2 (.mv (ci 0))]
abbrev c_impl_size_int64_1 : List GOp := [oo 3 (.mv (tt 0)), oo 4 (.len (tt 3)), oo 2 (.mv (tt 4))]
abbrev c_impl_size_int64 : GCode := .seq (.reg c_impl_size_int64_0) (.seq (.reg c_impl_size_int64_1) (.ret))
theorem c_impl_size_int64_d : decFn Try.prog Try.f213 = some (5, [.t 2], c_impl_size_int64) := by kernel_rfl
theorem c_impl_size_int64_i {args : List Value} {G : GH} {K : Value → GH → Prop} (hn : args.length ≤ 5) (h : gW Try.prog c_impl_size_int64 (RetK [.t 2] K) (T0 args) G) : GC Try.prog 213 args G K := GC_intro mixed Try.func213 c_impl_size_int64_d hn h
abbrev c_impl_stepped_0 : List GOp := [oo 4 (.bx (tt 0)), oo 8 (.mv (ci 0))]
abbrev c_impl_stepped_1 : List GOp := [oo 10 (.ldn 2 (tt 4)), oo 11 (.mv (tt 1)), oo 12 (.call (ff 102) [tt 10, tt 11]), oo 9 (.mv (tt 12))]
abbrev c_impl_stepped_2 : List GOp := [oo 13 (.mv (tt 9)), oo 14 (.bin .neq (tt 13) (ci 0))]
abbrev c_impl_stepped_3 : List GOp := [oo 15 (.mv (tt 9)), oo 8 (.mv (tt 15))]
abbrev c_impl_stepped_4 : List GOp := [oo 16 (.mv (tt 2)), oo 17 (.call (ff 208) [tt 16]), oo 18 (.un .not (tt 17)), oo 19 (.mv (tt 18)), og 20 19 false (.ldn 2 (tt 4)), og 21 19 false (.mv (tt 3)), og 22 19 false (.call (ff 135) [tt 20, tt 21]), og 23 19 false (.un .not (tt 22)), oo 24 (.pick (tt 19) (cb  true) (tt 23))]
abbrev c_impl_stepped_5 : List GOp := [oo 8 (.mv (ci 2))]
abbrev c_impl_stepped_6 : List GOp := [oo 8 (.mv (ci 0))]
abbrev c_impl_stepped : GCode := .seq (.reg c_impl_stepped_0) (.seq (.seq (.reg c_impl_stepped_1) (.seq (.reg c_impl_stepped_2) (.cond (tt 14) (.seq (.reg c_impl_stepped_3) (.ret)) (.skip)))) (.seq (.seq (.reg c_impl_stepped_4) (.cond (tt 24) (.seq (.reg c_impl_stepped_5) (.ret)) (.skip))) (.seq (.reg c_impl_stepped_6) (.ret))))
theorem c_impl_stepped_d : decFn Try.prog Try.f119 = some (25, [.t 8], c_impl_stepped) := by kernel_rfl
theorem c_impl_stepped_i {args : List Value} {G : GH} {K : Value → GH → Prop} (hn : args.length ≤ 25) (h : gW Try.prog c_impl_stepped (RetK [.t 8] K) (T0 args) G) : GC Try.prog 119 args G K := GC_intro mixed Try.func119 c_impl_stepped_d hn h
abbrev c_impl_withVector_0 : List GOp := [oo 2 (.bx (tt 0)), oo 4 (.mv (ci 0))]
abbrev c_impl_withVector_1 : List GOp := [oo 6 (.ldn 2 (tt 2)), oo 7 (.call (ff 141) [tt 6]), oo 8 (.un .not (tt 7)), oo 5 (.mv (tt 8))]
abbrev c_impl_withVector_2 : List GOp := [oo 4 (.mv (ci 1))]
abbrev c_impl_withVector_3 : List GOp := [oo 10 (.ldn 2 (tt 2)), oo 11 (.mv (tt 1)), oo 12 (.call (ff 201) [tt 10, tt 11]), oo 13 (.un .not (tt 12)), oo 9 (.mv (tt 13))]
abbrev c_impl_withVector_4 : List GOp := [oo 4 (.mv (ci 2))]
abbrev c_impl_withVector_5 : List GOp := [oo 4 (.mv (ci 0))]
abbrev c_impl_withVector : GCode := .seq (.reg c_impl_withVector_0) (.seq (.blk 0 (.seq (.reg c_impl_withVector_1) (.cond (tt 5) (.seq (.reg c_impl_withVector_2) (.ret)) (.seq (.reg c_impl_withVector_3) (.cond (tt 9) (.seq (.reg c_impl_withVector_4) (.ret)) (.skip)))))) (.seq (.reg c_impl_withVector_5) (.ret)))
theorem c_impl_withVector_d : decFn Try.prog Try.f102 = some (14, [.t 4], c_impl_withVector) := by kernel_rfl
theorem c_impl_withVector_i {args : List Value} {G : GH} {K : Value → GH → Prop} (hn : args.length ≤ 14) (h : gW Try.prog c_impl_withVector (RetK [.t 4] K) (T0 args) G) : GC Try.prog 102 args G K := GC_intro mixed Try.func102 c_impl_withVector_d hn h
abbrev c_impl_within_0 : List GOp := [oo 6 (.mv (cb  false))]
abbrev c_impl_within_1 : List GOp := [oo 7 (.mv (tt 0)), oo 8 (.mv (tt 1)), oo 9 (.bin .geq (tt 7) (tt 8)), oo 10 (.mv (tt 9)), og 11 10 true (.mv (tt 0)), og 12 10 true (.mv (tt 2)), og 13 10 true (.bin .leq (tt 11) (tt 12)), oo 14 (.pick (tt 10) (tt 13) (cb  false)), oo 6 (.mv (tt 14))]
abbrev c_impl_within : GCode := .seq (.reg c_impl_within_0) (.seq (.reg c_impl_within_1) (.ret))
theorem c_impl_within_d : decFn Try.prog Try.f122 = some (15, [.t 6], c_impl_within) := by kernel_rfl
theorem c_impl_within_i {args : List Value} {G : GH} {K : Value → GH → Prop} (hn : args.length ≤ 15) (h : gW Try.prog c_impl_within (RetK [.t 6] K) (T0 args) G) : GC Try.prog 122 args G K := GC_intro mixed Try.func122 c_impl_within_d hn h
abbrev c_laws_FnExactFewestFixed_0 : List GOp := [oo 5 (.bx (tt 0)), oo 10 (.mv (cb  false))]
abbrev c_laws_FnExactFewestFixed_1 : List GOp := [oo 23 (.mv (tt 1)), oo 24 (.len (tt 23)), oo 25 (.bin .gtr (tt 24) (ci 1048576))]
abbrev c_laws_FnExactFewestFixed_2 : List GOp := [oo 10 (.mv (cb  true))]
abbrev c_laws_FnExactFewestFixed_3 : List GOp := [oo 11 (.mv (ci 1048576))]
abbrev c_laws_FnExactFewestFixed_4 : List GOp := [oo 26 (.ldn 2 (tt 5)), oo 27 (.mv (tt 11)), oo 28 (.call (ff 26) [tt 26, tt 27]), oo 11 (.mv (tt 28))]
abbrev c_laws_FnExactFewestFixed_5 : List GOp := [oo 29 (.mv (tt 11)), oo 30 (.bin .lss (tt 29) (ci 0))]
abbrev c_laws_FnExactFewestFixed_6 : List GOp := [oo 10 (.mv (cb  true))]
abbrev c_laws_FnExactFewestFixed_7 : List GOp := [oo 32 (.ldn 2 (tt 5)), oo 33 (.call (ff 28) [tt 32]), oo 34 (.mv (tt 1)), oo 35 (.call (ff 29) [tt 34]), oo 36 (.mv (tt 2)), oo 37 (.mv (tt 3)), oo 38 (.mv (tt 4)), oo 39 (.call (ff 50) [tt 33, tt 35, tt 36, tt 37, tt 38]), oo 31 (.mv (tt 39)), oo 40 (.ex 0 (tt 31)), oo 41 (.ex 1 (tt 31)), oo 12 (.mv (tt 40)), oo 13 (.mv (tt 41))]
abbrev c_laws_FnExactFewestFixed_8 : List GOp := [oo 42 (.ldn 2 (tt 5)), oo 43 (.call (ff 28) [tt 42]), oo 14 (.al [.int .i64 0, .slice none 0 0]), on (.st 2 (tt 14) (tt 43))]
abbrev c_laws_FnExactFewestFixed_9 : List GOp := [oo 44 (.mv (tt 1)), oo 45 (.call (ff 29) [tt 44]), oo 15 (.mv (tt 45))]
abbrev c_laws_FnExactFewestFixed_10 : List GOp := [oo 47 (.ldn 2 (tt 14)), oo 48 (.mv (tt 15)), oo 49 (.mv (tt 2)), oo 50 (.mv (tt 3)), oo 51 (.mv (tt 4)), oo 52 (.call (ff 51) [tt 47, tt 48, tt 49, tt 50, tt 51]), oo 46 (.mv (tt 52)), oo 53 (.ex 0 (tt 46)), oo 54 (.ex 1 (tt 46)), oo 16 (.mv (tt 53)), oo 17 (.mv (tt 54))]
abbrev c_laws_FnExactFewestFixed_11 : List GOp := [oo 55 (.mv (tt 16)), oo 56 (.mv (tt 12)), oo 57 (.call (ff 31) [tt 55, tt 56]), oo 58 (.un .not (tt 57)), oo 59 (.mv (tt 58)), og 60 59 false (.mv (tt 17)), og 61 59 false (.mv (tt 13)), og 62 59 false (.bin .neq (tt 60) (tt 61)), oo 63 (.pick (tt 59) (cb  true) (tt 62))]
abbrev c_laws_FnExactFewestFixed_12 : List GOp := [oo 10 (.mv (cb  false))]
abbrev c_laws_FnExactFewestFixed_13 : List DOp := [dl 0 (oo 64 (.ldn 2 (tt 14))), dl 1 (oo 65 (.ldn 2 (tt 5))), dh 2 [0] (oo 66 (.call (ff 28) [tt 65])), dh 3 [1] (oo 67 (.call (ff 32) [tt 64, tt 66])), dl 4 (oo 68 (.un .not (tt 67)))]
abbrev c_laws_FnExactFewestFixed_14 : List GOp := [oo 10 (.mv (cb  false))]
abbrev c_laws_FnExactFewestFixed_15 : List GOp := [oo 69 (.mv (tt 15)), oo 70 (.mv (tt 1)), oo 71 (.call (ff 29) [tt 70]), oo 72 (.call (ff 31) [tt 69, tt 71]), oo 73 (.un .not (tt 72))]
abbrev c_laws_FnExactFewestFixed_16 : List GOp := [oo 10 (.mv (cb  false))]
abbrev c_laws_FnExactFewestFixed_17 : List GOp := [oo 18 (.mv (ci 1))]
abbrev c_laws_FnExactFewestFixed_18 : List GOp := [oo 74 (.ldn 2 (tt 14)), oo 75 (.mv (tt 18)), oo 76 (.call (ff 33) [tt 74, tt 75]), oo 18 (.mv (tt 76))]
abbrev c_laws_FnExactFewestFixed_19 : List GOp := [oo 77 (.mv (tt 15)), oo 78 (.mv (tt 18)), oo 79 (.call (ff 34) [tt 77, tt 78]), oo 18 (.mv (tt 79))]
abbrev c_laws_FnExactFewestFixed_20 : List GOp := [oo 80 (.mv (tt 18)), oo 81 (.bin .lss (tt 80) (ci 0)), oo 82 (.mv (tt 81)), og 83 82 false (.mv (tt 16)), og 84 82 false (.mv (tt 12)), og 85 82 false (.call (ff 31) [tt 83, tt 84]), og 86 82 false (.un .not (tt 85)), oo 87 (.pick (tt 82) (cb  true) (tt 86)), oo 88 (.mv (tt 87)), og 89 88 false (.mv (tt 17)), og 90 88 false (.mv (tt 13)), og 91 88 false (.bin .neq (tt 89) (tt 90)), oo 92 (.pick (tt 88) (cb  true) (tt 91))]
abbrev c_laws_FnExactFewestFixed_21 : List GOp := [oo 10 (.mv (cb  false))]
abbrev c_laws_FnExactFewestFixed_22 : List GOp := [oo 19 (.mv (ci 1))]
abbrev c_laws_FnExactFewestFixed_23 : List GOp := [oo 93 (.mv (tt 16)), oo 94 (.mv (tt 19)), oo 95 (.call (ff 34) [tt 93, tt 94]), oo 19 (.mv (tt 95))]
abbrev c_laws_FnExactFewestFixed_24 : List GOp := [oo 20 (.mv (ci 1))]
abbrev c_laws_FnExactFewestFixed_25 : List GOp := [oo 96 (.mv (tt 16)), oo 97 (.mv (tt 20)), oo 98 (.call (ff 35) [tt 96, tt 97]), oo 20 (.mv (tt 98))]
abbrev c_laws_FnExactFewestFixed_26 : List GOp := [oo 99 (.mv (tt 20)), oo 100 (.bin .lss (tt 99) (ci 0))]
abbrev c_laws_FnExactFewestFixed_27 : List GOp := [oo 10 (.mv (cb  false))]
abbrev c_laws_FnExactFewestFixed_28 : List GOp := [oo 101 (.mv (tt 20)), oo 102 (.mv (tt 19)), oo 103 (.bin .neq (tt 101) (tt 102))]
abbrev c_laws_FnExactFewestFixed_29 : List GOp := [oo 10 (.mv (cb  false))]
abbrev c_laws_FnExactFewestFixed_30 : List GOp := [oo 105 (.ldn 2 (tt 5)), oo 106 (.call (ff 28) [tt 105]), oo 107 (.mv (tt 1)), oo 108 (.call (ff 29) [tt 107]), oo 109 (.mv (tt 2)), oo 110 (.mv (tt 3)), oo 111 (.mv (tt 4)), oo 112 (.call (ff 51) [tt 106, tt 108, tt 109, tt 110, tt 111]), oo 104 (.mv (tt 112)), oo 113 (.ex 0 (tt 104)), oo 114 (.ex 1 (tt 104)), oo 21 (.mv (tt 113)), oo 22 (.mv (tt 114))]
abbrev c_laws_FnExactFewestFixed_31 : List GOp := [oo 115 (.mv (tt 21)), oo 116 (.mv (tt 12)), oo 117 (.call (ff 31) [tt 115, tt 116]), oo 118 (.un .not (tt 117)), oo 119 (.mv (tt 118)), og 120 119 false (.mv (tt 22)), og 121 119 false (.mv (tt 13)), og 122 119 false (.bin .neq (tt 120) (tt 121)), oo 123 (.pick (tt 119) (cb  true) (tt 122))]
abbrev c_laws_FnExactFewestFixed_32 : List GOp := [oo 10 (.mv (cb  false))]
abbrev c_laws_FnExactFewestFixed_33 : List GOp := [oo 20 (.mv (ci 1))]
abbrev c_laws_FnExactFewestFixed_34 : List GOp := [oo 124 (.mv (tt 16)), oo 125 (.mv (tt 20)), oo 126 (.call (ff 35) [tt 124, tt 125]), oo 20 (.mv (tt 126))]
abbrev c_laws_FnExactFewestFixed_35 : List GOp := [oo 127 (.mv (tt 20)), oo 128 (.bin .lss (tt 127) (ci 0))]
abbrev c_laws_FnExactFewestFixed_36 : List GOp := [oo 10 (.mv (cb  false))]
abbrev c_laws_FnExactFewestFixed_37 : List GOp := [oo 129 (.mv (tt 20)), oo 130 (.mv (tt 19)), oo 131 (.bin .neq (tt 129) (tt 130))]
abbrev c_laws_FnExactFewestFixed_38 : List GOp := [oo 10 (.mv (cb  false))]
abbrev c_laws_FnExactFewestFixed_39 : List GOp := [oo 10 (.mv (cb  true))]
abbrev c_laws_FnExactFewestFixed : GCode := .seq (.reg c_laws_FnExactFewestFixed_0) (.seq (.seq (.reg c_laws_FnExactFewestFixed_1) (.cond (tt 25) (.seq (.reg c_laws_FnExactFewestFixed_2) (.ret)) (.skip))) (.seq (.reg c_laws_FnExactFewestFixed_3) (.seq (.reg c_laws_FnExactFewestFixed_4) (.seq (.seq (.reg c_laws_FnExactFewestFixed_5) (.cond (tt 30) (.seq (.reg c_laws_FnExactFewestFixed_6) (.ret)) (.skip))) (.seq (.reg c_laws_FnExactFewestFixed_7) (.seq (.reg c_laws_FnExactFewestFixed_8) (.seq (.reg c_laws_FnExactFewestFixed_9) (.seq (.reg c_laws_FnExactFewestFixed_10) (.seq (.seq (.reg c_laws_FnExactFewestFixed_11) (.cond (tt 63) (.seq (.reg c_laws_FnExactFewestFixed_12) (.ret)) (.skip))) (.seq (.seq (.dreg c_laws_FnExactFewestFixed_13) (.cond (tt 68) (.seq (.reg c_laws_FnExactFewestFixed_14) (.ret)) (.skip))) (.seq (.seq (.reg c_laws_FnExactFewestFixed_15) (.cond (tt 73) (.seq (.reg c_laws_FnExactFewestFixed_16) (.ret)) (.skip))) (.seq (.reg c_laws_FnExactFewestFixed_17) (.seq (.reg c_laws_FnExactFewestFixed_18) (.seq (.reg c_laws_FnExactFewestFixed_19) (.seq (.seq (.reg c_laws_FnExactFewestFixed_20) (.cond (tt 92) (.seq (.reg c_laws_FnExactFewestFixed_21) (.ret)) (.skip))) (.seq (.reg c_laws_FnExactFewestFixed_22) (.seq (.reg c_laws_FnExactFewestFixed_23) (.seq (.reg c_laws_FnExactFewestFixed_24) (.seq (.reg c_laws_FnExactFewestFixed_25) (.seq (.seq (.reg c_laws_FnExactFewestFixed_26) (.cond (tt 100) (.seq (.reg c_laws_FnExactFewestFixed_27) (.ret)) (.skip))) (.seq (.seq (.reg c_laws_FnExactFewestFixed_28) (.cond (tt 103) (.seq (.reg c_laws_FnExactFewestFixed_29) (.ret)) (.skip))) (.seq (.reg c_laws_FnExactFewestFixed_30) (.seq (.seq (.reg c_laws_FnExactFewestFixed_31) (.cond (tt 123) (.seq (.reg c_laws_FnExactFewestFixed_32) (.ret)) (.skip))) (.seq (.reg c_laws_FnExactFewestFixed_33) (.seq (.reg c_laws_FnExactFewestFixed_34) (.seq (.seq (.reg c_laws_FnExactFewestFixed_35) (.cond (tt 128) (.seq (.reg c_laws_FnExactFewestFixed_36) (.ret)) (.skip))) (.seq (.seq (.reg c_laws_FnExactFewestFixed_37) (.cond (tt 131) (.seq (.reg c_laws_FnExactFewestFixed_38) (.ret)) (.skip))) (.seq (.reg c_laws_FnExactFewestFixed_39) (.ret)))))))))))))))))))))))))))))
theorem c_laws_FnExactFewestFixed_d : decFn Try.prog Try.f11 = some (132, [.t 10], c_laws_FnExactFewestFixed) := by kernel_rfl
theorem c_laws_FnExactFewestFixed_i {args : List Value} {G : GH} {K : Value → GH → Prop} (hn : args.length ≤ 132) (h : gW Try.prog c_laws_FnExactFewestFixed (RetK [.t 10] K) (T0 args) G) : GC Try.prog 11 args G K := GC_intro mixed Try.func11 c_laws_FnExactFewestFixed_d hn h
abbrev c_laws_eqEdge_0 : List GOp := [oo 2 (.bx (tt 0)), oo 3 (.bx (tt 1)), oo 4 (.mv (cb  false))]
abbrev c_laws_eqEdge_1 : List GOp := [oo 5 (.fa 0 (tt 2)), oo 6 (.ld (tt 5)), oo 7 (.fa 0 (tt 3)), oo 8 (.ld (tt 7)), oo 9 (.bin .neq (tt 6) (tt 8))]
abbrev c_laws_eqEdge_2 : List GOp := [oo 4 (.mv (cb  false))]
abbrev c_laws_eqEdge_3 : List GOp := [oo 10 (.fa 1 (tt 2)), oo 11 (.ld (tt 10)), oo 12 (.fa 1 (tt 3)), oo 13 (.ld (tt 12)), oo 14 (.bin .neq (tt 11) (tt 13))]
abbrev c_laws_eqEdge_4 : List GOp := [oo 4 (.mv (cb  false))]
abbrev c_laws_eqEdge_5 : List GOp := [oo 15 (.fa 2 (tt 2)), oo 16 (.ld (tt 15)), oo 17 (.fa 2 (tt 3)), oo 18 (.ld (tt 17)), oo 19 (.bin .neq (tt 16) (tt 18))]
abbrev c_laws_eqEdge_6 : List GOp := [oo 4 (.mv (cb  false))]
abbrev c_laws_eqEdge_7 : List GOp := [oo 4 (.mv (cb  true))]
abbrev c_laws_eqEdge : GCode := .seq (.reg c_laws_eqEdge_0) (.seq (.seq (.reg c_laws_eqEdge_1) (.cond (tt 9) (.seq (.reg c_laws_eqEdge_2) (.ret)) (.skip))) (.seq (.seq (.reg c_laws_eqEdge_3) (.cond (tt 14) (.seq (.reg c_laws_eqEdge_4) (.ret)) (.skip))) (.seq (.seq (.reg c_laws_eqEdge_5) (.cond (tt 19) (.seq (.reg c_laws_eqEdge_6) (.ret)) (.skip))) (.seq (.reg c_laws_eqEdge_7) (.ret)))))
theorem c_laws_eqEdge_d : decFn Try.prog Try.f203 = some (20, [.t 4], c_laws_eqEdge) := by kernel_rfl
theorem c_laws_eqEdge_i {args : List Value} {G : GH} {K : Value → GH → Prop} (hn : args.length ≤ 20) (h : gW Try.prog c_laws_eqEdge (RetK [.t 4] K) (T0 args) G) : GC Try.prog 203 args G K := GC_intro mixed Try.func203 c_laws_eqEdge_d hn h
abbrev c_laws_eqEdgeS_0 : List GOp := [oo 4 (.mv (cb  false))]
abbrev c_laws_eqEdgeS_1 : List GOp := [oo 6 (.mv (tt 0)), oo 7 (.len (tt 6)), oo 8 (.mv (tt 1)), oo 9 (.len (tt 8)), oo 10 (.bin .neq (tt 7) (tt 9))]
abbrev c_laws_eqEdgeS_2 : List GOp := [oo 4 (.mv (cb  false))]
abbrev c_laws_eqEdgeS_3 : List GOp := [oo 5 (.mv (ci 0))]
abbrev c_laws_eqEdgeS_4 : List GOp := [oo 11 (.mv (tt 5)), oo 12 (.mv (tt 0)), oo 13 (.len (tt 12)), oo 14 (.bin .lss (tt 11) (tt 13))]
abbrev c_laws_eqEdgeS_5 : List DOp := [dl 0 (oo 17 (.mv (tt 0))), dl 1 (oo 18 (.mv (tt 5))), dl 2 (oo 19 (.ia 3 (tt 17) (tt 18))), dl 3 (oo 20 (.ldn 3 (tt 19))), dl 4 (oo 21 (.mv (tt 1))), dl 5 (oo 22 (.mv (tt 5))), dl 6 (oo 23 (.ia 3 (tt 21) (tt 22))), dl 7 (oo 24 (.ldn 3 (tt 23))), dh 8 [] (oo 25 (.call (ff 203) [tt 20, tt 24])), dl 9 (oo 26 (.un .not (tt 25)))]
abbrev c_laws_eqEdgeS_6 : List GOp := [oo 4 (.mv (cb  false))]
abbrev c_laws_eqEdgeS_7 : List GOp := [oo 15 (.mv (tt 5)), oo 16 (.bin .add (tt 15) (ci 1)), oo 5 (.mv (tt 16))]
abbrev c_laws_eqEdgeS_l0 : GCode := .seq (.seq (.reg c_laws_eqEdgeS_4) (.cond (tt 14) (.skip) (.exit 0))) (.seq (.blk 1 (.seq (.dreg c_laws_eqEdgeS_5) (.cond (tt 26) (.seq (.reg c_laws_eqEdgeS_6) (.ret)) (.skip)))) (.reg c_laws_eqEdgeS_7))
abbrev c_laws_eqEdgeS_9 : List GOp := [oo 4 (.mv (cb  true))]
abbrev c_laws_eqEdgeS : GCode := .seq (.reg c_laws_eqEdgeS_0) (.seq (.seq (.reg c_laws_eqEdgeS_1) (.cond (tt 10) (.seq (.reg c_laws_eqEdgeS_2) (.ret)) (.skip))) (.seq (.seq (.reg c_laws_eqEdgeS_3) (.blk 0 (.loop c_laws_eqEdgeS_l0))) (.seq (.reg c_laws_eqEdgeS_9) (.ret))))
theorem c_laws_eqEdgeS_d : decFn Try.prog Try.f105 = some (27, [.t 4], c_laws_eqEdgeS) := by kernel_rfl
theorem c_laws_eqEdgeS_i {args : List Value} {G : GH} {K : Value → GH → Prop} (hn : args.length ≤ 27) (h : gW Try.prog c_laws_eqEdgeS (RetK [.t 4] K) (T0 args) G) : GC Try.prog 105 args G K := GC_intro mixed Try.func105 c_laws_eqEdgeS_d hn h
abbrev c_laws_eqGraph_0 : List GOp := [oo 2 (.bx (tt 0)), oo 3 (.bx (tt 1)), oo 4 (.mv (cb  false))]
abbrev c_laws_eqGraph_1 : List GOp := [oo 5 (.fa 0 (tt 2)), oo 6 (.ld (tt 5)), oo 7 (.fa 0 (tt 3)), oo 8 (.ld (tt 7)), oo 9 (.bin .neq (tt 6) (tt 8))]
abbrev c_laws_eqGraph_2 : List GOp := [oo 4 (.mv (cb  false))]
abbrev c_laws_eqGraph_3 : List GOp := [oo 10 (.fa 1 (tt 2)), oo 11 (.ld (tt 10)), oo 12 (.fa 1 (tt 3)), oo 13 (.ld (tt 12)), oo 14 (.call (ff 105) [tt 11, tt 13]), oo 15 (.un .not (tt 14))]
abbrev c_laws_eqGraph_4 : List GOp := [oo 4 (.mv (cb  false))]
abbrev c_laws_eqGraph_5 : List GOp := [oo 4 (.mv (cb  true))]
abbrev c_laws_eqGraph : GCode := .seq (.reg c_laws_eqGraph_0) (.seq (.seq (.reg c_laws_eqGraph_1) (.cond (tt 9) (.seq (.reg c_laws_eqGraph_2) (.ret)) (.skip))) (.seq (.seq (.reg c_laws_eqGraph_3) (.cond (tt 15) (.seq (.reg c_laws_eqGraph_4) (.ret)) (.skip))) (.seq (.reg c_laws_eqGraph_5) (.ret))))
theorem c_laws_eqGraph_d : decFn Try.prog Try.f32 = some (16, [.t 4], c_laws_eqGraph) := by kernel_rfl
theorem c_laws_eqGraph_i {args : List Value} {G : GH} {K : Value → GH → Prop} (hn : args.length ≤ 16) (h : gW Try.prog c_laws_eqGraph (RetK [.t 4] K) (T0 args) G) : GC Try.prog 32 args G K := GC_intro mixed Try.func32 c_laws_eqGraph_d hn h
abbrev c_laws_eqInt64S_0 : List GOp := [oo 4 (.mv (cb  false))]
abbrev c_laws_eqInt64S_1 : List GOp := [oo 6 (.mv (tt 0)), oo 7 (.len (tt 6)), oo 8 (.mv (tt 1)), oo 9 (.len (tt 8)), oo 10 (.bin .neq (tt 7) (tt 9))]
abbrev c_laws_eqInt64S_2 : List GOp := [oo 4 (.mv (cb  false))]
abbrev c_laws_eqInt64S_3 : List GOp := [oo 5 (.mv (ci 0))]
abbrev c_laws_eqInt64S_4 : List GOp := [oo 11 (.mv (tt 5)), oo 12 (.mv (tt 0)), oo 13 (.len (tt 12)), oo 14 (.bin .lss (tt 11) (tt 13))]
abbrev c_laws_eqInt64S_5 : List DOp := [dl 0 (oo 17 (.mv (tt 0))), dl 1 (oo 18 (.mv (tt 5))), dl 2 (oo 19 (.ia 1 (tt 17) (tt 18))), dl 3 (oo 20 (.ld (tt 19))), dl 4 (oo 21 (.mv (tt 1))), dl 5 (oo 22 (.mv (tt 5))), dl 6 (oo 23 (.ia 1 (tt 21) (tt 22))), dl 7 (oo 24 (.ld (tt 23))), dl 8 (oo 25 (.bin .neq (tt 20) (tt 24)))]
abbrev c_laws_eqInt64S_6 : List GOp := [oo 4 (.mv (cb  false))]
abbrev c_laws_eqInt64S_7 : List GOp := [oo 15 (.mv (tt 5)), oo 16 (.bin .add (tt 15) (ci 1)), oo 5 (.mv (tt 16))]
abbrev c_laws_eqInt64S_l0 : GCode := .seq (.seq (.reg c_laws_eqInt64S_4) (.cond (tt 14) (.skip) (.exit 0))) (.seq (.blk 1 (.seq (.dreg c_laws_eqInt64S_5) (.cond (tt 25) (.seq (.reg c_laws_eqInt64S_6) (.ret)) (.skip)))) (.reg c_laws_eqInt64S_7))
abbrev c_laws_eqInt64S_9 : List GOp := [oo 4 (.mv (cb  true))]
abbrev c_laws_eqInt64S : GCode := .seq (.reg c_laws_eqInt64S_0) (.seq (.seq (.reg c_laws_eqInt64S_1) (.cond (tt 10) (.seq (.reg c_laws_eqInt64S_2) (.ret)) (.skip))) (.seq (.seq (.reg c_laws_eqInt64S_3) (.blk 0 (.loop c_laws_eqInt64S_l0))) (.seq (.reg c_laws_eqInt64S_9) (.ret))))
theorem c_laws_eqInt64S_d : decFn Try.prog Try.f31 = some (26, [.t 4], c_laws_eqInt64S) := by kernel_rfl
theorem c_laws_eqInt64S_i {args : List Value} {G : GH} {K : Value → GH → Prop} (hn : args.length ≤ 26) (h : gW Try.prog c_laws_eqInt64S (RetK [.t 4] K) (T0 args) G) : GC Try.prog 31 args G K := GC_intro mixed Try.func31 c_laws_eqInt64S_d hn h
abbrev c_laws_heldInt64S_0 : List GOp := [oo 4 (.mv (ci 0))]
abbrev c_laws_heldInt64S_1 : List GOp := [oo 5 (.mv (ci 0))]
abbrev c_laws_heldInt64S_2 : List GOp := [oo 6 (.mv (tt 5)), oo 7 (.mv (tt 0)), oo 8 (.len (tt 7)), oo 9 (.bin .lss (tt 6) (tt 8))]
abbrev c_laws_heldInt64S_3 : List GOp := [oo 12 (.mv (tt 0)), oo 13 (.mv (tt 5)), oo 14 (.ia 1 (tt 12) (tt 13)), oo 15 (.ld (tt 14)), oo 16 (.mv (tt 1)), oo 17 (.bin .neq (tt 15) (tt 16))]
abbrev c_laws_heldInt64S_4 : List GOp := [oo 4 (.mv (ci (-1)))]
abbrev c_laws_heldInt64S_5 : List GOp := [oo 18 (.mv (tt 1)), oo 19 (.bin .add (tt 18) (ci 1)), oo 1 (.mv (tt 19))]
abbrev c_laws_heldInt64S_6 : List GOp := [oo 10 (.mv (tt 5)), oo 11 (.bin .add (tt 10) (ci 1)), oo 5 (.mv (tt 11))]
abbrev c_laws_heldInt64S_l0 : GCode := .seq (.seq (.reg c_laws_heldInt64S_2) (.cond (tt 9) (.skip) (.exit 0))) (.seq (.blk 1 (.seq (.seq (.reg c_laws_heldInt64S_3) (.cond (tt 17) (.seq (.reg c_laws_heldInt64S_4) (.ret)) (.skip))) (.reg c_laws_heldInt64S_5))) (.reg c_laws_heldInt64S_6))
abbrev c_laws_heldInt64S_8 : List GOp := [oo 20 (.mv (tt 1)), oo 4 (.mv (tt 20))]
abbrev c_laws_heldInt64S : GCode := .seq (.reg c_laws_heldInt64S_0) (.seq (.seq (.reg c_laws_heldInt64S_1) (.blk 0 (.loop c_laws_heldInt64S_l0))) (.seq (.reg c_laws_heldInt64S_8) (.ret)))
theorem c_laws_heldInt64S_d : decFn Try.prog Try.f35 = some (21, [.t 4], c_laws_heldInt64S) := by kernel_rfl
theorem c_laws_heldInt64S_i {args : List Value} {G : GH} {K : Value → GH → Prop} (hn : args.length ≤ 21) (h : gW Try.prog c_laws_heldInt64S (RetK [.t 4] K) (T0 args) G) : GC Try.prog 35 args G K := GC_intro mixed Try.func35 c_laws_heldInt64S_d hn h
abbrev c_laws_markEdgeS_0 : List GOp := [oo 4 (.mv (ci 0))]
abbrev c_laws_markEdgeS_1 : List GOp := [oo 5 (.mv (ci 0))]
abbrev c_laws_markEdgeS_2 : List GOp := [oo 6 (.mv (tt 5)), oo 7 (.mv (tt 0)), oo 8 (.len (tt 7)), oo 9 (.bin .lss (tt 6) (tt 8))]
abbrev c_laws_markEdgeS_3 : List GOp := [oo 12 (.mv (tt 0)), oo 13 (.mv (tt 5)), oo 14 (.mv (tt 1)), oo 15 (.ia 3 (tt 12) (tt 13)), oo 16 (.fa 0 (tt 15)), on (.st 1 (tt 16) (tt 14))]
abbrev c_laws_markEdgeS_4 : List GOp := [oo 17 (.mv (tt 1)), oo 18 (.bin .add (tt 17) (ci 1)), oo 1 (.mv (tt 18))]
abbrev c_laws_markEdgeS_5 : List GOp := [oo 19 (.mv (tt 0)), oo 20 (.mv (tt 5)), oo 21 (.mv (tt 1)), oo 22 (.ia 3 (tt 19) (tt 20)), oo 23 (.fa 1 (tt 22)), on (.st 1 (tt 23) (tt 21))]
abbrev c_laws_markEdgeS_6 : List GOp := [oo 24 (.mv (tt 1)), oo 25 (.bin .add (tt 24) (ci 1)), oo 1 (.mv (tt 25))]
abbrev c_laws_markEdgeS_7 : List GOp := [oo 26 (.mv (tt 0)), oo 27 (.mv (tt 5)), oo 28 (.mv (tt 1)), oo 29 (.ia 3 (tt 26) (tt 27)), oo 30 (.fa 2 (tt 29)), on (.st 1 (tt 30) (tt 28))]
abbrev c_laws_markEdgeS_8 : List GOp := [oo 31 (.mv (tt 1)), oo 32 (.bin .add (tt 31) (ci 1)), oo 1 (.mv (tt 32))]
abbrev c_laws_markEdgeS_9 : List GOp := [oo 10 (.mv (tt 5)), oo 11 (.bin .add (tt 10) (ci 1)), oo 5 (.mv (tt 11))]
abbrev c_laws_markEdgeS_l0 : GCode := .seq (.seq (.reg c_laws_markEdgeS_2) (.cond (tt 9) (.skip) (.exit 0))) (.seq (.blk 1 (.seq (.reg c_laws_markEdgeS_3) (.seq (.reg c_laws_markEdgeS_4) (.seq (.reg c_laws_markEdgeS_5) (.seq (.reg c_laws_markEdgeS_6) (.seq (.reg c_laws_markEdgeS_7) (.reg c_laws_markEdgeS_8))))))) (.reg c_laws_markEdgeS_9))
abbrev c_laws_markEdgeS_11 : List GOp := [oo 33 (.mv (tt 1)), oo 4 (.mv (tt 33))]
abbrev c_laws_markEdgeS : GCode := .seq (.reg c_laws_markEdgeS_0) (.seq (.seq (.reg c_laws_markEdgeS_1) (.blk 0 (.loop c_laws_markEdgeS_l0))) (.seq (.reg c_laws_markEdgeS_11) (.ret)))
theorem c_laws_markEdgeS_d : decFn Try.prog Try.f106 = some (34, [.t 4], c_laws_markEdgeS) := by kernel_rfl
theorem c_laws_markEdgeS_i {args : List Value} {G : GH} {K : Value → GH → Prop} (hn : args.length ≤ 34) (h : gW Try.prog c_laws_markEdgeS (RetK [.t 4] K) (T0 args) G) : GC Try.prog 106 args G K := GC_intro mixed Try.func106 c_laws_markEdgeS_d hn h
abbrev c_laws_markGraph_0 : List GOp := [oo 2 (.bx (tt 0)), oo 4 (.mv (ci 0))]
abbrev c_laws_markGraph_1 : List GOp := [oo 5 (.fa 1 (tt 2)), oo 6 (.ld (tt 5)), oo 7 (.mv (tt 1)), oo 8 (.call (ff 106) [tt 6, tt 7]), oo 1 (.mv (tt 8))]
abbrev c_laws_markGraph_2 : List GOp := [oo 9 (.mv (tt 1)), oo 4 (.mv (tt 9))]
abbrev c_laws_markGraph : GCode := .seq (.reg c_laws_markGraph_0) (.seq (.reg c_laws_markGraph_1) (.seq (.reg c_laws_markGraph_2) (.ret)))
theorem c_laws_markGraph_d : decFn Try.prog Try.f33 = some (10, [.t 4], c_laws_markGraph) := by kernel_rfl
theorem c_laws_markGraph_i {args : List Value} {G : GH} {K : Value → GH → Prop} (hn : args.length ≤ 10) (h : gW Try.prog c_laws_markGraph (RetK [.t 4] K) (T0 args) G) : GC Try.prog 33 args G K := GC_intro mixed Try.func33 c_laws_markGraph_d hn h
abbrev c_laws_markInt64S_0 : List GOp := [oo 4 (.mv (ci 0))]
abbrev c_laws_markInt64S_1 : List GOp := [oo 5 (.mv (ci 0))]
abbrev c_laws_markInt64S_2 : List GOp := [oo 6 (.mv (tt 5)), oo 7 (.mv (tt 0)), oo 8 (.len (tt 7)), oo 9 (.bin .lss (tt 6) (tt 8))]
abbrev c_laws_markInt64S_3 : List GOp := [oo 12 (.mv (tt 0)), oo 13 (.mv (tt 5)), oo 14 (.mv (tt 1)), oo 15 (.ia 1 (tt 12) (tt 13)), on (.st 1 (tt 15) (tt 14))]
abbrev c_laws_markInt64S_4 : List GOp := [oo 16 (.mv (tt 1)), oo 17 (.bin .add (tt 16) (ci 1)), oo 1 (.mv (tt 17))]
abbrev c_laws_markInt64S_5 : List GOp := [oo 10 (.mv (tt 5)), oo 11 (.bin .add (tt 10) (ci 1)), oo 5 (.mv (tt 11))]
abbrev c_laws_markInt64S_l0 : GCode := .seq (.seq (.reg c_laws_markInt64S_2) (.cond (tt 9) (.skip) (.exit 0))) (.seq (.blk 1 (.seq (.reg c_laws_markInt64S_3) (.reg c_laws_markInt64S_4))) (.reg c_laws_markInt64S_5))
abbrev c_laws_markInt64S_7 : List GOp := [oo 18 (.mv (tt 1)), oo 4 (.mv (tt 18))]
abbrev c_laws_markInt64S : GCode := .seq (.reg c_laws_markInt64S_0) (.seq (.seq (.reg c_laws_markInt64S_1) (.blk 0 (.loop c_laws_markInt64S_l0))) (.seq (.reg c_laws_markInt64S_7) (.ret)))
theorem c_laws_markInt64S_d : decFn Try.prog Try.f34 = some (19, [.t 4], c_laws_markInt64S) := by kernel_rfl
theorem c_laws_markInt64S_i {args : List Value} {G : GH} {K : Value → GH → Prop} (hn : args.length ≤ 19) (h : gW Try.prog c_laws_markInt64S (RetK [.t 4] K) (T0 args) G) : GC Try.prog 34 args G K := GC_intro mixed Try.func34 c_laws_markInt64S_d hn h
abbrev c_laws_szEdgeS_0 : List GOp := [oo 4 (.mv (ci 0))]
abbrev c_laws_szEdgeS_1 : List GOp := [oo 5 (.mv (tt 1)), oo 6 (.mv (tt 0)), oo 7 (.len (tt 6)), oo 8 (.bin .sub (tt 5) (tt 7)), oo 1 (.mv (tt 8))]
abbrev c_laws_szEdgeS_2 : List GOp := [oo 9 (.mv (tt 1)), oo 10 (.bin .lss (tt 9) (ci 0))]
abbrev c_laws_szEdgeS_3 : List GOp := [oo 4 (.mv (ci (-1)))]
abbrev c_laws_szEdgeS_4 : List GOp := [oo 11 (.mv (tt 1)), oo 4 (.mv (tt 11))]
abbrev c_laws_szEdgeS : GCode := .seq (.reg c_laws_szEdgeS_0) (.seq (.reg c_laws_szEdgeS_1) (.seq (.seq (.reg c_laws_szEdgeS_2) (.cond (tt 10) (.seq (.reg c_laws_szEdgeS_3) (.ret)) (.skip))) (.seq (.reg c_laws_szEdgeS_4) (.ret))))
theorem c_laws_szEdgeS_d : decFn Try.prog Try.f99 = some (12, [.t 4], c_laws_szEdgeS) := by kernel_rfl
theorem c_laws_szEdgeS_i {args : List Value} {G : GH} {K : Value → GH → Prop} (hn : args.length ≤ 12) (h : gW Try.prog c_laws_szEdgeS (RetK [.t 4] K) (T0 args) G) : GC Try.prog 99 args G K := GC_intro mixed Try.func99 c_laws_szEdgeS_d hn h
abbrev c_laws_szGraph_0 : List GOp := [oo 2 (.bx (tt 0)), oo 4 (.mv (ci 0))]
abbrev c_laws_szGraph_1 : List GOp := [oo 5 (.fa 1 (tt 2)), oo 6 (.ld (tt 5)), oo 7 (.mv (tt 1)), oo 8 (.call (ff 99) [tt 6, tt 7]), oo 1 (.mv (tt 8))]
abbrev c_laws_szGraph_2 : List GOp := [oo 9 (.mv (tt 1)), oo 10 (.bin .lss (tt 9) (ci 0))]
abbrev c_laws_szGraph_3 : List GOp := [oo 4 (.mv (ci (-1)))]
abbrev c_laws_szGraph_4 : List GOp := [oo 11 (.mv (tt 1)), oo 4 (.mv (tt 11))]
abbrev c_laws_szGraph : GCode := .seq (.reg c_laws_szGraph_0) (.seq (.reg c_laws_szGraph_1) (.seq (.seq (.reg c_laws_szGraph_2) (.cond (tt 10) (.seq (.reg c_laws_szGraph_3) (.ret)) (.skip))) (.seq (.reg c_laws_szGraph_4) (.ret))))
theorem c_laws_szGraph_d : decFn Try.prog Try.f26 = some (12, [.t 4], c_laws_szGraph) := by kernel_rfl
theorem c_laws_szGraph_i {args : List Value} {G : GH} {K : Value → GH → Prop} (hn : args.length ≤ 12) (h : gW Try.prog c_laws_szGraph (RetK [.t 4] K) (T0 args) G) : GC Try.prog 26 args G K := GC_intro mixed Try.func26 c_laws_szGraph_d hn h
abbrev c_laws_toEdge_0 : List GOp := [oo 1 (.bx (tt 0)), oo 2 (.al [.int .i64 0, .int .i64 0, .int .i64 0])]
abbrev c_laws_toEdge_1 : List GOp := [oo 3 (.al [.int .i64 0, .int .i64 0, .int .i64 0])]
abbrev c_laws_toEdge_2 : List GOp := [oo 4 (.fa 0 (tt 1)), oo 5 (.ld (tt 4)), oo 6 (.fa 0 (tt 3)), on (.st 1 (tt 6) (tt 5))]
abbrev c_laws_toEdge_3 : List GOp := [oo 7 (.fa 1 (tt 1)), oo 8 (.ld (tt 7)), oo 9 (.fa 1 (tt 3)), on (.st 1 (tt 9) (tt 8))]
abbrev c_laws_toEdge_4 : List GOp := [oo 10 (.fa 2 (tt 1)), oo 11 (.ld (tt 10)), oo 12 (.fa 2 (tt 3)), on (.st 1 (tt 12) (tt 11))]
abbrev c_laws_toEdge_5 : List GOp := [oo 13 (.ldn 3 (tt 3)), on (.st 3 (tt 2) (tt 13))]
abbrev c_laws_toEdge : GCode := .seq (.reg c_laws_toEdge_0) (.seq (.reg c_laws_toEdge_1) (.seq (.reg c_laws_toEdge_2) (.seq (.reg c_laws_toEdge_3) (.seq (.reg c_laws_toEdge_4) (.seq (.reg c_laws_toEdge_5) (.ret))))))
theorem c_laws_toEdge_d : decFn Try.prog Try.f200 = some (14, [.cn 2 3], c_laws_toEdge) := by kernel_rfl
theorem c_laws_toEdge_i {args : List Value} {G : GH} {K : Value → GH → Prop} (hn : args.length ≤ 14) (h : gW Try.prog c_laws_toEdge (RetK [.cn 2 3] K) (T0 args) G) : GC Try.prog 200 args G K := GC_intro mixed Try.func200 c_laws_toEdge_d hn h
abbrev c_laws_toEdgeS_0 : List GOp := [oo 2 (.mv (.const (.slice none 0 0)))]
abbrev c_laws_toEdgeS_1 : List GOp := [oo 5 (.mv (tt 0)), oo 6 (.len (tt 5)), oo 7 (.mk 3 24 [.int .i64 0, .int .i64 0, .int .i64 0] (tt 6) (tt 6)), oo 3 (.mv (tt 7))]
abbrev c_laws_toEdgeS_2 : List GOp := [oo 4 (.mv (ci 0))]
abbrev c_laws_toEdgeS_3 : List GOp := [oo 8 (.mv (tt 4)), oo 9 (.mv (tt 0)), oo 10 (.len (tt 9)), oo 11 (.bin .lss (tt 8) (tt 10))]
abbrev c_laws_toEdgeS_4 : List GOp := [oo 14 (.mv (tt 3)), oo 15 (.mv (tt 4)), oo 16 (.mv (tt 0)), oo 17 (.mv (tt 4)), oo 18 (.ia 3 (tt 16) (tt 17)), oo 19 (.ldn 3 (tt 18)), oo 20 (.call (ff 200) [tt 19]), oo 21 (.ia 3 (tt 14) (tt 15)), on (.st 3 (tt 21) (tt 20))]
abbrev c_laws_toEdgeS_5 : List GOp := [oo 12 (.mv (tt 4)), oo 13 (.bin .add (tt 12) (ci 1)), oo 4 (.mv (tt 13))]
abbrev c_laws_toEdgeS_l0 : GCode := .seq (.seq (.reg c_laws_toEdgeS_3) (.cond (tt 11) (.skip) (.exit 0))) (.seq (.blk 1 (.reg c_laws_toEdgeS_4)) (.reg c_laws_toEdgeS_5))
abbrev c_laws_toEdgeS_7 : List GOp := [oo 22 (.mv (tt 3)), oo 2 (.mv (tt 22))]
abbrev c_laws_toEdgeS : GCode := .seq (.reg c_laws_toEdgeS_0) (.seq (.reg c_laws_toEdgeS_1) (.seq (.seq (.reg c_laws_toEdgeS_2) (.blk 0 (.loop c_laws_toEdgeS_l0))) (.seq (.reg c_laws_toEdgeS_7) (.ret))))
theorem c_laws_toEdgeS_d : decFn Try.prog Try.f101 = some (23, [.t 2], c_laws_toEdgeS) := by kernel_rfl
theorem c_laws_toEdgeS_i {args : List Value} {G : GH} {K : Value → GH → Prop} (hn : args.length ≤ 23) (h : gW Try.prog c_laws_toEdgeS (RetK [.t 2] K) (T0 args) G) : GC Try.prog 101 args G K := GC_intro mixed Try.func101 c_laws_toEdgeS_d hn h
abbrev c_laws_toGraph_0 : List GOp := [oo 1 (.bx (tt 0)), oo 2 (.al [.int .i64 0, .slice none 0 0])]
abbrev c_laws_toGraph_1 : List GOp := [oo 3 (.al [.int .i64 0, .slice none 0 0])]
abbrev c_laws_toGraph_2 : List GOp := [oo 4 (.fa 0 (tt 1)), oo 5 (.ld (tt 4)), oo 6 (.fa 0 (tt 3)), on (.st 1 (tt 6) (tt 5))]
abbrev c_laws_toGraph_3 : List GOp := [oo 7 (.fa 1 (tt 1)), oo 8 (.ld (tt 7)), oo 9 (.call (ff 101) [tt 8]), oo 10 (.fa 1 (tt 3)), on (.st 1 (tt 10) (tt 9))]
abbrev c_laws_toGraph_4 : List GOp := [oo 11 (.ldn 2 (tt 3)), on (.st 2 (tt 2) (tt 11))]
abbrev c_laws_toGraph : GCode := .seq (.reg c_laws_toGraph_0) (.seq (.reg c_laws_toGraph_1) (.seq (.reg c_laws_toGraph_2) (.seq (.reg c_laws_toGraph_3) (.seq (.reg c_laws_toGraph_4) (.ret)))))
theorem c_laws_toGraph_d : decFn Try.prog Try.f28 = some (12, [.cn 2 2], c_laws_toGraph) := by kernel_rfl
theorem c_laws_toGraph_i {args : List Value} {G : GH} {K : Value → GH → Prop} (hn : args.length ≤ 12) (h : gW Try.prog c_laws_toGraph (RetK [.cn 2 2] K) (T0 args) G) : GC Try.prog 28 args G K := GC_intro mixed Try.func28 c_laws_toGraph_d hn h
abbrev c_laws_toInt64S_0 : List GOp := [oo 2 (.mv (.const (.slice none 0 0)))]
abbrev c_laws_toInt64S_1 : List GOp := [oo 5 (.mv (tt 0)), oo 6 (.len (tt 5)), oo 7 (.mk 1 8 [.int .i64 0] (tt 6) (tt 6)), oo 3 (.mv (tt 7))]
abbrev c_laws_toInt64S_2 : List GOp := [oo 4 (.mv (ci 0))]
abbrev c_laws_toInt64S_3 : List GOp := [oo 8 (.mv (tt 4)), oo 9 (.mv (tt 0)), oo 10 (.len (tt 9)), oo 11 (.bin .lss (tt 8) (tt 10))]
abbrev c_laws_toInt64S_4 : List GOp := [oo 14 (.mv (tt 3)), oo 15 (.mv (tt 4)), oo 16 (.mv (tt 0)), oo 17 (.mv (tt 4)), oo 18 (.ia 1 (tt 16) (tt 17)), oo 19 (.ld (tt 18)), oo 20 (.ia 1 (tt 14) (tt 15)), on (.st 1 (tt 20) (tt 19))]
abbrev c_laws_toInt64S_5 : List GOp := [oo 12 (.mv (tt 4)), oo 13 (.bin .add (tt 12) (ci 1)), oo 4 (.mv (tt 13))]
abbrev c_laws_toInt64S_l0 : GCode := .seq (.seq (.reg c_laws_toInt64S_3) (.cond (tt 11) (.skip) (.exit 0))) (.seq (.blk 1 (.reg c_laws_toInt64S_4)) (.reg c_laws_toInt64S_5))
abbrev c_laws_toInt64S_7 : List GOp := [oo 21 (.mv (tt 3)), oo 2 (.mv (tt 21))]
abbrev c_laws_toInt64S : GCode := .seq (.reg c_laws_toInt64S_0) (.seq (.reg c_laws_toInt64S_1) (.seq (.seq (.reg c_laws_toInt64S_2) (.blk 0 (.loop c_laws_toInt64S_l0))) (.seq (.reg c_laws_toInt64S_7) (.ret))))
theorem c_laws_toInt64S_d : decFn Try.prog Try.f29 = some (22, [.t 2], c_laws_toInt64S) := by kernel_rfl
theorem c_laws_toInt64S_i {args : List Value} {G : GH} {K : Value → GH → Prop} (hn : args.length ≤ 22) (h : gW Try.prog c_laws_toInt64S (RetK [.t 2] K) (T0 args) G) : GC Try.prog 29 args G K := GC_intro mixed Try.func29 c_laws_toInt64S_d hn h
abbrev c_slices_Clone_int64_int64_0 : List GOp := [oo 2 (.mv (.const (.slice none 0 0)))]
abbrev c_slices_Clone_int64_int64_1 : List GOp := [oo 3 (.mv (tt 0)), oo 4 (.eqs false (tt 3) (.const (.slice none 0 0)))]
abbrev c_slices_Clone_int64_int64_2 : List GOp := [oo 2 (.mv (.const (.slice none 0 0)))]
abbrev c_slices_Clone_int64_int64_3 : List GOp := [oo 5 (.bs 1 []), oo 6 (.mv (tt 0)), oo 7 (.ap 1 8 [.int .i64 0] (tt 5) (tt 6)), oo 2 (.mv (tt 7))]
abbrev c_slices_Clone_int64_int64 : GCode := .seq (.reg c_slices_Clone_int64_int64_0) (.seq (.seq (.reg c_slices_Clone_int64_int64_1) (.cond (tt 4) (.seq (.reg c_slices_Clone_int64_int64_2) (.ret)) (.skip))) (.seq (.reg c_slices_Clone_int64_int64_3) (.ret)))
theorem c_slices_Clone_int64_int64_d : decFn Try.prog Try.f123 = some (8, [.t 2], c_slices_Clone_int64_int64) := by kernel_rfl
theorem c_slices_Clone_int64_int64_i {args : List Value} {G : GH} {K : Value → GH → Prop} (hn : args.length ≤ 8) (h : gW Try.prog c_slices_Clone_int64_int64 (RetK [.t 2] K) (T0 args) G) : GC Try.prog 123 args G K := GC_intro mixed Try.func123 c_slices_Clone_int64_int64_d hn h
abbrev c_slices_ContainsFunc_int64_int64_0 : List GOp := [oo 4 (.mv (cb  false))]
abbrev c_slices_ContainsFunc_int64_int64_1 : List GOp := [oo 5 (.mv (tt 0)), oo 6 (.mv (tt 1)), oo 7 (.call (ff 222) [tt 5, tt 6]), oo 8 (.bin .geq (tt 7) (ci 0)), oo 4 (.mv (tt 8))]
abbrev c_slices_ContainsFunc_int64_int64 : GCode := .seq (.reg c_slices_ContainsFunc_int64_int64_0) (.seq (.reg c_slices_ContainsFunc_int64_int64_1) (.ret))
theorem c_slices_ContainsFunc_int64_int64_d : decFn Try.prog Try.f152 = some (9, [.t 4], c_slices_ContainsFunc_int64_int64) := by kernel_rfl
theorem c_slices_ContainsFunc_int64_int64_i {args : List Value} {G : GH} {K : Value → GH → Prop} (hn : args.length ≤ 9) (h : gW Try.prog c_slices_ContainsFunc_int64_int64 (RetK [.t 4] K) (T0 args) G) : GC Try.prog 152 args G K := GC_intro mixed Try.func152 c_slices_ContainsFunc_int64_int64_d hn h
abbrev c_slices_Contains_int64_int64_0 : List GOp := [oo 4 (.mv (cb  false))]
abbrev c_slices_Contains_int64_int64_1 : List GOp := [oo 5 (.mv (tt 0)), oo 6 (.mv (tt 1)), oo 7 (.call (ff 166) [tt 5, tt 6]), oo 8 (.bin .geq (tt 7) (ci 0)), oo 4 (.mv (tt 8))]
abbrev c_slices_Contains_int64_int64 : GCode := .seq (.reg c_slices_Contains_int64_int64_0) (.seq (.reg c_slices_Contains_int64_int64_1) (.ret))
theorem c_slices_Contains_int64_int64_d : decFn Try.prog Try.f137 = some (9, [.t 4], c_slices_Contains_int64_int64) := by kernel_rfl
theorem c_slices_Contains_int64_int64_i {args : List Value} {G : GH} {K : Value → GH → Prop} (hn : args.length ≤ 9) (h : gW Try.prog c_slices_Contains_int64_int64 (RetK [.t 4] K) (T0 args) G) : GC Try.prog 137 args G K := GC_intro mixed Try.func137 c_slices_Contains_int64_int64_d hn h
abbrev c_slices_Equal_int64_int64_0 : List GOp := [oo 4 (.mv (cb  false))]
abbrev c_slices_Equal_int64_int64_1 : List GOp := [oo 6 (.mv (tt 0)), oo 7 (.len (tt 6)), oo 8 (.mv (tt 1)), oo 9 (.len (tt 8)), oo 10 (.bin .neq (tt 7) (tt 9))]
abbrev c_slices_Equal_int64_int64_2 : List GOp := [oo 4 (.mv (cb  false))]
abbrev c_slices_Equal_int64_int64_3 : List GOp := [oo 11 (.mv (tt 0)), oo 12 (.len (tt 11)), oo 13 (.mv (ci 0))]
abbrev c_slices_Equal_int64_int64_4 : List GOp := [oo 14 (.bin .lss (tt 13) (tt 12))]
abbrev c_slices_Equal_int64_int64_5 : List GOp := [oo 15 (.mv (tt 13)), oo 5 (.mv (tt 15))]
abbrev c_slices_Equal_int64_int64_6 : List DOp := [dl 0 (oo 16 (.mv (tt 0))), dl 1 (oo 17 (.mv (tt 5))), dl 2 (oo 18 (.ia 1 (tt 16) (tt 17))), dl 3 (oo 19 (.ld (tt 18))), dl 4 (oo 20 (.mv (tt 1))), dl 5 (oo 21 (.mv (tt 5))), dl 6 (oo 22 (.ia 1 (tt 20) (tt 21))), dl 7 (oo 23 (.ld (tt 22))), dl 8 (oo 24 (.bin .neq (tt 19) (tt 23)))]
abbrev c_slices_Equal_int64_int64_7 : List GOp := [oo 4 (.mv (cb  false))]
abbrev c_slices_Equal_int64_int64_8 : List GOp := [oo 25 (.bin .add (tt 13) (ci 1)), oo 13 (.mv (tt 25))]
abbrev c_slices_Equal_int64_int64_l0 : GCode := .seq (.reg c_slices_Equal_int64_int64_4) (.seq (.cond (tt 14) (.skip) (.exit 0)) (.seq (.blk 1 (.seq (.reg c_slices_Equal_int64_int64_5) (.seq (.dreg c_slices_Equal_int64_int64_6) (.cond (tt 24) (.seq (.reg c_slices_Equal_int64_int64_7) (.ret)) (.skip))))) (.reg c_slices_Equal_int64_int64_8)))
abbrev c_slices_Equal_int64_int64_10 : List GOp := [oo 4 (.mv (cb  true))]
abbrev c_slices_Equal_int64_int64 : GCode := .seq (.reg c_slices_Equal_int64_int64_0) (.seq (.seq (.reg c_slices_Equal_int64_int64_1) (.cond (tt 10) (.seq (.reg c_slices_Equal_int64_int64_2) (.ret)) (.skip))) (.seq (.seq (.reg c_slices_Equal_int64_int64_3) (.blk 0 (.loop c_slices_Equal_int64_int64_l0))) (.seq (.reg c_slices_Equal_int64_int64_10) (.ret))))
theorem c_slices_Equal_int64_int64_d : decFn Try.prog Try.f205 = some (26, [.t 4], c_slices_Equal_int64_int64) := by kernel_rfl
theorem c_slices_Equal_int64_int64_i {args : List Value} {G : GH} {K : Value → GH → Prop} (hn : args.length ≤ 26) (h : gW Try.prog c_slices_Equal_int64_int64 (RetK [.t 4] K) (T0 args) G) : GC Try.prog 205 args G K := GC_intro mixed Try.func205 c_slices_Equal_int64_int64_d hn h
abbrev c_slices_IndexFunc_int64_int64_0 : List GOp := [oo 4 (.mv (ci 0))]
abbrev c_slices_IndexFunc_int64_int64_1 : List GOp := [oo 6 (.mv (tt 0)), oo 7 (.len (tt 6)), oo 8 (.mv (ci 0))]
abbrev c_slices_IndexFunc_int64_int64_2 : List GOp := [oo 9 (.bin .lss (tt 8) (tt 7))]
abbrev c_slices_IndexFunc_int64_int64_3 : List GOp := [oo 10 (.mv (tt 8)), oo 5 (.mv (tt 10))]
abbrev c_slices_IndexFunc_int64_int64_4 : List GOp := [oo 11 (.mv (tt 1)), oo 12 (.mv (tt 0)), oo 13 (.mv (tt 5)), oo 14 (.ia 1 (tt 12) (tt 13)), oo 15 (.ld (tt 14)), oo 16 (.call (tt 11) [tt 15])]
abbrev c_slices_IndexFunc_int64_int64_5 : List GOp := [oo 17 (.mv (tt 5)), oo 4 (.mv (tt 17))]
abbrev c_slices_IndexFunc_int64_int64_6 : List GOp := [oo 18 (.bin .add (tt 8) (ci 1)), oo 8 (.mv (tt 18))]
abbrev c_slices_IndexFunc_int64_int64_l0 : GCode := .seq (.reg c_slices_IndexFunc_int64_int64_2) (.seq (.cond (tt 9) (.skip) (.exit 0)) (.seq (.blk 1 (.seq (.reg c_slices_IndexFunc_int64_int64_3) (.seq (.reg c_slices_IndexFunc_int64_int64_4) (.cond (tt 16) (.seq (.reg c_slices_IndexFunc_int64_int64_5) (.ret)) (.skip))))) (.reg c_slices_IndexFunc_int64_int64_6)))
abbrev c_slices_IndexFunc_int64_int64_8 : List GOp := [oo 4 (.mv (ci (-1)))]
abbrev c_slices_IndexFunc_int64_int64 : GCode := .seq (.reg c_slices_IndexFunc_int64_int64_0) (.seq (.seq (.reg c_slices_IndexFunc_int64_int64_1) (.blk 0 (.loop c_slices_IndexFunc_int64_int64_l0))) (.seq (.reg c_slices_IndexFunc_int64_int64_8) (.ret)))
theorem c_slices_IndexFunc_int64_int64_d : decFn Try.prog Try.f222 = some (19, [.t 4], c_slices_IndexFunc_int64_int64) := by kernel_rfl
theorem c_slices_IndexFunc_int64_int64_i {args : List Value} {G : GH} {K : Value → GH → Prop} (hn : args.length ≤ 19) (h : gW Try.prog c_slices_IndexFunc_int64_int64 (RetK [.t 4] K) (T0 args) G) : GC Try.prog 222 args G K := GC_intro mixed Try.func222 c_slices_IndexFunc_int64_int64_d hn h
abbrev c_slices_Index_int64_int64_0 : List GOp := [oo 4 (.mv (ci 0))]
abbrev c_slices_Index_int64_int64_1 : List GOp := [oo 6 (.mv (tt 0)), oo 7 (.len (tt 6)), oo 8 (.mv (ci 0))]
abbrev c_slices_Index_int64_int64_2 : List GOp := [oo 9 (.bin .lss (tt 8) (tt 7))]
abbrev c_slices_Index_int64_int64_3 : List GOp := [oo 10 (.mv (tt 8)), oo 5 (.mv (tt 10))]
abbrev c_slices_Index_int64_int64_4 : List GOp := [oo 11 (.mv (tt 1)), oo 12 (.mv (tt 0)), oo 13 (.mv (tt 5)), oo 14 (.ia 1 (tt 12) (tt 13)), oo 15 (.ld (tt 14)), oo 16 (.bin .eql (tt 11) (tt 15))]
abbrev c_slices_Index_int64_int64_5 : List GOp := [oo 17 (.mv (tt 5)), oo 4 (.mv (tt 17))]
abbrev c_slices_Index_int64_int64_6 : List GOp := [oo 18 (.bin .add (tt 8) (ci 1)), oo 8 (.mv (tt 18))]
abbrev c_slices_Index_int64_int64_l0 : GCode := .seq (.reg c_slices_Index_int64_int64_2) (.seq (.cond (tt 9) (.skip) (.exit 0)) (.seq (.blk 1 (.seq (.reg c_slices_Index_int64_int64_3) (.seq (.reg c_slices_Index_int64_int64_4) (.cond (tt 16) (.seq (.reg c_slices_Index_int64_int64_5) (.ret)) (.skip))))) (.reg c_slices_Index_int64_int64_6)))
abbrev c_slices_Index_int64_int64_8 : List GOp := [oo 4 (.mv (ci (-1)))]
abbrev c_slices_Index_int64_int64 : GCode := .seq (.reg c_slices_Index_int64_int64_0) (.seq (.seq (.reg c_slices_Index_int64_int64_1) (.blk 0 (.loop c_slices_Index_int64_int64_l0))) (.seq (.reg c_slices_Index_int64_int64_8) (.ret)))
theorem c_slices_Index_int64_int64_d : decFn Try.prog Try.f166 = some (19, [.t 4], c_slices_Index_int64_int64) := by kernel_rfl
theorem c_slices_Index_int64_int64_i {args : List Value} {G : GH} {K : Value → GH → Prop} (hn : args.length ≤ 19) (h : gW Try.prog c_slices_Index_int64_int64 (RetK [.t 4] K) (T0 args) G) : GC Try.prog 166 args G K := GC_intro mixed Try.func166 c_slices_Index_int64_int64_d hn h
abbrev c_spec_FewestFixed_0 : List GOp := [oo 5 (.bx (tt 0)), oo 10 (.mv (.const (.slice none 0 0))), oo 11 (.mv (ci 0))]
abbrev c_spec_FewestFixed_1 : List GOp := [oo 14 (.mv (tt 1)), oo 15 (.mv (tt 2)), oo 16 (.bs 1 []), oo 17 (.call (ff 117) [tt 5, tt 14, tt 15, tt 16]), oo 12 (.mv (tt 17))]
abbrev c_spec_FewestFixed_2 : List GOp := [oo 18 (.mv (tt 12)), oo 19 (.bin .eql (tt 18) (ci 0)), oo 20 (.mv (tt 19)), og 21 20 true (.mv (tt 3)), og 22 20 true (.call (ff 121) [tt 21, (ci (-1000000)), (ci 1000000)]), og 23 20 true (.un .not (tt 22)), og 24 20 true (.mv (tt 23)), og 25 24 false (.mv (tt 4)), og 26 24 false (.call (ff 121) [tt 25, (ci 1), (ci 20000)]), og 27 24 false (.un .not (tt 26)), og 28 20 true (.pick (tt 24) (cb  true) (tt 27)), oo 29 (.pick (tt 20) (tt 28) (cb  false))]
abbrev c_spec_FewestFixed_3 : List GOp := [oo 12 (.mv (ci 2))]
abbrev c_spec_FewestFixed_4 : List GOp := [oo 30 (.mv (tt 12)), oo 31 (.bin .neq (tt 30) (ci 0))]
abbrev c_spec_FewestFixed_5 : List GOp := [oo 32 (.mv (tt 12)), oo 10 (.mv (.const (.slice none 0 0))), oo 11 (.mv (tt 32))]
abbrev c_spec_FewestFixed_6 : List GOp := [oo 33 (.mv (tt 1)), oo 34 (.mv (tt 2)), oo 35 (.mv (tt 3)), oo 36 (.mv (tt 4)), oo 37 (.bld [.pointer none, .slice none 0 0, .int .i64 0, .int .i64 0, .int .i64 0, .slice none 0 0, .int .i64 0, .int .i64 0, .bool false] [(0, 1, (tt 5)), (1, 1, (tt 33)), (2, 1, (tt 34)), (3, 1, (tt 35)), (7, 1, (tt 36))]), oo 38 (.bx (tt 37)), oo 13 (.mv (tt 38))]
abbrev c_spec_FewestFixed_7 : List GOp := [oo 39 (.mv (tt 13)), oo 40 (.nc (tt 39)), oo 41 (.fa 4 (tt 40)), on (.st 1 (tt 41) (ci 0))]
abbrev c_spec_FewestFixed_8 : List DOp := [dl 0 (oo 42 (.mv (tt 13))), dl 1 (oo 43 (.nc (tt 42))), dl 2 (oo 44 (.fa 4 (tt 43))), dl 3 (oo 45 (.ld (tt 44))), dl 4 (oo 46 (.fa 0 (tt 5))), dl 5 (oo 47 (.ld (tt 46))), dl 6 (oo 48 (.bin .leq (tt 45) (tt 47)))]
abbrev c_spec_FewestFixed_9 : List GOp := [oo 56 (.mv (tt 13)), oo 57 (.call (ff 126) [tt 56, (ci 0)])]
abbrev c_spec_FewestFixed_10 : List GOp := [oo 58 (.mv (tt 13)), oo 59 (.nc (tt 58)), oo 60 (.fa 5 (tt 59)), oo 61 (.ld (tt 60)), oo 62 (.call (ff 109) [tt 61]), oo 10 (.mv (tt 62)), oo 11 (.mv (ci 0))]
abbrev c_spec_FewestFixed_11 : List GOp := [oo 63 (.mv (tt 13)), oo 64 (.nc (tt 63)), oo 65 (.fa 8 (tt 64)), oo 66 (.ld (tt 65))]
abbrev c_spec_FewestFixed_12 : List GOp := [oo 49 (.mv (tt 13)), oo 50 (.nc (tt 49)), oo 51 (.fa 4 (tt 50)), oo 52 (.ld (tt 51)), oo 53 (.bin .add (tt 52) (ci 1)), oo 54 (.nc (tt 49)), oo 55 (.fa 4 (tt 54)), on (.st 1 (tt 55) (tt 53))]
abbrev c_spec_FewestFixed_l0 : GCode := .seq (.seq (.dreg c_spec_FewestFixed_8) (.cond (tt 48) (.skip) (.exit 0))) (.seq (.blk 1 (.seq (.seq (.reg c_spec_FewestFixed_9) (.cond (tt 57) (.seq (.reg c_spec_FewestFixed_10) (.ret)) (.skip))) (.seq (.reg c_spec_FewestFixed_11) (.cond (tt 66) (.exit 0) (.skip))))) (.reg c_spec_FewestFixed_12))
abbrev c_spec_FewestFixed_14 : List GOp := [oo 10 (.mv (.const (.slice none 0 0))), oo 11 (.mv (ci 5))]
abbrev c_spec_FewestFixed : GCode := .seq (.reg c_spec_FewestFixed_0) (.seq (.reg c_spec_FewestFixed_1) (.seq (.seq (.reg c_spec_FewestFixed_2) (.cond (tt 29) (.reg c_spec_FewestFixed_3) (.skip))) (.seq (.seq (.reg c_spec_FewestFixed_4) (.cond (tt 31) (.seq (.reg c_spec_FewestFixed_5) (.ret)) (.skip))) (.seq (.reg c_spec_FewestFixed_6) (.seq (.seq (.reg c_spec_FewestFixed_7) (.blk 0 (.loop c_spec_FewestFixed_l0))) (.seq (.reg c_spec_FewestFixed_14) (.ret)))))))
theorem c_spec_FewestFixed_d : decFn Try.prog Try.f50 = some (67, [.t 10, .t 11], c_spec_FewestFixed) := by kernel_rfl
theorem c_spec_FewestFixed_i {args : List Value} {G : GH} {K : Value → GH → Prop} (hn : args.length ≤ 67) (h : gW Try.prog c_spec_FewestFixed (RetK [.t 10, .t 11] K) (T0 args) G) : GC Try.prog 50 args G K := GC_intro mixed Try.func50 c_spec_FewestFixed_d hn h
abbrev c_spec_l00Has_0 : List GOp := [oo 4 (.mv (cb  false))]
abbrev c_spec_l00Has_1 : List GOp := [oo 5 (.mv (ci 0))]
abbrev c_spec_l00Has_2 : List GOp := [oo 6 (.mv (tt 5)), oo 7 (.mv (tt 0)), oo 8 (.len (tt 7)), oo 9 (.bin .lss (tt 6) (tt 8))]
abbrev c_spec_l00Has_3 : List GOp := [oo 12 (.mv (tt 0)), oo 13 (.mv (tt 5)), oo 14 (.ia 1 (tt 12) (tt 13)), oo 15 (.ld (tt 14)), oo 16 (.mv (tt 1)), oo 17 (.bin .eql (tt 15) (tt 16))]
abbrev c_spec_l00Has_4 : List GOp := [oo 4 (.mv (cb  true))]
abbrev c_spec_l00Has_5 : List GOp := [oo 10 (.mv (tt 5)), oo 11 (.bin .add (tt 10) (ci 1)), oo 5 (.mv (tt 11))]
abbrev c_spec_l00Has_l0 : GCode := .seq (.seq (.reg c_spec_l00Has_2) (.cond (tt 9) (.skip) (.exit 0))) (.seq (.blk 1 (.seq (.reg c_spec_l00Has_3) (.cond (tt 17) (.seq (.reg c_spec_l00Has_4) (.ret)) (.skip)))) (.reg c_spec_l00Has_5))
abbrev c_spec_l00Has_7 : List GOp := [oo 4 (.mv (cb  false))]
abbrev c_spec_l00Has : GCode := .seq (.reg c_spec_l00Has_0) (.seq (.seq (.reg c_spec_l00Has_1) (.blk 0 (.loop c_spec_l00Has_l0))) (.seq (.reg c_spec_l00Has_7) (.ret)))
theorem c_spec_l00Has_d : decFn Try.prog Try.f134 = some (18, [.t 4], c_spec_l00Has) := by kernel_rfl
theorem c_spec_l00Has_i {args : List Value} {G : GH} {K : Value → GH → Prop} (hn : args.length ≤ 18) (h : gW Try.prog c_spec_l00Has (RetK [.t 4] K) (T0 args) G) : GC Try.prog 134 args G K := GC_intro mixed Try.func134 c_spec_l00Has_d hn h
abbrev c_spec_l00In_0 : List GOp := [oo 6 (.mv (cb  false))]
abbrev c_spec_l00In_1 : List GOp := [oo 7 (.mv (tt 0)), oo 8 (.mv (tt 1)), oo 9 (.bin .geq (tt 7) (tt 8)), oo 10 (.mv (tt 9)), og 11 10 true (.mv (tt 0)), og 12 10 true (.mv (tt 2)), og 13 10 true (.bin .leq (tt 11) (tt 12)), oo 14 (.pick (tt 10) (tt 13) (cb  false)), oo 6 (.mv (tt 14))]
abbrev c_spec_l00In : GCode := .seq (.reg c_spec_l00In_0) (.seq (.reg c_spec_l00In_1) (.ret))
theorem c_spec_l00In_d : decFn Try.prog Try.f121 = some (15, [.t 6], c_spec_l00In) := by kernel_rfl
theorem c_spec_l00In_i {args : List Value} {G : GH} {K : Value → GH → Prop} (hn : args.length ≤ 15) (h : gW Try.prog c_spec_l00In (RetK [.t 6] K) (T0 args) G) : GC Try.prog 121 args G K := GC_intro mixed Try.func121 c_spec_l00In_d hn h
abbrev c_spec_l00Max_0 : List GOp := [oo 4 (.mv (ci 0))]
abbrev c_spec_l00Max_1 : List GOp := [oo 5 (.mv (tt 0)), oo 6 (.mv (tt 1)), oo 7 (.bin .gtr (tt 5) (tt 6))]
abbrev c_spec_l00Max_2 : List GOp := [oo 8 (.mv (tt 0)), oo 4 (.mv (tt 8))]
abbrev c_spec_l00Max_3 : List GOp := [oo 9 (.mv (tt 1)), oo 4 (.mv (tt 9))]
abbrev c_spec_l00Max : GCode := .seq (.reg c_spec_l00Max_0) (.seq (.seq (.reg c_spec_l00Max_1) (.cond (tt 7) (.seq (.reg c_spec_l00Max_2) (.ret)) (.skip))) (.seq (.reg c_spec_l00Max_3) (.ret)))
theorem c_spec_l00Max_d : decFn Try.prog Try.f113 = some (10, [.t 4], c_spec_l00Max) := by kernel_rfl
theorem c_spec_l00Max_i {args : List Value} {G : GH} {K : Value → GH → Prop} (hn : args.length ≤ 10) (h : gW Try.prog c_spec_l00Max (RetK [.t 4] K) (T0 args) G) : GC Try.prog 113 args G K := GC_intro mixed Try.func113 c_spec_l00Max_d hn h
abbrev c_spec_l00Own_0 : List GOp := [oo 2 (.mv (.const (.slice none 0 0)))]
abbrev c_spec_l00Own_1 : List GOp := [oo 3 (.bs 1 []), oo 4 (.mv (tt 0)), oo 5 (.ap 1 8 [.int .i64 0] (tt 3) (tt 4)), oo 2 (.mv (tt 5))]
abbrev c_spec_l00Own : GCode := .seq (.reg c_spec_l00Own_0) (.seq (.reg c_spec_l00Own_1) (.ret))
theorem c_spec_l00Own_d : decFn Try.prog Try.f109 = some (6, [.t 2], c_spec_l00Own) := by kernel_rfl
theorem c_spec_l00Own_i {args : List Value} {G : GH} {K : Value → GH → Prop} (hn : args.length ≤ 6) (h : gW Try.prog c_spec_l00Own (RetK [.t 2] K) (T0 args) G) : GC Try.prog 109 args G K := GC_intro mixed Try.func109 c_spec_l00Own_d hn h
abbrev c_spec_l00Rises_0 : List GOp := [oo 6 (.mv (cb  false))]
abbrev c_spec_l00Rises_1 : List GOp := [oo 7 (.mv (ci 0))]
abbrev c_spec_l00Rises_2 : List GOp := [oo 8 (.mv (tt 7)), oo 9 (.mv (tt 0)), oo 10 (.len (tt 9)), oo 11 (.bin .lss (tt 8) (tt 10))]
abbrev c_spec_l00Rises_3 : List DOp := [dl 0 (oo 14 (.mv (tt 0))), dl 1 (oo 15 (.mv (tt 7))), dl 2 (oo 16 (.ia 1 (tt 14) (tt 15))), dl 3 (oo 17 (.ld (tt 16))), dl 4 (oo 18 (.mv (tt 1))), dl 5 (oo 19 (.mv (tt 2))), dh 6 [] (oo 20 (.call (ff 121) [tt 17, tt 18, tt 19])), dl 7 (oo 21 (.un .not (tt 20))), dl 8 (oo 22 (.mv (tt 21))), dl 9 (og 23 22 false (.mv (tt 7))), dl 10 (og 24 22 false (.bin .gtr (tt 23) (ci 0))), dl 11 (og 25 22 false (.mv (tt 24))), dl 12 (og 26 25 true (.mv (tt 0))), dl 13 (og 27 25 true (.mv (tt 7))), dl 14 (og 28 25 true (.bin .sub (tt 27) (ci 1))), dl 15 (og 29 25 true (.ia 1 (tt 26) (tt 28))), dl 16 (og 30 25 true (.ld (tt 29))), dl 17 (og 31 25 true (.mv (tt 0))), dl 18 (og 32 25 true (.mv (tt 7))), dl 19 (og 33 25 true (.ia 1 (tt 31) (tt 32))), dl 20 (og 34 25 true (.ld (tt 33))), dl 21 (og 35 25 true (.bin .geq (tt 30) (tt 34))), dl 22 (og 36 22 false (.pick (tt 25) (tt 35) (cb  false))), dl 23 (oo 37 (.pick (tt 22) (cb  true) (tt 36)))]
abbrev c_spec_l00Rises_4 : List GOp := [oo 6 (.mv (cb  false))]
abbrev c_spec_l00Rises_5 : List GOp := [oo 12 (.mv (tt 7)), oo 13 (.bin .add (tt 12) (ci 1)), oo 7 (.mv (tt 13))]
abbrev c_spec_l00Rises_l0 : GCode := .seq (.seq (.reg c_spec_l00Rises_2) (.cond (tt 11) (.skip) (.exit 0))) (.seq (.blk 1 (.seq (.dreg c_spec_l00Rises_3) (.cond (tt 37) (.seq (.reg c_spec_l00Rises_4) (.ret)) (.skip)))) (.reg c_spec_l00Rises_5))
abbrev c_spec_l00Rises_7 : List GOp := [oo 6 (.mv (cb  true))]
abbrev c_spec_l00Rises : GCode := .seq (.reg c_spec_l00Rises_0) (.seq (.seq (.reg c_spec_l00Rises_1) (.blk 0 (.loop c_spec_l00Rises_l0))) (.seq (.reg c_spec_l00Rises_7) (.ret)))
theorem c_spec_l00Rises_d : decFn Try.prog Try.f214 = some (38, [.t 6], c_spec_l00Rises) := by kernel_rfl
theorem c_spec_l00Rises_i {args : List Value} {G : GH} {K : Value → GH → Prop} (hn : args.length ≤ 38) (h : gW Try.prog c_spec_l00Rises (RetK [.t 6] K) (T0 args) G) : GC Try.prog 214 args G K := GC_intro mixed Try.func214 c_spec_l00Rises_d hn h
abbrev c_spec_l00Same_0 : List GOp := [oo 4 (.mv (cb  false))]
abbrev c_spec_l00Same_1 : List GOp := [oo 6 (.mv (tt 0)), oo 7 (.len (tt 6)), oo 8 (.mv (tt 1)), oo 9 (.len (tt 8)), oo 10 (.bin .neq (tt 7) (tt 9))]
abbrev c_spec_l00Same_2 : List GOp := [oo 4 (.mv (cb  false))]
abbrev c_spec_l00Same_3 : List GOp := [oo 5 (.mv (ci 0))]
abbrev c_spec_l00Same_4 : List GOp := [oo 11 (.mv (tt 5)), oo 12 (.mv (tt 0)), oo 13 (.len (tt 12)), oo 14 (.bin .lss (tt 11) (tt 13))]
abbrev c_spec_l00Same_5 : List DOp := [dl 0 (oo 17 (.mv (tt 0))), dl 1 (oo 18 (.mv (tt 5))), dl 2 (oo 19 (.ia 1 (tt 17) (tt 18))), dl 3 (oo 20 (.ld (tt 19))), dl 4 (oo 21 (.mv (tt 1))), dl 5 (oo 22 (.mv (tt 5))), dl 6 (oo 23 (.ia 1 (tt 21) (tt 22))), dl 7 (oo 24 (.ld (tt 23))), dl 8 (oo 25 (.bin .neq (tt 20) (tt 24)))]
abbrev c_spec_l00Same_6 : List GOp := [oo 4 (.mv (cb  false))]
abbrev c_spec_l00Same_7 : List GOp := [oo 15 (.mv (tt 5)), oo 16 (.bin .add (tt 15) (ci 1)), oo 5 (.mv (tt 16))]
abbrev c_spec_l00Same_l0 : GCode := .seq (.seq (.reg c_spec_l00Same_4) (.cond (tt 14) (.skip) (.exit 0))) (.seq (.blk 1 (.seq (.dreg c_spec_l00Same_5) (.cond (tt 25) (.seq (.reg c_spec_l00Same_6) (.ret)) (.skip)))) (.reg c_spec_l00Same_7))
abbrev c_spec_l00Same_9 : List GOp := [oo 4 (.mv (cb  true))]
abbrev c_spec_l00Same : GCode := .seq (.reg c_spec_l00Same_0) (.seq (.seq (.reg c_spec_l00Same_1) (.cond (tt 10) (.seq (.reg c_spec_l00Same_2) (.ret)) (.skip))) (.seq (.seq (.reg c_spec_l00Same_3) (.blk 0 (.loop c_spec_l00Same_l0))) (.seq (.reg c_spec_l00Same_9) (.ret))))
theorem c_spec_l00Same_d : decFn Try.prog Try.f110 = some (26, [.t 4], c_spec_l00Same) := by kernel_rfl
theorem c_spec_l00Same_i {args : List Value} {G : GH} {K : Value → GH → Prop} (hn : args.length ≤ 26) (h : gW Try.prog c_spec_l00Same (RetK [.t 4] K) (T0 args) G) : GC Try.prog 110 args G K := GC_intro mixed Try.func110 c_spec_l00Same_d hn h
abbrev c_spec_l01Div_0 : List GOp := [oo 4 (.mv (ci 0))]
abbrev c_spec_l01Div_1 : List GOp := [oo 5 (.mv (tt 1)), oo 6 (.bin .lss (tt 5) (ci 0))]
abbrev c_spec_l01Div_2 : List GOp := [oo 7 (.mv (tt 0)), oo 8 (.un .neg (tt 7)), oo 0 (.mv (tt 8))]
abbrev c_spec_l01Div_3 : List GOp := [oo 9 (.mv (tt 1)), oo 10 (.un .neg (tt 9)), oo 1 (.mv (tt 10))]
abbrev c_spec_l01Div_4 : List GOp := [oo 11 (.mv (tt 0)), oo 12 (.bin .lss (tt 11) (ci 0))]
abbrev c_spec_l01Div_5 : List GOp := [oo 13 (.mv (tt 1)), oo 14 (.mv (tt 0)), oo 15 (.bin .mul (ci 2) (tt 14)), oo 16 (.bin .sub (tt 13) (tt 15)), oo 17 (.mv (tt 1)), oo 18 (.bin .mul (ci 2) (tt 17)), oo 19 (.bin .quo (tt 16) (tt 18)), oo 20 (.un .neg (tt 19)), oo 4 (.mv (tt 20))]
abbrev c_spec_l01Div_6 : List GOp := [oo 21 (.mv (tt 0)), oo 22 (.bin .mul (ci 2) (tt 21)), oo 23 (.mv (tt 1)), oo 24 (.bin .add (tt 22) (tt 23)), oo 25 (.mv (tt 1)), oo 26 (.bin .mul (ci 2) (tt 25)), oo 27 (.bin .quo (tt 24) (tt 26)), oo 4 (.mv (tt 27))]
abbrev c_spec_l01Div : GCode := .seq (.reg c_spec_l01Div_0) (.seq (.seq (.reg c_spec_l01Div_1) (.cond (tt 6) (.seq (.reg c_spec_l01Div_2) (.reg c_spec_l01Div_3)) (.skip))) (.seq (.seq (.reg c_spec_l01Div_4) (.cond (tt 12) (.seq (.reg c_spec_l01Div_5) (.ret)) (.skip))) (.seq (.reg c_spec_l01Div_6) (.ret))))
theorem c_spec_l01Div_d : decFn Try.prog Try.f207 = some (28, [.t 4], c_spec_l01Div) := by kernel_rfl
theorem c_spec_l01Div_i {args : List Value} {G : GH} {K : Value → GH → Prop} (hn : args.length ≤ 28) (h : gW Try.prog c_spec_l01Div (RetK [.t 4] K) (T0 args) G) : GC Try.prog 207 args G K := GC_intro mixed Try.func207 c_spec_l01Div_d hn h
abbrev c_spec_l16Ask_0 : List GOp := [oo 4 (.mv (ci 0))]
abbrev c_spec_l16Ask_1 : List GOp := [oo 5 (.mv (tt 0)), oo 6 (.call (ff 138) [tt 5]), oo 7 (.un .not (tt 6))]
abbrev c_spec_l16Ask_2 : List GOp := [oo 4 (.mv (ci 1))]
abbrev c_spec_l16Ask_3 : List GOp := [oo 8 (.mv (tt 0)), oo 9 (.mv (tt 1)), oo 10 (.call (ff 199) [tt 8, tt 9]), oo 11 (.un .not (tt 10))]
abbrev c_spec_l16Ask_4 : List GOp := [oo 4 (.mv (ci 2))]
abbrev c_spec_l16Ask_5 : List GOp := [oo 4 (.mv (ci 0))]
abbrev c_spec_l16Ask : GCode := .seq (.reg c_spec_l16Ask_0) (.seq (.seq (.reg c_spec_l16Ask_1) (.cond (tt 7) (.seq (.reg c_spec_l16Ask_2) (.ret)) (.skip))) (.seq (.seq (.reg c_spec_l16Ask_3) (.cond (tt 11) (.seq (.reg c_spec_l16Ask_4) (.ret)) (.skip))) (.seq (.reg c_spec_l16Ask_5) (.ret))))
theorem c_spec_l16Ask_d : decFn Try.prog Try.f100 = some (12, [.t 4], c_spec_l16Ask) := by kernel_rfl
theorem c_spec_l16Ask_i {args : List Value} {G : GH} {K : Value → GH → Prop} (hn : args.length ≤ 12) (h : gW Try.prog c_spec_l16Ask (RetK [.t 4] K) (T0 args) G) : GC Try.prog 100 args G K := GC_intro mixed Try.func100 c_spec_l16Ask_d hn h
abbrev c_spec_l16Ok_0 : List GOp := [oo 2 (.mv (cb  false))]
abbrev c_spec_l16Ok_1 : List GOp := [oo 5 (.mv (tt 0)), oo 6 (.nc (tt 5)), oo 7 (.fa 0 (tt 6)), oo 8 (.ld (tt 7)), oo 9 (.call (ff 121) [tt 8, (ci 1), (ci 12)]), oo 10 (.un .not (tt 9))]
abbrev c_spec_l16Ok_2 : List GOp := [oo 2 (.mv (cb  false))]
abbrev c_spec_l16Ok_3 : List GOp := [oo 3 (.mv (ci 0))]
abbrev c_spec_l16Ok_4 : List GOp := [oo 11 (.mv (tt 3)), oo 12 (.mv (tt 0)), oo 13 (.nc (tt 12)), oo 14 (.fa 1 (tt 13)), oo 15 (.ld (tt 14)), oo 16 (.len (tt 15)), oo 17 (.bin .lss (tt 11) (tt 16))]
abbrev c_spec_l16Ok_5 : List GOp := [oo 20 (.mv (tt 0)), oo 21 (.nc (tt 20)), oo 22 (.fa 1 (tt 21)), oo 23 (.ld (tt 22)), oo 24 (.mv (tt 3)), oo 25 (.ia 3 (tt 23) (tt 24)), oo 26 (.ldn 3 (tt 25)), oo 4 (.al [.int .i64 0, .int .i64 0, .int .i64 0]), on (.st 3 (tt 4) (tt 26))]
abbrev c_spec_l16Ok_6 : List DOp := [dl 0 (oo 27 (.fa 1 (tt 4))), dl 1 (oo 28 (.ld (tt 27))), dl 2 (oo 29 (.mv (tt 0))), dl 3 (oo 30 (.nc (tt 29))), dl 4 (oo 31 (.fa 0 (tt 30))), dl 5 (oo 32 (.ld (tt 31))), dl 6 (oo 33 (.bin .sub (tt 32) (ci 1))), dh 7 [5] (oo 34 (.call (ff 121) [tt 28, (ci 0), tt 33])), dl 8 (oo 35 (.un .not (tt 34))), dl 9 (oo 36 (.mv (tt 35))), dl 10 (og 37 36 false (.fa 0 (tt 4))), dl 11 (og 38 36 false (.ld (tt 37))), dl 12 (og 39 36 false (.fa 1 (tt 4))), dl 13 (og 40 36 false (.ld (tt 39))), dl 14 (og 41 36 false (.bin .sub (tt 40) (ci 1))), dh 15 [13, 5, 1] (og 42 36 false (.call (ff 121) [tt 38, (ci 0), tt 41])), dl 16 (og 43 36 false (.un .not (tt 42))), dl 17 (oo 44 (.pick (tt 36) (cb  true) (tt 43))), dl 18 (oo 45 (.mv (tt 44))), dl 19 (og 46 45 false (.fa 2 (tt 4))), dl 20 (og 47 45 false (.ld (tt 46))), dh 21 [13, 11, 5, 1] (og 48 45 false (.call (ff 121) [tt 47, (ci 1), (ci 9)])), dl 22 (og 49 45 false (.un .not (tt 48))), dl 23 (oo 50 (.pick (tt 45) (cb  true) (tt 49)))]
abbrev c_spec_l16Ok_7 : List GOp := [oo 2 (.mv (cb  false))]
abbrev c_spec_l16Ok_8 : List DOp := [dl 0 (oo 51 (.mv (tt 3))), dl 1 (oo 52 (.bin .gtr (tt 51) (ci 0))), dl 2 (oo 53 (.mv (tt 52))), dl 3 (og 54 53 true (.mv (tt 0))), dl 4 (og 55 53 true (.nc (tt 54))), dl 5 (og 56 53 true (.fa 1 (tt 55))), dl 6 (og 57 53 true (.ld (tt 56))), dl 7 (og 58 53 true (.mv (tt 3))), dl 8 (og 59 53 true (.bin .sub (tt 58) (ci 1))), dl 9 (og 60 53 true (.ia 3 (tt 57) (tt 59))), dl 10 (og 61 53 true (.fa 0 (tt 60))), dl 11 (og 62 53 true (.ld (tt 61))), dl 12 (og 63 53 true (.fa 0 (tt 4))), dl 13 (og 64 53 true (.ld (tt 63))), dl 14 (og 65 53 true (.bin .gtr (tt 62) (tt 64))), dl 15 (og 66 53 true (.mv (tt 65))), dl 16 (og 67 66 false (.mv (tt 0))), dl 17 (og 68 66 false (.nc (tt 67))), dl 18 (og 69 66 false (.fa 1 (tt 68))), dl 19 (og 70 66 false (.ld (tt 69))), dl 20 (og 71 66 false (.mv (tt 3))), dl 21 (og 72 66 false (.bin .sub (tt 71) (ci 1))), dl 22 (og 73 66 false (.ia 3 (tt 70) (tt 72))), dl 23 (og 74 66 false (.fa 0 (tt 73))), dl 24 (og 75 66 false (.ld (tt 74))), dl 25 (og 76 66 false (.fa 0 (tt 4))), dl 26 (og 77 66 false (.ld (tt 76))), dl 27 (og 78 66 false (.bin .eql (tt 75) (tt 77))), dl 28 (og 79 66 false (.mv (tt 78))), dl 29 (og 80 79 true (.mv (tt 0))), dl 30 (og 81 79 true (.nc (tt 80))), dl 31 (og 82 79 true (.fa 1 (tt 81))), dl 32 (og 83 79 true (.ld (tt 82))), dl 33 (og 84 79 true (.mv (tt 3))), dl 34 (og 85 79 true (.bin .sub (tt 84) (ci 1))), dl 35 (og 86 79 true (.ia 3 (tt 83) (tt 85))), dl 36 (og 87 79 true (.fa 1 (tt 86))), dl 37 (og 88 79 true (.ld (tt 87))), dl 38 (og 89 79 true (.fa 1 (tt 4))), dl 39 (og 90 79 true (.ld (tt 89))), dl 40 (og 91 79 true (.bin .geq (tt 88) (tt 90))), dl 41 (og 92 66 false (.pick (tt 79) (tt 91) (cb  false))), dl 42 (og 93 53 true (.pick (tt 66) (cb  true) (tt 92))), dl 43 (oo 94 (.pick (tt 53) (tt 93) (cb  false)))]
abbrev c_spec_l16Ok_9 : List GOp := [oo 2 (.mv (cb  false))]
abbrev c_spec_l16Ok_10 : List GOp := [oo 18 (.mv (tt 3)), oo 19 (.bin .add (tt 18) (ci 1)), oo 3 (.mv (tt 19))]
abbrev c_spec_l16Ok_l0 : GCode := .seq (.seq (.reg c_spec_l16Ok_4) (.cond (tt 17) (.skip) (.exit 0))) (.seq (.blk 1 (.seq (.reg c_spec_l16Ok_5) (.seq (.seq (.dreg c_spec_l16Ok_6) (.cond (tt 50) (.seq (.reg c_spec_l16Ok_7) (.ret)) (.skip))) (.seq (.dreg c_spec_l16Ok_8) (.cond (tt 94) (.seq (.reg c_spec_l16Ok_9) (.ret)) (.skip)))))) (.reg c_spec_l16Ok_10))
abbrev c_spec_l16Ok_12 : List GOp := [oo 95 (.mv (tt 0)), oo 96 (.nc (tt 95)), oo 97 (.fa 1 (tt 96)), oo 98 (.ld (tt 97)), oo 99 (.len (tt 98)), oo 100 (.bin .leq (tt 99) (ci 24)), oo 2 (.mv (tt 100))]
abbrev c_spec_l16Ok : GCode := .seq (.reg c_spec_l16Ok_0) (.seq (.seq (.reg c_spec_l16Ok_1) (.cond (tt 10) (.seq (.reg c_spec_l16Ok_2) (.ret)) (.skip))) (.seq (.seq (.reg c_spec_l16Ok_3) (.blk 0 (.loop c_spec_l16Ok_l0))) (.seq (.reg c_spec_l16Ok_12) (.ret))))
theorem c_spec_l16Ok_d : decFn Try.prog Try.f138 = some (101, [.t 2], c_spec_l16Ok) := by kernel_rfl
theorem c_spec_l16Ok_i {args : List Value} {G : GH} {K : Value → GH → Prop} (hn : args.length ≤ 101) (h : gW Try.prog c_spec_l16Ok (RetK [.t 2] K) (T0 args) G) : GC Try.prog 138 args G K := GC_intro mixed Try.func138 c_spec_l16Ok_d hn h
abbrev c_spec_l16Set_0 : List GOp := [oo 4 (.mv (cb  false))]
abbrev c_spec_l16Set_1 : List GOp := [oo 5 (.mv (tt 1)), oo 6 (.mv (tt 0)), oo 7 (.nc (tt 6)), oo 8 (.fa 0 (tt 7)), oo 9 (.ld (tt 8)), oo 10 (.bin .sub (tt 9) (ci 1)), oo 11 (.call (ff 214) [tt 5, (ci 0), tt 10]), oo 4 (.mv (tt 11))]
abbrev c_spec_l16Set : GCode := .seq (.reg c_spec_l16Set_0) (.seq (.reg c_spec_l16Set_1) (.ret))
theorem c_spec_l16Set_d : decFn Try.prog Try.f132 = some (12, [.t 4], c_spec_l16Set) := by kernel_rfl
theorem c_spec_l16Set_i {args : List Value} {G : GH} {K : Value → GH → Prop} (hn : args.length ≤ 12) (h : gW Try.prog c_spec_l16Set (RetK [.t 4] K) (T0 args) G) : GC Try.prog 132 args G K := GC_intro mixed Try.func132 c_spec_l16Set_d hn h
abbrev c_spec_l16Vector_0 : List GOp := [oo 4 (.mv (cb  false))]
abbrev c_spec_l16Vector_1 : List GOp := [oo 5 (.mv (ci 0))]
abbrev c_spec_l16Vector_2 : List GOp := [oo 6 (.mv (tt 5)), oo 7 (.mv (tt 1)), oo 8 (.len (tt 7)), oo 9 (.bin .lss (tt 6) (tt 8))]
abbrev c_spec_l16Vector_3 : List GOp := [oo 12 (.mv (tt 1)), oo 13 (.mv (tt 5)), oo 14 (.ia 1 (tt 12) (tt 13)), oo 15 (.ld (tt 14)), oo 16 (.call (ff 121) [tt 15, (ci (-1000000)), (ci 1000000)]), oo 17 (.un .not (tt 16))]
abbrev c_spec_l16Vector_4 : List GOp := [oo 4 (.mv (cb  false))]
abbrev c_spec_l16Vector_5 : List GOp := [oo 10 (.mv (tt 5)), oo 11 (.bin .add (tt 10) (ci 1)), oo 5 (.mv (tt 11))]
abbrev c_spec_l16Vector_l0 : GCode := .seq (.seq (.reg c_spec_l16Vector_2) (.cond (tt 9) (.skip) (.exit 0))) (.seq (.blk 1 (.seq (.reg c_spec_l16Vector_3) (.cond (tt 17) (.seq (.reg c_spec_l16Vector_4) (.ret)) (.skip)))) (.reg c_spec_l16Vector_5))
abbrev c_spec_l16Vector_7 : List GOp := [oo 18 (.mv (tt 1)), oo 19 (.len (tt 18)), oo 20 (.mv (tt 0)), oo 21 (.nc (tt 20)), oo 22 (.fa 0 (tt 21)), oo 23 (.ld (tt 22)), oo 24 (.bin .eql (tt 19) (tt 23)), oo 4 (.mv (tt 24))]
abbrev c_spec_l16Vector : GCode := .seq (.reg c_spec_l16Vector_0) (.seq (.seq (.reg c_spec_l16Vector_1) (.blk 0 (.loop c_spec_l16Vector_l0))) (.seq (.reg c_spec_l16Vector_7) (.ret)))
theorem c_spec_l16Vector_d : decFn Try.prog Try.f199 = some (25, [.t 4], c_spec_l16Vector) := by kernel_rfl
theorem c_spec_l16Vector_i {args : List Value} {G : GH} {K : Value → GH → Prop} (hn : args.length ≤ 25) (h : gW Try.prog c_spec_l16Vector (RetK [.t 4] K) (T0 args) G) : GC Try.prog 199 args G K := GC_intro mixed Try.func199 c_spec_l16Vector_d hn h
abbrev c_spec_l18Ask_0 : List GOp := [oo 8 (.mv (ci 0))]
abbrev c_spec_l18Ask_1 : List GOp := [oo 10 (.mv (tt 0)), oo 11 (.mv (tt 1)), oo 12 (.call (ff 100) [tt 10, tt 11]), oo 9 (.mv (tt 12))]
abbrev c_spec_l18Ask_2 : List GOp := [oo 13 (.mv (tt 9)), oo 14 (.bin .eql (tt 13) (ci 0)), oo 15 (.mv (tt 14)), og 16 15 true (.mv (tt 2)), og 17 15 true (.call (ff 121) [tt 16, (ci 0), (ci 1000)]), og 18 15 true (.un .not (tt 17)), og 19 15 true (.mv (tt 18)), og 20 19 false (.mv (tt 0)), og 21 19 false (.mv (tt 3)), og 22 19 false (.call (ff 132) [tt 20, tt 21]), og 23 19 false (.un .not (tt 22)), og 24 15 true (.pick (tt 19) (cb  true) (tt 23)), oo 25 (.pick (tt 15) (tt 24) (cb  false))]
abbrev c_spec_l18Ask_3 : List GOp := [oo 9 (.mv (ci 2))]
abbrev c_spec_l18Ask_4 : List GOp := [oo 26 (.mv (tt 9)), oo 8 (.mv (tt 26))]
abbrev c_spec_l18Ask : GCode := .seq (.reg c_spec_l18Ask_0) (.seq (.reg c_spec_l18Ask_1) (.seq (.seq (.reg c_spec_l18Ask_2) (.cond (tt 25) (.reg c_spec_l18Ask_3) (.skip))) (.seq (.reg c_spec_l18Ask_4) (.ret))))
theorem c_spec_l18Ask_d : decFn Try.prog Try.f117 = some (27, [.t 8], c_spec_l18Ask) := by kernel_rfl
theorem c_spec_l18Ask_i {args : List Value} {G : GH} {K : Value → GH → Prop} (hn : args.length ≤ 27) (h : gW Try.prog c_spec_l18Ask (RetK [.t 8] K) (T0 args) G) : GC Try.prog 117 args G K := GC_intro mixed Try.func117 c_spec_l18Ask_d hn h
abbrev c_spec_l18Rest_0 : List GOp := [oo 8 (.mv (ci 0)), oo 9 (.mv (.const (.slice none 0 0)))]
abbrev c_spec_l18Rest_1 : List GOp := [oo 13 (.mv (tt 1)), oo 14 (.call (ff 109) [tt 13]), oo 10 (.mv (tt 14))]
abbrev c_spec_l18Rest_2 : List GOp := [oo 11 (.mv (ci 0))]
abbrev c_spec_l18Rest_3 : List GOp := [oo 15 (.mv (tt 11)), oo 16 (.bin .leq (tt 15) (ci 1000))]
abbrev c_spec_l18Rest_4 : List GOp := [oo 19 (.mv (tt 0)), oo 20 (.mv (tt 10)), oo 21 (.mv (tt 2)), oo 22 (.mv (tt 3)), oo 23 (.call (ff 118) [tt 19, tt 20, tt 21, (ci (-1)), tt 22]), oo 12 (.mv (tt 23))]
abbrev c_spec_l18Rest_5 : List GOp := [oo 24 (.mv (tt 12)), oo 25 (.mv (tt 10)), oo 26 (.call (ff 110) [tt 24, tt 25])]
abbrev c_spec_l18Rest_6 : List GOp := [oo 27 (.mv (tt 11)), oo 28 (.mv (tt 10)), oo 8 (.mv (tt 27)), oo 9 (.mv (tt 28))]
abbrev c_spec_l18Rest_7 : List GOp := [oo 29 (.mv (tt 12)), oo 10 (.mv (tt 29))]
abbrev c_spec_l18Rest_8 : List GOp := [oo 17 (.mv (tt 11)), oo 18 (.bin .add (tt 17) (ci 1)), oo 11 (.mv (tt 18))]
abbrev c_spec_l18Rest_l0 : GCode := .seq (.seq (.reg c_spec_l18Rest_3) (.cond (tt 16) (.skip) (.exit 0))) (.seq (.blk 1 (.seq (.reg c_spec_l18Rest_4) (.seq (.seq (.reg c_spec_l18Rest_5) (.cond (tt 26) (.seq (.reg c_spec_l18Rest_6) (.ret)) (.skip))) (.reg c_spec_l18Rest_7)))) (.reg c_spec_l18Rest_8))
abbrev c_spec_l18Rest_10 : List GOp := [oo 30 (.mv (tt 10)), oo 8 (.mv (ci (-1))), oo 9 (.mv (tt 30))]
abbrev c_spec_l18Rest : GCode := .seq (.reg c_spec_l18Rest_0) (.seq (.reg c_spec_l18Rest_1) (.seq (.seq (.reg c_spec_l18Rest_2) (.blk 0 (.loop c_spec_l18Rest_l0))) (.seq (.reg c_spec_l18Rest_10) (.ret))))
theorem c_spec_l18Rest_d : decFn Try.prog Try.f124 = some (31, [.t 8, .t 9], c_spec_l18Rest) := by kernel_rfl
theorem c_spec_l18Rest_i {args : List Value} {G : GH} {K : Value → GH → Prop} (hn : args.length ≤ 31) (h : gW Try.prog c_spec_l18Rest (RetK [.t 8, .t 9] K) (T0 args) G) : GC Try.prog 124 args G K := GC_intro mixed Try.func124 c_spec_l18Rest_d hn h
abbrev c_spec_l18Search_run_0 : List GOp := [oo 4 (.mv (cb  false))]
abbrev c_spec_l18Search_run_1 : List DOp := [dl 0 (oo 6 (.mv (tt 0))), dl 1 (oo 7 (.nc (tt 6))), dl 2 (oo 8 (.fa 5 (tt 7))), dl 3 (oo 9 (.ld (tt 8))), dl 4 (oo 10 (.len (tt 9))), dl 5 (oo 11 (.mv (tt 0))), dl 6 (oo 12 (.nc (tt 11))), dl 7 (oo 13 (.fa 4 (tt 12))), dl 8 (oo 14 (.ld (tt 13))), dl 9 (oo 15 (.bin .eql (tt 10) (tt 14)))]
abbrev c_spec_l18Search_run_2 : List DOp := [dl 0 (oo 16 (.mv (tt 0))), dl 1 (oo 17 (.nc (tt 16))), dl 2 (oo 18 (.fa 6 (tt 17))), dl 3 (oo 19 (.ld (tt 18))), dl 4 (oo 20 (.mv (tt 0))), dl 5 (oo 21 (.nc (tt 20))), dl 6 (oo 22 (.fa 7 (tt 21))), dl 7 (oo 23 (.ld (tt 22))), dl 8 (oo 24 (.bin .eql (tt 19) (tt 23)))]
abbrev c_spec_l18Search_run_3 : List GOp := [oo 25 (.mv (tt 0)), oo 26 (.nc (tt 25)), oo 27 (.fa 8 (tt 26)), on (.st 1 (tt 27) (cb  true))]
abbrev c_spec_l18Search_run_4 : List GOp := [oo 4 (.mv (cb  false))]
abbrev c_spec_l18Search_run_5 : List GOp := [oo 28 (.mv (tt 0)), oo 29 (.nc (tt 28)), oo 30 (.fa 6 (tt 29)), oo 31 (.ld (tt 30)), oo 32 (.bin .add (tt 31) (ci 1)), oo 33 (.nc (tt 28)), oo 34 (.fa 6 (tt 33)), on (.st 1 (tt 34) (tt 32))]
abbrev c_spec_l18Search_run_6 : List GOp := [oo 35 (.mv (tt 0)), oo 36 (.call (ff 211) [tt 35]), oo 4 (.mv (tt 36))]
abbrev c_spec_l18Search_run_7 : List GOp := [oo 37 (.mv (tt 1)), oo 5 (.mv (tt 37))]
abbrev c_spec_l18Search_run_8 : List GOp := [oo 38 (.mv (tt 5)), oo 39 (.mv (tt 0)), oo 40 (.nc (tt 39)), oo 41 (.fa 0 (tt 40)), oo 42 (.ld (tt 41)), oo 43 (.nc (tt 42)), oo 44 (.fa 0 (tt 43)), oo 45 (.ld (tt 44)), oo 46 (.bin .lss (tt 38) (tt 45)), oo 47 (.mv (tt 46)), og 48 47 true (.mv (tt 0)), og 49 47 true (.nc (tt 48)), og 50 47 true (.fa 8 (tt 49)), og 51 47 true (.ld (tt 50)), og 52 47 true (.un .not (tt 51)), oo 53 (.pick (tt 47) (tt 52) (cb  false))]
abbrev c_spec_l18Search_run_9 : List GOp := [oo 56 (.mv (tt 0)), oo 57 (.mv (tt 0)), oo 58 (.nc (tt 57)), oo 59 (.fa 5 (tt 58)), oo 60 (.ld (tt 59)), oo 61 (.mv (tt 5)), oo 62 (.bs 1 [tt 61]), oo 63 (.ap 1 8 [.int .i64 0] (tt 60) (tt 62)), oo 64 (.nc (tt 56)), oo 65 (.fa 5 (tt 64)), on (.st 1 (tt 65) (tt 63))]
abbrev c_spec_l18Search_run_10 : List GOp := [oo 66 (.mv (tt 0)), oo 67 (.mv (tt 5)), oo 68 (.bin .add (tt 67) (ci 1)), oo 69 (.call (ff 126) [tt 66, tt 68])]
abbrev c_spec_l18Search_run_11 : List GOp := [oo 4 (.mv (cb  true))]
abbrev c_spec_l18Search_run_12 : List DOp := [dl 0 (oo 70 (.mv (tt 0))), dl 1 (oo 71 (.mv (tt 0))), dl 2 (oo 72 (.nc (tt 71))), dl 3 (oo 73 (.fa 5 (tt 72))), dl 4 (oo 74 (.ld (tt 73))), dl 5 (oo 75 (.mv (tt 0))), dl 6 (oo 76 (.nc (tt 75))), dl 7 (oo 77 (.fa 5 (tt 76))), dl 8 (oo 78 (.ld (tt 77))), dl 9 (oo 79 (.len (tt 78))), dl 10 (oo 80 (.bin .sub (tt 79) (ci 1))), dl 11 (oo 81 (.sl 1 (tt 74) none (some (tt 80)))), dl 12 (oo 82 (.nc (tt 70))), dl 13 (oo 83 (.fa 5 (tt 82))), dh 14 [] (on (.st 1 (tt 83) (tt 81)))]
abbrev c_spec_l18Search_run_13 : List GOp := [oo 54 (.mv (tt 5)), oo 55 (.bin .add (tt 54) (ci 1)), oo 5 (.mv (tt 55))]
abbrev c_spec_l18Search_run_l0 : GCode := .seq (.seq (.reg c_spec_l18Search_run_8) (.cond (tt 53) (.skip) (.exit 0))) (.seq (.blk 1 (.seq (.reg c_spec_l18Search_run_9) (.seq (.seq (.reg c_spec_l18Search_run_10) (.cond (tt 69) (.seq (.reg c_spec_l18Search_run_11) (.ret)) (.skip))) (.dreg c_spec_l18Search_run_12)))) (.reg c_spec_l18Search_run_13))
abbrev c_spec_l18Search_run_15 : List GOp := [oo 4 (.mv (cb  false))]
abbrev c_spec_l18Search_run : GCode := .seq (.reg c_spec_l18Search_run_0) (.seq (.seq (.dreg c_spec_l18Search_run_1) (.cond (tt 15) (.seq (.seq (.dreg c_spec_l18Search_run_2) (.cond (tt 24) (.seq (.reg c_spec_l18Search_run_3) (.seq (.reg c_spec_l18Search_run_4) (.ret))) (.skip))) (.seq (.reg c_spec_l18Search_run_5) (.seq (.reg c_spec_l18Search_run_6) (.ret)))) (.skip))) (.seq (.seq (.reg c_spec_l18Search_run_7) (.blk 0 (.loop c_spec_l18Search_run_l0))) (.seq (.reg c_spec_l18Search_run_15) (.ret))))
theorem c_spec_l18Search_run_d : decFn Try.prog Try.f126 = some (84, [.t 4], c_spec_l18Search_run) := by kernel_rfl
theorem c_spec_l18Search_run_i {args : List Value} {G : GH} {K : Value → GH → Prop} (hn : args.length ≤ 84) (h : gW Try.prog c_spec_l18Search_run (RetK [.t 4] K) (T0 args) G) : GC Try.prog 126 args G K := GC_intro mixed Try.func126 c_spec_l18Search_run_d hn h
abbrev c_spec_l18Search_wins_0 : List GOp := [oo 2 (.mv (cb  false))]
abbrev c_spec_l18Search_wins_1 : List GOp := [oo 8 (.mv (tt 0)), oo 9 (.nc (tt 8)), oo 10 (.fa 1 (tt 9)), oo 11 (.ld (tt 10)), oo 12 (.call (ff 109) [tt 11]), oo 3 (.mv (tt 12))]
abbrev c_spec_l18Search_wins_2 : List GOp := [oo 4 (.mv (ci 0))]
abbrev c_spec_l18Search_wins_3 : List GOp := [oo 13 (.mv (tt 4)), oo 14 (.mv (tt 0)), oo 15 (.nc (tt 14)), oo 16 (.fa 5 (tt 15)), oo 17 (.ld (tt 16)), oo 18 (.len (tt 17)), oo 19 (.bin .lss (tt 13) (tt 18))]
abbrev c_spec_l18Search_wins_4 : List DOp := [dl 0 (oo 22 (.mv (tt 3))), dl 1 (oo 23 (.mv (tt 0))), dl 2 (oo 24 (.nc (tt 23))), dl 3 (oo 25 (.fa 5 (tt 24))), dl 4 (oo 26 (.ld (tt 25))), dl 5 (oo 27 (.mv (tt 4))), dl 6 (oo 28 (.ia 1 (tt 26) (tt 27))), dl 7 (oo 29 (.ld (tt 28))), dl 8 (oo 30 (.mv (tt 0))), dl 9 (oo 31 (.nc (tt 30))), dl 10 (oo 32 (.fa 3 (tt 31))), dl 11 (oo 33 (.ld (tt 32))), dl 12 (oo 34 (.ia 1 (tt 22) (tt 29))), dh 13 [] (on (.st 1 (tt 34) (tt 33)))]
abbrev c_spec_l18Search_wins_5 : List GOp := [oo 20 (.mv (tt 4)), oo 21 (.bin .add (tt 20) (ci 1)), oo 4 (.mv (tt 21))]
abbrev c_spec_l18Search_wins_l0 : GCode := .seq (.seq (.reg c_spec_l18Search_wins_3) (.cond (tt 19) (.skip) (.exit 0))) (.seq (.blk 1 (.dreg c_spec_l18Search_wins_4)) (.reg c_spec_l18Search_wins_5))
abbrev c_spec_l18Search_wins_7 : List DOp := [dl 0 (oo 36 (.mv (tt 0))), dl 1 (oo 37 (.nc (tt 36))), dl 2 (oo 38 (.fa 0 (tt 37))), dl 3 (oo 39 (.ld (tt 38))), dl 4 (oo 40 (.mv (tt 3))), dl 5 (oo 41 (.mv (tt 0))), dl 6 (oo 42 (.nc (tt 41))), dl 7 (oo 43 (.fa 2 (tt 42))), dl 8 (oo 44 (.ld (tt 43))), dl 9 (oo 45 (.mv (tt 0))), dl 10 (oo 46 (.nc (tt 45))), dl 11 (oo 47 (.fa 5 (tt 46))), dl 12 (oo 48 (.ld (tt 47))), dh 13 [] (oo 49 (.call (ff 124) [tt 39, tt 40, tt 44, tt 48])), dl 14 (oo 35 (.mv (tt 49))), dl 15 (oo 50 (.ex 0 (tt 35))), dl 16 (oo 51 (.ex 1 (tt 35))), dl 17 (oo 5 (.mv (tt 50))), dl 18 (oo 6 (.mv (tt 51)))]
abbrev c_spec_l18Search_wins_8 : List GOp := [oo 7 (.mv (ci 0))]
abbrev c_spec_l18Search_wins_9 : List GOp := [oo 52 (.mv (tt 7)), oo 53 (.mv (tt 6)), oo 54 (.len (tt 53)), oo 55 (.bin .lss (tt 52) (tt 54))]
abbrev c_spec_l18Search_wins_10 : List DOp := [dl 0 (oo 58 (.mv (tt 6))), dl 1 (oo 59 (.mv (tt 7))), dl 2 (oo 60 (.ia 1 (tt 58) (tt 59))), dl 3 (oo 61 (.ld (tt 60))), dl 4 (oo 62 (.mv (tt 0))), dl 5 (oo 63 (.nc (tt 62))), dl 6 (oo 64 (.fa 3 (tt 63))), dl 7 (oo 65 (.ld (tt 64))), dl 8 (oo 66 (.bin .neq (tt 61) (tt 65)))]
abbrev c_spec_l18Search_wins_11 : List GOp := [oo 2 (.mv (cb  false))]
abbrev c_spec_l18Search_wins_12 : List GOp := [oo 56 (.mv (tt 7)), oo 57 (.bin .add (tt 56) (ci 1)), oo 7 (.mv (tt 57))]
abbrev c_spec_l18Search_wins_l1 : GCode := .seq (.seq (.reg c_spec_l18Search_wins_9) (.cond (tt 55) (.skip) (.exit 2))) (.seq (.blk 3 (.seq (.dreg c_spec_l18Search_wins_10) (.cond (tt 66) (.seq (.reg c_spec_l18Search_wins_11) (.ret)) (.skip)))) (.reg c_spec_l18Search_wins_12))
abbrev c_spec_l18Search_wins_14 : List GOp := [oo 67 (.mv (tt 5)), oo 68 (.bin .geq (tt 67) (ci 0)), oo 2 (.mv (tt 68))]
abbrev c_spec_l18Search_wins : GCode := .seq (.reg c_spec_l18Search_wins_0) (.seq (.reg c_spec_l18Search_wins_1) (.seq (.seq (.reg c_spec_l18Search_wins_2) (.blk 0 (.loop c_spec_l18Search_wins_l0))) (.seq (.dreg c_spec_l18Search_wins_7) (.seq (.seq (.reg c_spec_l18Search_wins_8) (.blk 2 (.loop c_spec_l18Search_wins_l1))) (.seq (.reg c_spec_l18Search_wins_14) (.ret))))))
theorem c_spec_l18Search_wins_d : decFn Try.prog Try.f211 = some (69, [.t 2], c_spec_l18Search_wins) := by kernel_rfl
theorem c_spec_l18Search_wins_i {args : List Value} {G : GH} {K : Value → GH → Prop} (hn : args.length ≤ 69) (h : gW Try.prog c_spec_l18Search_wins (RetK [.t 2] K) (T0 args) G) : GC Try.prog 211 args G K := GC_intro mixed Try.func211 c_spec_l18Search_wins_d hn h
abbrev c_spec_l18Step_0 : List GOp := [oo 10 (.mv (.const (.slice none 0 0)))]
abbrev c_spec_l18Step_1 : List GOp := [oo 19 (.bs 1 []), oo 11 (.mv (tt 19))]
abbrev c_spec_l18Step_2 : List GOp := [oo 20 (.bs 1 []), oo 12 (.mv (tt 20))]
abbrev c_spec_l18Step_3 : List GOp := [oo 13 (.mv (ci 0))]
abbrev c_spec_l18Step_4 : List GOp := [oo 21 (.mv (tt 13)), oo 22 (.mv (tt 1)), oo 23 (.len (tt 22)), oo 24 (.bin .lss (tt 21) (tt 23))]
abbrev c_spec_l18Step_5 : List GOp := [oo 27 (.mv (tt 11)), oo 28 (.mv (tt 2)), oo 29 (.mv (tt 1)), oo 30 (.mv (tt 13)), oo 31 (.ia 1 (tt 29) (tt 30)), oo 32 (.ld (tt 31)), oo 33 (.bin .mul (tt 28) (tt 32)), oo 34 (.bs 1 [tt 33]), oo 35 (.ap 1 8 [.int .i64 0] (tt 27) (tt 34)), oo 11 (.mv (tt 35))]
abbrev c_spec_l18Step_6 : List GOp := [oo 36 (.mv (tt 12)), oo 37 (.mv (tt 2)), oo 38 (.bs 1 [tt 37]), oo 39 (.ap 1 8 [.int .i64 0] (tt 36) (tt 38)), oo 12 (.mv (tt 39))]
abbrev c_spec_l18Step_7 : List GOp := [oo 25 (.mv (tt 13)), oo 26 (.bin .add (tt 25) (ci 1)), oo 13 (.mv (tt 26))]
abbrev c_spec_l18Step_l0 : GCode := .seq (.seq (.reg c_spec_l18Step_4) (.cond (tt 24) (.skip) (.exit 0))) (.seq (.blk 1 (.seq (.reg c_spec_l18Step_5) (.reg c_spec_l18Step_6))) (.reg c_spec_l18Step_7))
abbrev c_spec_l18Step_9 : List GOp := [oo 14 (.mv (ci 0))]
abbrev c_spec_l18Step_10 : List GOp := [oo 40 (.mv (tt 14)), oo 41 (.mv (tt 0)), oo 42 (.nc (tt 41)), oo 43 (.fa 1 (tt 42)), oo 44 (.ld (tt 43)), oo 45 (.len (tt 44)), oo 46 (.bin .lss (tt 40) (tt 45))]
abbrev c_spec_l18Step_11 : List GOp := [oo 49 (.mv (tt 0)), oo 50 (.nc (tt 49)), oo 51 (.fa 1 (tt 50)), oo 52 (.ld (tt 51)), oo 53 (.mv (tt 14)), oo 54 (.ia 3 (tt 52) (tt 53)), oo 55 (.ldn 3 (tt 54)), oo 15 (.al [.int .i64 0, .int .i64 0, .int .i64 0]), on (.st 3 (tt 15) (tt 55))]
abbrev c_spec_l18Step_12 : List DOp := [dl 0 (oo 56 (.mv (tt 1))), dl 1 (oo 57 (.fa 0 (tt 15))), dl 2 (oo 58 (.ld (tt 57))), dl 3 (oo 59 (.ia 1 (tt 56) (tt 58))), dl 4 (oo 60 (.ld (tt 59))), dl 5 (oo 61 (.mv (tt 1))), dl 6 (oo 62 (.fa 1 (tt 15))), dl 7 (oo 63 (.ld (tt 62))), dl 8 (oo 64 (.ia 1 (tt 61) (tt 63))), dl 9 (oo 65 (.ld (tt 64))), dl 10 (oo 66 (.bin .sub (tt 60) (tt 65))), dl 11 (oo 67 (.mv (tt 1))), dl 12 (oo 68 (.fa 1 (tt 15))), dl 13 (oo 69 (.ld (tt 68))), dl 14 (oo 70 (.ia 1 (tt 67) (tt 69))), dl 15 (oo 71 (.ld (tt 70))), dl 16 (oo 72 (.mv (tt 1))), dl 17 (oo 73 (.fa 0 (tt 15))), dl 18 (oo 74 (.ld (tt 73))), dl 19 (oo 75 (.ia 1 (tt 72) (tt 74))), dl 20 (oo 76 (.ld (tt 75))), dl 21 (oo 77 (.bin .sub (tt 71) (tt 76))), dh 22 [20, 18, 15, 13, 9, 7, 4, 2] (oo 78 (.call (ff 113) [tt 66, tt 77])), dl 23 (oo 16 (.mv (tt 78)))]
abbrev c_spec_l18Step_13 : List GOp := [oo 79 (.mv (tt 3)), oo 80 (.bin .geq (tt 79) (ci 0)), oo 81 (.mv (tt 80)), og 82 81 true (.mv (tt 16)), og 83 81 true (.mv (tt 3)), og 84 81 true (.bin .gtr (tt 82) (tt 83)), oo 85 (.pick (tt 81) (tt 84) (cb  false))]
abbrev c_spec_l18Step_14 : List DOp := [dl 0 (oo 86 (.mv (tt 11))), dl 1 (oo 87 (.fa 0 (tt 15))), dl 2 (oo 88 (.ld (tt 87))), dl 3 (oo 89 (.ia 1 (tt 86) (tt 88))), dl 4 (oo 90 (.ld (tt 89))), dl 5 (oo 91 (.fa 2 (tt 15))), dl 6 (oo 92 (.ld (tt 91))), dl 7 (oo 93 (.mv (tt 1))), dl 8 (oo 94 (.fa 1 (tt 15))), dl 9 (oo 95 (.ld (tt 94))), dl 10 (oo 96 (.ia 1 (tt 93) (tt 95))), dl 11 (oo 97 (.ld (tt 96))), dl 12 (oo 98 (.bin .mul (tt 92) (tt 97))), dl 13 (oo 99 (.bin .add (tt 90) (tt 98))), dl 14 (oo 100 (.ia 1 (tt 86) (tt 88))), dh 15 [] (on (.st 1 (tt 100) (tt 99)))]
abbrev c_spec_l18Step_15 : List DOp := [dl 0 (oo 101 (.mv (tt 11))), dl 1 (oo 102 (.fa 1 (tt 15))), dl 2 (oo 103 (.ld (tt 102))), dl 3 (oo 104 (.ia 1 (tt 101) (tt 103))), dl 4 (oo 105 (.ld (tt 104))), dl 5 (oo 106 (.fa 2 (tt 15))), dl 6 (oo 107 (.ld (tt 106))), dl 7 (oo 108 (.mv (tt 1))), dl 8 (oo 109 (.fa 0 (tt 15))), dl 9 (oo 110 (.ld (tt 109))), dl 10 (oo 111 (.ia 1 (tt 108) (tt 110))), dl 11 (oo 112 (.ld (tt 111))), dl 12 (oo 113 (.bin .mul (tt 107) (tt 112))), dl 13 (oo 114 (.bin .add (tt 105) (tt 113))), dl 14 (oo 115 (.ia 1 (tt 101) (tt 103))), dh 15 [] (on (.st 1 (tt 115) (tt 114)))]
abbrev c_spec_l18Step_16 : List DOp := [dl 0 (oo 116 (.mv (tt 12))), dl 1 (oo 117 (.fa 0 (tt 15))), dl 2 (oo 118 (.ld (tt 117))), dl 3 (oo 119 (.ia 1 (tt 116) (tt 118))), dl 4 (oo 120 (.ld (tt 119))), dl 5 (oo 121 (.fa 2 (tt 15))), dl 6 (oo 122 (.ld (tt 121))), dl 7 (oo 123 (.bin .add (tt 120) (tt 122))), dl 8 (oo 124 (.ia 1 (tt 116) (tt 118))), dh 9 [] (on (.st 1 (tt 124) (tt 123)))]
abbrev c_spec_l18Step_17 : List DOp := [dl 0 (oo 125 (.mv (tt 12))), dl 1 (oo 126 (.fa 1 (tt 15))), dl 2 (oo 127 (.ld (tt 126))), dl 3 (oo 128 (.ia 1 (tt 125) (tt 127))), dl 4 (oo 129 (.ld (tt 128))), dl 5 (oo 130 (.fa 2 (tt 15))), dl 6 (oo 131 (.ld (tt 130))), dl 7 (oo 132 (.bin .add (tt 129) (tt 131))), dl 8 (oo 133 (.ia 1 (tt 125) (tt 127))), dh 9 [] (on (.st 1 (tt 133) (tt 132)))]
abbrev c_spec_l18Step_18 : List GOp := [oo 47 (.mv (tt 14)), oo 48 (.bin .add (tt 47) (ci 1)), oo 14 (.mv (tt 48))]
abbrev c_spec_l18Step_l1 : GCode := .seq (.seq (.reg c_spec_l18Step_10) (.cond (tt 46) (.skip) (.exit 2))) (.seq (.blk 3 (.seq (.reg c_spec_l18Step_11) (.seq (.dreg c_spec_l18Step_12) (.seq (.seq (.reg c_spec_l18Step_13) (.cond (tt 85) (.exit 3) (.skip))) (.seq (.dreg c_spec_l18Step_14) (.seq (.dreg c_spec_l18Step_15) (.seq (.dreg c_spec_l18Step_16) (.dreg c_spec_l18Step_17)))))))) (.reg c_spec_l18Step_18))
abbrev c_spec_l18Step_20 : List GOp := [oo 134 (.mv (tt 1)), oo 135 (.call (ff 109) [tt 134]), oo 17 (.mv (tt 135))]
abbrev c_spec_l18Step_21 : List GOp := [oo 18 (.mv (ci 0))]
abbrev c_spec_l18Step_22 : List GOp := [oo 136 (.mv (tt 18)), oo 137 (.mv (tt 1)), oo 138 (.len (tt 137)), oo 139 (.bin .lss (tt 136) (tt 138))]
abbrev c_spec_l18Step_23 : List GOp := [oo 142 (.mv (tt 12)), oo 143 (.mv (tt 18)), oo 144 (.ia 1 (tt 142) (tt 143)), oo 145 (.ld (tt 144)), oo 146 (.bin .gtr (tt 145) (ci 0)), oo 147 (.mv (tt 146)), og 148 147 true (.mv (tt 4)), og 149 147 true (.mv (tt 18)), og 150 147 true (.call (ff 134) [tt 148, tt 149]), og 151 147 true (.un .not (tt 150)), oo 152 (.pick (tt 147) (tt 151) (cb  false))]
abbrev c_spec_l18Step_24 : List DOp := [dl 0 (oo 153 (.mv (tt 17))), dl 1 (oo 154 (.mv (tt 18))), dl 2 (oo 155 (.mv (tt 11))), dl 3 (oo 156 (.mv (tt 18))), dl 4 (oo 157 (.ia 1 (tt 155) (tt 156))), dl 5 (oo 158 (.ld (tt 157))), dl 6 (oo 159 (.mv (tt 12))), dl 7 (oo 160 (.mv (tt 18))), dl 8 (oo 161 (.ia 1 (tt 159) (tt 160))), dl 9 (oo 162 (.ld (tt 161))), dh 10 [] (oo 163 (.call (ff 207) [tt 158, tt 162])), dl 11 (oo 164 (.ia 1 (tt 153) (tt 154))), dh 12 [] (on (.st 1 (tt 164) (tt 163)))]
abbrev c_spec_l18Step_25 : List GOp := [oo 140 (.mv (tt 18)), oo 141 (.bin .add (tt 140) (ci 1)), oo 18 (.mv (tt 141))]
abbrev c_spec_l18Step_l2 : GCode := .seq (.seq (.reg c_spec_l18Step_22) (.cond (tt 139) (.skip) (.exit 4))) (.seq (.blk 5 (.seq (.reg c_spec_l18Step_23) (.cond (tt 152) (.dreg c_spec_l18Step_24) (.skip)))) (.reg c_spec_l18Step_25))
abbrev c_spec_l18Step_27 : List GOp := [oo 165 (.mv (tt 17)), oo 10 (.mv (tt 165))]
abbrev c_spec_l18Step : GCode := .seq (.reg c_spec_l18Step_0) (.seq (.reg c_spec_l18Step_1) (.seq (.reg c_spec_l18Step_2) (.seq (.seq (.reg c_spec_l18Step_3) (.blk 0 (.loop c_spec_l18Step_l0))) (.seq (.seq (.reg c_spec_l18Step_9) (.blk 2 (.loop c_spec_l18Step_l1))) (.seq (.reg c_spec_l18Step_20) (.seq (.seq (.reg c_spec_l18Step_21) (.blk 4 (.loop c_spec_l18Step_l2))) (.seq (.reg c_spec_l18Step_27) (.ret))))))))
theorem c_spec_l18Step_d : decFn Try.prog Try.f118 = some (166, [.t 10], c_spec_l18Step) := by kernel_rfl
theorem c_spec_l18Step_i {args : List Value} {G : GH} {K : Value → GH → Prop} (hn : args.length ≤ 166) (h : gW Try.prog c_spec_l18Step (RetK [.t 10] K) (T0 args) G) : GC Try.prog 118 args G K := GC_intro mixed Try.func118 c_spec_l18Step_d hn h

end Go.Proofs.Ytmlkgpoakkgjbaa.Gh
