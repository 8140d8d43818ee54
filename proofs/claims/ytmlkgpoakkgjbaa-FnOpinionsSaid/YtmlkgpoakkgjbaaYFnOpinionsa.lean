/- Code trees that the law FnOpinions reaches: each is what the decoding gives (checked by the kernel). -/
import Derived.Test.YtmlkgpoakkgjbaaC0
import Derived.Test.YtmlkgpoakkgjbaaFm
import Derived.Test.YtmlkgpoakkgjbaaFz
namespace Go.Proofs.Ytmlkgpoakkgjbaa.Gh
open Go Go.RowKit Go.Proofs
set_option linter.unusedVariables false
set_option linter.unusedSimpArgs false
set_option maxHeartbeats 4000000

abbrev c_cmp_Compare_int64_0 : List GOp := [oo 4 (.mv (ci 0))]
abbrev c_cmp_Compare_int64_1 : List GOp := [oo 7 (.mv (tt 0)), oo 8 (.call (ff 248) [tt 7]), oo 5 (.mv (tt 8))]
abbrev c_cmp_Compare_int64_2 : List GOp := [oo 9 (.mv (tt 1)), oo 10 (.call (ff 248) [tt 9]), oo 6 (.mv (tt 10))]
abbrev c_cmp_Compare_int64_3 : List GOp := [oo 11 (.mv (tt 5))]
abbrev c_cmp_Compare_int64_4 : List GOp := [oo 12 (.mv (tt 6))]
abbrev c_cmp_Compare_int64_5 : List GOp := [oo 4 (.mv (ci 0))]
abbrev c_cmp_Compare_int64_6 : List GOp := [oo 4 (.mv (ci (-1)))]
abbrev c_cmp_Compare_int64_7 : List GOp := [oo 13 (.mv (tt 6))]
abbrev c_cmp_Compare_int64_8 : List GOp := [oo 4 (.mv (ci 1))]
abbrev c_cmp_Compare_int64_9 : List GOp := [oo 14 (.mv (tt 0)), oo 15 (.mv (tt 1)), oo 16 (.bin .lss (tt 14) (tt 15))]
abbrev c_cmp_Compare_int64_10 : List GOp := [oo 4 (.mv (ci (-1)))]
abbrev c_cmp_Compare_int64_11 : List GOp := [oo 17 (.mv (tt 0)), oo 18 (.mv (tt 1)), oo 19 (.bin .gtr (tt 17) (tt 18))]
abbrev c_cmp_Compare_int64_12 : List GOp := [oo 4 (.mv (ci 1))]
abbrev c_cmp_Compare_int64_13 : List GOp := [oo 4 (.mv (ci 0))]
abbrev c_cmp_Compare_int64 : GCode := .seq (.reg c_cmp_Compare_int64_0) (.seq (.reg c_cmp_Compare_int64_1) (.seq (.reg c_cmp_Compare_int64_2) (.seq (.seq (.reg c_cmp_Compare_int64_3) (.cond (tt 11) (.seq (.seq (.reg c_cmp_Compare_int64_4) (.cond (tt 12) (.seq (.reg c_cmp_Compare_int64_5) (.ret)) (.skip))) (.seq (.reg c_cmp_Compare_int64_6) (.ret))) (.skip))) (.seq (.seq (.reg c_cmp_Compare_int64_7) (.cond (tt 13) (.seq (.reg c_cmp_Compare_int64_8) (.ret)) (.skip))) (.seq (.seq (.reg c_cmp_Compare_int64_9) (.cond (tt 16) (.seq (.reg c_cmp_Compare_int64_10) (.ret)) (.skip))) (.seq (.seq (.reg c_cmp_Compare_int64_11) (.cond (tt 19) (.seq (.reg c_cmp_Compare_int64_12) (.ret)) (.skip))) (.seq (.reg c_cmp_Compare_int64_13) (.ret))))))))
theorem c_cmp_Compare_int64_d : decFn Try.prog Try.f218 = some (20, [.t 4], c_cmp_Compare_int64) := by kernel_rfl
theorem c_cmp_Compare_int64_i {args : List Value} {G : GH} {K : Value → GH → Prop} (hn : args.length ≤ 20) (h : gW Try.prog c_cmp_Compare_int64 (RetK [.t 4] K) (T0 args) G) : GC Try.prog 218 args G K := GC_intro mixed Try.func218 c_cmp_Compare_int64_d hn h
abbrev c_cmp_Or_int_0 : List GOp := [oo 2 (.mv (ci 0))]
abbrev c_cmp_Or_int_1 : List GOp := [oo 3 (.mv (ci 0))]
abbrev c_cmp_Or_int_2 : List GOp := [oo 6 (.mv (tt 0)), oo 7 (.len (tt 6)), oo 8 (.mv (ci 0))]
abbrev c_cmp_Or_int_3 : List GOp := [oo 9 (.bin .lss (tt 8) (tt 7))]
abbrev c_cmp_Or_int_4 : List GOp := [oo 10 (.ia 1 (tt 6) (tt 8)), oo 11 (.ld (tt 10)), oo 5 (.mv (tt 11))]
abbrev c_cmp_Or_int_5 : List GOp := [oo 12 (.mv (tt 5)), oo 13 (.mv (tt 3)), oo 14 (.bin .neq (tt 12) (tt 13))]
abbrev c_cmp_Or_int_6 : List GOp := [oo 15 (.mv (tt 5)), oo 2 (.mv (tt 15))]
abbrev c_cmp_Or_int_7 : List GOp := [oo 16 (.bin .add (tt 8) (ci 1)), oo 8 (.mv (tt 16))]
abbrev c_cmp_Or_int_l0 : GCode := .seq (.reg c_cmp_Or_int_3) (.seq (.cond (tt 9) (.skip) (.exit 0)) (.seq (.blk 1 (.seq (.reg c_cmp_Or_int_4) (.seq (.reg c_cmp_Or_int_5) (.cond (tt 14) (.seq (.reg c_cmp_Or_int_6) (.ret)) (.skip))))) (.reg c_cmp_Or_int_7)))
abbrev c_cmp_Or_int_9 : List GOp := [oo 17 (.mv (tt 3)), oo 2 (.mv (tt 17))]
abbrev c_cmp_Or_int : GCode := .seq (.reg c_cmp_Or_int_0) (.seq (.reg c_cmp_Or_int_1) (.seq (.seq (.reg c_cmp_Or_int_2) (.blk 0 (.loop c_cmp_Or_int_l0))) (.seq (.reg c_cmp_Or_int_9) (.ret))))
theorem c_cmp_Or_int_d : decFn Try.prog Try.f241 = some (18, [.t 2], c_cmp_Or_int) := by kernel_rfl
theorem c_cmp_Or_int_i {args : List Value} {G : GH} {K : Value → GH → Prop} (hn : args.length ≤ 18) (h : gW Try.prog c_cmp_Or_int (RetK [.t 2] K) (T0 args) G) : GC Try.prog 241 args G K := GC_intro mixed Try.func241 c_cmp_Or_int_d hn h
abbrev c_cmp_isNaN_int64_0 : List GOp := [oo 2 (.mv (cb  false))]
abbrev c_cmp_isNaN_int64_1 : List GOp := [oo 3 (.mv (tt 0)), oo 4 (.mv (tt 0)), oo 5 (.bin .neq (tt 3) (tt 4)), oo 2 (.mv (tt 5))]
abbrev c_cmp_isNaN_int64 : GCode := .seq (.reg c_cmp_isNaN_int64_0) (.seq (.reg c_cmp_isNaN_int64_1) (.ret))
theorem c_cmp_isNaN_int64_d : decFn Try.prog Try.f248 = some (6, [.t 2], c_cmp_isNaN_int64) := by kernel_rfl
theorem c_cmp_isNaN_int64_i {args : List Value} {G : GH} {K : Value → GH → Prop} (hn : args.length ≤ 6) (h : gW Try.prog c_cmp_isNaN_int64 (RetK [.t 2] K) (T0 args) G) : GC Try.prog 248 args G K := GC_intro mixed Try.func248 c_cmp_isNaN_int64_d hn h
abbrev c_impl_AverageStep_0 : List GOp := [oo 4 (.bx (tt 0)), oo 8 (.mv (.const (.slice none 0 0))), oo 9 (.mv (ci 0))]
abbrev c_impl_AverageStep_1 : List GOp := [oo 10 (.ldn 2 (tt 4)), oo 11 (.mv (tt 1)), oo 12 (.mv (tt 2)), oo 13 (.mv (tt 3)), oo 14 (.call (ff 47) [tt 10, tt 11, tt 12, tt 13, (ci 1)]), oo 15 (.ex 0 (tt 14)), oo 16 (.ex 1 (tt 14)), oo 8 (.mv (tt 15)), oo 9 (.mv (tt 16))]
abbrev c_impl_AverageStep : GCode := .seq (.reg c_impl_AverageStep_0) (.seq (.reg c_impl_AverageStep_1) (.ret))
theorem c_impl_AverageStep_d : decFn Try.prog Try.f45 = some (17, [.t 8, .t 9], c_impl_AverageStep) := by kernel_rfl
theorem c_impl_AverageStep_i {args : List Value} {G : GH} {K : Value → GH → Prop} (hn : args.length ≤ 17) (h : gW Try.prog c_impl_AverageStep (RetK [.t 8, .t 9] K) (T0 args) G) : GC Try.prog 45 args G K := GC_intro mixed Try.func45 c_impl_AverageStep_d hn h
abbrev c_impl_FewestFixed_0 : List GOp := [oo 5 (.bx (tt 0)), oo 10 (.mv (.const (.slice none 0 0))), oo 11 (.mv (ci 0))]
abbrev c_impl_FewestFixed_1 : List GOp := [oo 17 (.ldn 2 (tt 5)), oo 18 (.mv (tt 1)), oo 19 (.mv (tt 2)), oo 20 (.call (ff 119) [tt 17, tt 18, tt 19, (.const (.slice none 0 0))]), oo 12 (.mv (tt 20))]
abbrev c_impl_FewestFixed_2 : List GOp := [oo 21 (.mv (tt 12)), oo 22 (.bin .neq (tt 21) (ci 0))]
abbrev c_impl_FewestFixed_3 : List GOp := [oo 23 (.mv (tt 12)), oo 10 (.mv (.const (.slice none 0 0))), oo 11 (.mv (tt 23))]
abbrev c_impl_FewestFixed_4 : List GOp := [oo 24 (.mv (tt 3)), oo 25 (.call (ff 122) [tt 24, (ci (-1000000)), (ci 1000000)]), oo 26 (.un .not (tt 25)), oo 27 (.mv (tt 26)), og 28 27 false (.mv (tt 4)), og 29 27 false (.call (ff 127) [tt 28]), og 30 27 false (.un .not (tt 29)), oo 31 (.pick (tt 27) (cb  true) (tt 30))]
abbrev c_impl_FewestFixed_5 : List GOp := [oo 10 (.mv (.const (.slice none 0 0))), oo 11 (.mv (ci 2))]
abbrev c_impl_FewestFixed_6 : List GOp := [oo 32 (.mv (tt 4)), oo 33 (.bld [.int .i64 0, .bool false] [(0, 1, (tt 32))]), oo 13 (.al [.int .i64 0, .bool false]), on (.st 2 (tt 13) (tt 33))]
abbrev c_impl_FewestFixed_7 : List GOp := [oo 34 (.fa 0 (tt 5)), oo 35 (.ld (tt 34)), oo 36 (.bin .add (tt 35) (ci 1)), oo 37 (.mv (ci 0))]
abbrev c_impl_FewestFixed_8 : List GOp := [oo 38 (.bin .lss (tt 37) (tt 36))]
abbrev c_impl_FewestFixed_9 : List GOp := [oo 39 (.mv (tt 37)), oo 14 (.mv (tt 39))]
abbrev c_impl_FewestFixed_10 : List GOp := [oo 40 (.mv (tt 14)), oo 41 (.call (ff 128) [tt 40]), oo 15 (.mv (tt 41)), oo 16 (.mv (cb  true))]
abbrev c_impl_FewestFixed_11 : List GOp := [oo 42 (.mv (tt 16))]
abbrev c_impl_FewestFixed_12 : List GOp := [oo 43 (.call (ff 129) [tt 13]), oo 44 (.un .not (tt 43))]
abbrev c_impl_FewestFixed_13 : List GOp := [oo 10 (.mv (.const (.slice none 0 0))), oo 11 (.mv (ci 5))]
abbrev c_impl_FewestFixed_14 : List GOp := [oo 45 (.ldn 2 (tt 5)), oo 46 (.mv (tt 1)), oo 47 (.mv (tt 2)), oo 48 (.mv (tt 3)), oo 49 (.mv (tt 15)), oo 50 (.call (ff 130) [tt 45, tt 46, tt 47, tt 48, tt 49])]
abbrev c_impl_FewestFixed_15 : List GOp := [oo 51 (.mv (tt 15)), oo 10 (.mv (tt 51)), oo 11 (.mv (ci 0))]
abbrev c_impl_FewestFixed_16 : List GOp := [oo 53 (.mv (tt 15)), oo 54 (.fa 0 (tt 5)), oo 55 (.ld (tt 54)), oo 56 (.call (ff 131) [tt 53, tt 55]), oo 52 (.mv (tt 56)), oo 57 (.ex 0 (tt 52)), oo 58 (.ex 1 (tt 52)), oo 15 (.mv (tt 57)), oo 16 (.mv (tt 58))]
abbrev c_impl_FewestFixed_l0 : GCode := .seq (.seq (.reg c_impl_FewestFixed_11) (.cond (tt 42) (.skip) (.exit 2))) (.blk 3 (.seq (.seq (.reg c_impl_FewestFixed_12) (.cond (tt 44) (.seq (.reg c_impl_FewestFixed_13) (.ret)) (.skip))) (.seq (.seq (.reg c_impl_FewestFixed_14) (.cond (tt 50) (.seq (.reg c_impl_FewestFixed_15) (.ret)) (.skip))) (.reg c_impl_FewestFixed_16))))
abbrev c_impl_FewestFixed_18 : List GOp := [oo 59 (.bin .add (tt 37) (ci 1)), oo 37 (.mv (tt 59))]
abbrev c_impl_FewestFixed_l1 : GCode := .seq (.reg c_impl_FewestFixed_8) (.seq (.cond (tt 38) (.skip) (.exit 0)) (.seq (.blk 1 (.seq (.reg c_impl_FewestFixed_9) (.seq (.reg c_impl_FewestFixed_10) (.blk 2 (.loop c_impl_FewestFixed_l0))))) (.reg c_impl_FewestFixed_18)))
abbrev c_impl_FewestFixed_20 : List GOp := [oo 10 (.mv (.const (.slice none 0 0))), oo 11 (.mv (ci 3))]
abbrev c_impl_FewestFixed : GCode := .seq (.reg c_impl_FewestFixed_0) (.seq (.seq (.reg c_impl_FewestFixed_1) (.seq (.reg c_impl_FewestFixed_2) (.cond (tt 22) (.seq (.reg c_impl_FewestFixed_3) (.ret)) (.skip)))) (.seq (.seq (.reg c_impl_FewestFixed_4) (.cond (tt 31) (.seq (.reg c_impl_FewestFixed_5) (.ret)) (.skip))) (.seq (.reg c_impl_FewestFixed_6) (.seq (.seq (.reg c_impl_FewestFixed_7) (.blk 0 (.loop c_impl_FewestFixed_l1))) (.seq (.reg c_impl_FewestFixed_20) (.ret))))))
theorem c_impl_FewestFixed_d : decFn Try.prog Try.f51 = some (60, [.t 10, .t 11], c_impl_FewestFixed) := by kernel_rfl
theorem c_impl_FewestFixed_i {args : List Value} {G : GH} {K : Value → GH → Prop} (hn : args.length ≤ 60) (h : gW Try.prog c_impl_FewestFixed (RetK [.t 10, .t 11] K) (T0 args) G) : GC Try.prog 51 args G K := GC_intro mixed Try.func51 c_impl_FewestFixed_d hn h
abbrev c_impl_RoundsToRest_0 : List GOp := [oo 4 (.bx (tt 0)), oo 8 (.mv (ci 0)), oo 9 (.mv (.const (.slice none 0 0))), oo 10 (.mv (ci 0))]
abbrev c_impl_RoundsToRest_1 : List GOp := [oo 14 (.ldn 2 (tt 4)), oo 15 (.mv (tt 1)), oo 16 (.mv (tt 2)), oo 17 (.mv (tt 3)), oo 18 (.call (ff 119) [tt 14, tt 15, tt 16, tt 17]), oo 11 (.mv (tt 18))]
abbrev c_impl_RoundsToRest_2 : List GOp := [oo 19 (.mv (tt 11)), oo 20 (.bin .neq (tt 19) (ci 0))]
abbrev c_impl_RoundsToRest_3 : List GOp := [oo 21 (.mv (tt 11)), oo 8 (.mv (ci 0)), oo 9 (.mv (.const (.slice none 0 0))), oo 10 (.mv (tt 21))]
abbrev c_impl_RoundsToRest_4 : List GOp := [oo 23 (.ldn 2 (tt 4)), oo 24 (.mv (tt 1)), oo 25 (.mv (tt 2)), oo 26 (.mv (tt 3)), oo 27 (.call (ff 125) [tt 23, tt 24, tt 25, tt 26]), oo 22 (.mv (tt 27)), oo 28 (.ex 0 (tt 22)), oo 29 (.ex 1 (tt 22)), oo 12 (.mv (tt 28)), oo 13 (.mv (tt 29))]
abbrev c_impl_RoundsToRest_5 : List GOp := [oo 30 (.mv (tt 12)), oo 31 (.bin .lss (tt 30) (ci 0))]
abbrev c_impl_RoundsToRest_6 : List GOp := [oo 8 (.mv (ci 0)), oo 9 (.mv (.const (.slice none 0 0))), oo 10 (.mv (ci 3))]
abbrev c_impl_RoundsToRest_7 : List GOp := [oo 32 (.mv (tt 12)), oo 33 (.mv (tt 13)), oo 8 (.mv (tt 32)), oo 9 (.mv (tt 33)), oo 10 (.mv (ci 0))]
abbrev c_impl_RoundsToRest : GCode := .seq (.reg c_impl_RoundsToRest_0) (.seq (.seq (.reg c_impl_RoundsToRest_1) (.seq (.reg c_impl_RoundsToRest_2) (.cond (tt 20) (.seq (.reg c_impl_RoundsToRest_3) (.ret)) (.skip)))) (.seq (.reg c_impl_RoundsToRest_4) (.seq (.seq (.reg c_impl_RoundsToRest_5) (.cond (tt 31) (.seq (.reg c_impl_RoundsToRest_6) (.ret)) (.skip))) (.seq (.reg c_impl_RoundsToRest_7) (.ret)))))
theorem c_impl_RoundsToRest_d : decFn Try.prog Try.f49 = some (34, [.t 8, .t 9, .t 10], c_impl_RoundsToRest) := by kernel_rfl
theorem c_impl_RoundsToRest_i {args : List Value} {G : GH} {K : Value → GH → Prop} (hn : args.length ≤ 34) (h : gW Try.prog c_impl_RoundsToRest (RetK [.t 8, .t 9, .t 10] K) (T0 args) G) : GC Try.prog 49 args G K := GC_intro mixed Try.func49 c_impl_RoundsToRest_d hn h
abbrev c_impl_RunRounds_0 : List GOp := [oo 5 (.bx (tt 0)), oo 10 (.mv (.const (.slice none 0 0))), oo 11 (.mv (ci 0))]
abbrev c_impl_RunRounds_1 : List GOp := [oo 14 (.ldn 2 (tt 5)), oo 15 (.mv (tt 1)), oo 16 (.mv (tt 2)), oo 17 (.mv (tt 3)), oo 18 (.call (ff 119) [tt 14, tt 15, tt 16, tt 17]), oo 12 (.mv (tt 18))]
abbrev c_impl_RunRounds_2 : List GOp := [oo 19 (.mv (tt 12)), oo 20 (.bin .neq (tt 19) (ci 0))]
abbrev c_impl_RunRounds_3 : List GOp := [oo 21 (.mv (tt 12)), oo 10 (.mv (.const (.slice none 0 0))), oo 11 (.mv (tt 21))]
abbrev c_impl_RunRounds_4 : List GOp := [oo 22 (.mv (tt 4)), oo 23 (.call (ff 122) [tt 22, (ci 0), (ci 1000)]), oo 24 (.un .not (tt 23))]
abbrev c_impl_RunRounds_5 : List GOp := [oo 10 (.mv (.const (.slice none 0 0))), oo 11 (.mv (ci 2))]
abbrev c_impl_RunRounds_6 : List GOp := [oo 25 (.mv (tt 1)), oo 26 (.call (ff 123) [tt 25]), oo 13 (.mv (tt 26))]
abbrev c_impl_RunRounds_7 : List GOp := [oo 27 (.mv (tt 4)), oo 28 (.mv (ci 0))]
abbrev c_impl_RunRounds_8 : List GOp := [oo 29 (.bin .lss (tt 28) (tt 27))]
abbrev c_impl_RunRounds_9 : List GOp := [oo 30 (.ldn 2 (tt 5)), oo 31 (.mv (tt 13)), oo 32 (.mv (tt 2)), oo 33 (.mv (tt 3)), oo 34 (.call (ff 120) [tt 30, tt 31, tt 32, (ci 2000000), tt 33]), oo 13 (.mv (tt 34))]
abbrev c_impl_RunRounds_10 : List GOp := [oo 35 (.bin .add (tt 28) (ci 1)), oo 28 (.mv (tt 35))]
abbrev c_impl_RunRounds_l0 : GCode := .seq (.reg c_impl_RunRounds_8) (.seq (.cond (tt 29) (.skip) (.exit 0)) (.seq (.blk 1 (.reg c_impl_RunRounds_9)) (.reg c_impl_RunRounds_10)))
abbrev c_impl_RunRounds_12 : List GOp := [oo 36 (.mv (tt 13)), oo 10 (.mv (tt 36)), oo 11 (.mv (ci 0))]
abbrev c_impl_RunRounds : GCode := .seq (.reg c_impl_RunRounds_0) (.seq (.seq (.reg c_impl_RunRounds_1) (.seq (.reg c_impl_RunRounds_2) (.cond (tt 20) (.seq (.reg c_impl_RunRounds_3) (.ret)) (.skip)))) (.seq (.seq (.reg c_impl_RunRounds_4) (.cond (tt 24) (.seq (.reg c_impl_RunRounds_5) (.ret)) (.skip))) (.seq (.reg c_impl_RunRounds_6) (.seq (.seq (.reg c_impl_RunRounds_7) (.blk 0 (.loop c_impl_RunRounds_l0))) (.seq (.reg c_impl_RunRounds_12) (.ret))))))
theorem c_impl_RunRounds_d : decFn Try.prog Try.f47 = some (37, [.t 10, .t 11], c_impl_RunRounds) := by kernel_rfl
theorem c_impl_RunRounds_i {args : List Value} {G : GH} {K : Value → GH → Prop} (hn : args.length ≤ 37) (h : gW Try.prog c_impl_RunRounds (RetK [.t 10, .t 11] K) (T0 args) G) : GC Try.prog 47 args G K := GC_intro mixed Try.func47 c_impl_RunRounds_d hn h
abbrev c_impl_SpreadOf_0 : List GOp := [oo 2 (.mv (ci 0)), oo 3 (.mv (ci 0))]
abbrev c_impl_SpreadOf_1 : List GOp := [oo 4 (.mv (tt 0)), oo 5 (.len (tt 4)), oo 6 (.bin .gtr (tt 5) (ci 12)), oo 7 (.mv (tt 6)), og 8 7 false (.mv (tt 0)), og 9 7 false (.call (ff 152) [tt 8, (ff 153)]), oo 10 (.pick (tt 7) (cb  true) (tt 9))]
abbrev c_impl_SpreadOf_2 : List GOp := [oo 2 (.mv (ci 0)), oo 3 (.mv (ci 2))]
abbrev c_impl_SpreadOf_3 : List GOp := [oo 11 (.mv (tt 0)), oo 12 (.len (tt 11)), oo 13 (.bin .eql (tt 12) (ci 0))]
abbrev c_impl_SpreadOf_4 : List GOp := [oo 2 (.mv (ci 0)), oo 3 (.mv (ci 0))]
abbrev c_impl_SpreadOf_5 : List GOp := [oo 14 (.mv (tt 0)), oo 15 (.call (ff 154) [tt 14]), oo 16 (.mv (tt 0)), oo 17 (.call (ff 155) [tt 16]), oo 18 (.bin .sub (tt 15) (tt 17)), oo 2 (.mv (tt 18)), oo 3 (.mv (ci 0))]
abbrev c_impl_SpreadOf : GCode := .seq (.reg c_impl_SpreadOf_0) (.seq (.seq (.reg c_impl_SpreadOf_1) (.cond (tt 10) (.seq (.reg c_impl_SpreadOf_2) (.ret)) (.skip))) (.seq (.seq (.reg c_impl_SpreadOf_3) (.cond (tt 13) (.seq (.reg c_impl_SpreadOf_4) (.ret)) (.skip))) (.seq (.reg c_impl_SpreadOf_5) (.ret))))
theorem c_impl_SpreadOf_d : decFn Try.prog Try.f72 = some (19, [.t 2, .t 3], c_impl_SpreadOf) := by kernel_rfl
theorem c_impl_SpreadOf_i {args : List Value} {G : GH} {K : Value → GH → Prop} (hn : args.length ≤ 19) (h : gW Try.prog c_impl_SpreadOf (RetK [.t 2, .t 3] K) (T0 args) G) : GC Try.prog 72 args G K := GC_intro mixed Try.func72 c_impl_SpreadOf_d hn h
abbrev c_impl_SpreadOf_fn1_0 : List GOp := [oo 2 (.mv (cb  false))]
abbrev c_impl_SpreadOf_fn1_1 : List GOp := [oo 3 (.mv (tt 0)), oo 4 (.call (ff 122) [tt 3, (ci (-1000000)), (ci 1000000)]), oo 5 (.un .not (tt 4)), oo 2 (.mv (tt 5))]
abbrev c_impl_SpreadOf_fn1 : GCode := .seq (.reg c_impl_SpreadOf_fn1_0) (.seq (.reg c_impl_SpreadOf_fn1_1) (.ret))
theorem c_impl_SpreadOf_fn1_d : decFn Try.prog Try.f153 = some (6, [.t 2], c_impl_SpreadOf_fn1) := by kernel_rfl
theorem c_impl_SpreadOf_fn1_i {args : List Value} {G : GH} {K : Value → GH → Prop} (hn : args.length ≤ 6) (h : gW Try.prog c_impl_SpreadOf_fn1 (RetK [.t 2] K) (T0 args) G) : GC Try.prog 153 args G K := GC_intro mixed Try.func153 c_impl_SpreadOf_fn1_d hn h
abbrev c_impl_ValidGraph_0 : List GOp := [oo 1 (.bx (tt 0)), oo 2 (.mv (cb  false))]
abbrev c_impl_ValidGraph_1 : List GOp := [oo 5 (.fa 1 (tt 1)), oo 6 (.ld (tt 5)), oo 7 (.len (tt 6)), oo 8 (.mv (ci 0))]
abbrev c_impl_ValidGraph_2 : List GOp := [oo 9 (.bin .lss (tt 8) (tt 7))]
abbrev c_impl_ValidGraph_3 : List GOp := [oo 10 (.mv (tt 8)), oo 11 (.ia 3 (tt 6) (tt 8)), oo 12 (.ldn 3 (tt 11)), oo 4 (.al [.int .i64 0, .int .i64 0, .int .i64 0]), oo 3 (.mv (tt 10)), on (.st 3 (tt 4) (tt 12))]
abbrev c_impl_ValidGraph_4 : List DOp := [dl 0 (oo 13 (.fa 0 (tt 4))), dl 1 (oo 14 (.ld (tt 13))), dl 2 (oo 15 (.bin .lss (tt 14) (ci 0))), dl 3 (oo 16 (.mv (tt 15))), dl 4 (og 17 16 false (.fa 0 (tt 4))), dl 5 (og 18 16 false (.ld (tt 17))), dl 6 (og 19 16 false (.fa 1 (tt 4))), dl 7 (og 20 16 false (.ld (tt 19))), dl 8 (og 21 16 false (.bin .geq (tt 18) (tt 20))), dl 9 (oo 22 (.pick (tt 16) (cb  true) (tt 21))), dl 10 (oo 23 (.mv (tt 22))), dl 11 (og 24 23 false (.fa 1 (tt 4))), dl 12 (og 25 23 false (.ld (tt 24))), dl 13 (og 26 23 false (.fa 0 (tt 1))), dl 14 (og 27 23 false (.ld (tt 26))), dl 15 (og 28 23 false (.bin .geq (tt 25) (tt 27))), dl 16 (oo 29 (.pick (tt 23) (cb  true) (tt 28))), dl 17 (oo 30 (.mv (tt 29))), dl 18 (og 31 30 false (.fa 2 (tt 4))), dl 19 (og 32 30 false (.ld (tt 31))), dh 20 [14, 12, 7, 5, 1] (og 33 30 false (.call (ff 122) [tt 32, (ci 1), (ci 9)])), dl 21 (og 34 30 false (.un .not (tt 33))), dl 22 (oo 35 (.pick (tt 30) (cb  true) (tt 34))), dl 23 (oo 36 (.mv (tt 35))), dl 24 (og 37 36 false (.mv (tt 3))), dl 25 (og 38 36 false (.bin .gtr (tt 37) (ci 0))), dl 26 (og 39 36 false (.mv (tt 38))), dl 27 (og 40 39 true (.fa 1 (tt 1))), dl 28 (og 41 39 true (.ld (tt 40))), dl 29 (og 42 39 true (.mv (tt 3))), dl 30 (og 43 39 true (.bin .sub (tt 42) (ci 1))), dl 31 (og 44 39 true (.ia 3 (tt 41) (tt 43))), dl 32 (og 45 39 true (.ldn 3 (tt 44))), dl 33 (og 46 39 true (.ldn 3 (tt 4))), dh 34 [28, 19, 14, 12, 7, 5, 1] (og 47 39 true (.call (ff 217) [tt 45, tt 46])), dl 35 (og 48 39 true (.bin .geq (tt 47) (ci 0))), dl 36 (og 49 36 false (.pick (tt 39) (tt 48) (cb  false))), dl 37 (oo 50 (.pick (tt 36) (cb  true) (tt 49)))]
abbrev c_impl_ValidGraph_5 : List GOp := [oo 2 (.mv (cb  false))]
abbrev c_impl_ValidGraph_6 : List GOp := [oo 51 (.bin .add (tt 8) (ci 1)), oo 8 (.mv (tt 51))]
abbrev c_impl_ValidGraph_l0 : GCode := .seq (.reg c_impl_ValidGraph_2) (.seq (.cond (tt 9) (.skip) (.exit 0)) (.seq (.blk 1 (.seq (.reg c_impl_ValidGraph_3) (.seq (.dreg c_impl_ValidGraph_4) (.cond (tt 50) (.seq (.reg c_impl_ValidGraph_5) (.ret)) (.skip))))) (.reg c_impl_ValidGraph_6)))
abbrev c_impl_ValidGraph_8 : List GOp := [oo 52 (.fa 0 (tt 1)), oo 53 (.ld (tt 52)), oo 54 (.call (ff 122) [tt 53, (ci 1), (ci 12)]), oo 55 (.mv (tt 54)), og 56 55 true (.fa 1 (tt 1)), og 57 55 true (.ld (tt 56)), og 58 55 true (.len (tt 57)), og 59 55 true (.bin .leq (tt 58) (ci 24)), oo 60 (.pick (tt 55) (tt 59) (cb  false)), oo 2 (.mv (tt 60))]
abbrev c_impl_ValidGraph : GCode := .seq (.reg c_impl_ValidGraph_0) (.seq (.seq (.reg c_impl_ValidGraph_1) (.blk 0 (.loop c_impl_ValidGraph_l0))) (.seq (.reg c_impl_ValidGraph_8) (.ret)))
theorem c_impl_ValidGraph_d : decFn Try.prog Try.f141 = some (61, [.t 2], c_impl_ValidGraph) := by kernel_rfl
theorem c_impl_ValidGraph_i {args : List Value} {G : GH} {K : Value → GH → Prop} (hn : args.length ≤ 61) (h : gW Try.prog c_impl_ValidGraph (RetK [.t 2] K) (T0 args) G) : GC Try.prog 141 args G K := GC_intro mixed Try.func141 c_impl_ValidGraph_d hn h
abbrev c_impl_abs_0 : List GOp := [oo 2 (.mv (ci 0))]
abbrev c_impl_abs_1 : List GOp := [oo 3 (.mv (tt 0)), oo 4 (.bin .lss (tt 3) (ci 0))]
abbrev c_impl_abs_2 : List GOp := [oo 5 (.mv (tt 0)), oo 6 (.un .neg (tt 5)), oo 2 (.mv (tt 6))]
abbrev c_impl_abs_3 : List GOp := [oo 7 (.mv (tt 0)), oo 2 (.mv (tt 7))]
abbrev c_impl_abs : GCode := .seq (.reg c_impl_abs_0) (.seq (.seq (.reg c_impl_abs_1) (.cond (tt 4) (.seq (.reg c_impl_abs_2) (.ret)) (.skip))) (.seq (.reg c_impl_abs_3) (.ret)))
theorem c_impl_abs_d : decFn Try.prog Try.f115 = some (8, [.t 2], c_impl_abs) := by kernel_rfl
theorem c_impl_abs_i {args : List Value} {G : GH} {K : Value → GH → Prop} (hn : args.length ≤ 8) (h : gW Try.prog c_impl_abs (RetK [.t 2] K) (T0 args) G) : GC Try.prog 115 args G K := GC_intro mixed Try.func115 c_impl_abs_d hn h
abbrev c_impl_areElements_0 : List GOp := [oo 3 (.bx (tt 1)), oo 4 (.mv (cb  false))]
abbrev c_impl_areElements_1 : List GOp := [oo 5 (.mv (tt 0)), oo 6 (.mf (.func 247) [] [tt 3]), oo 7 (.call (ff 152) [tt 5, tt 6]), oo 8 (.un .not (tt 7)), oo 4 (.mv (tt 8))]
abbrev c_impl_areElements : GCode := .seq (.reg c_impl_areElements_0) (.seq (.reg c_impl_areElements_1) (.ret))
theorem c_impl_areElements_d : decFn Try.prog Try.f216 = some (9, [.t 4], c_impl_areElements) := by kernel_rfl
theorem c_impl_areElements_i {args : List Value} {G : GH} {K : Value → GH → Prop} (hn : args.length ≤ 9) (h : gW Try.prog c_impl_areElements (RetK [.t 4] K) (T0 args) G) : GC Try.prog 216 args G K := GC_intro mixed Try.func216 c_impl_areElements_d hn h
abbrev c_impl_areElements_fn1_0 : List GOp := [oo 3 (.mv (cb  false))]
abbrev c_impl_areElements_fn1_1 : List GOp := [oo 4 (.mv (tt 0)), oo 5 (.ld (tt 1)), oo 6 (.call (ff 180) [tt 4, tt 5]), oo 7 (.un .not (tt 6)), oo 3 (.mv (tt 7))]
abbrev c_impl_areElements_fn1 : GCode := .seq (.reg c_impl_areElements_fn1_0) (.seq (.reg c_impl_areElements_fn1_1) (.ret))
theorem c_impl_areElements_fn1_d : decFn Try.prog Try.f247 = some (8, [.t 3], c_impl_areElements_fn1) := by kernel_rfl
theorem c_impl_areElements_fn1_i {args : List Value} {G : GH} {K : Value → GH → Prop} (hn : args.length ≤ 8) (h : gW Try.prog c_impl_areElements_fn1 (RetK [.t 3] K) (T0 args) G) : GC Try.prog 247 args G K := GC_intro mixed Try.func247 c_impl_areElements_fn1_d hn h
abbrev c_impl_averageRest_0 : List GOp := [oo 4 (.bx (tt 0)), oo 6 (.bx (tt 2)), oo 7 (.bx (tt 3)), oo 8 (.mv (ci 0)), oo 9 (.mv (.const (.slice none 0 0)))]
abbrev c_impl_averageRest_1 : List GOp := [oo 10 (.mv (tt 1)), oo 11 (.mf (.func 210) [] [tt 4, tt 6, tt 7]), oo 12 (.call (ff 111) [tt 10, tt 11]), oo 13 (.ex 0 (tt 12)), oo 14 (.ex 1 (tt 12)), oo 8 (.mv (tt 13)), oo 9 (.mv (tt 14))]
abbrev c_impl_averageRest : GCode := .seq (.reg c_impl_averageRest_0) (.seq (.reg c_impl_averageRest_1) (.ret))
theorem c_impl_averageRest_d : decFn Try.prog Try.f125 = some (15, [.t 8, .t 9], c_impl_averageRest) := by kernel_rfl
theorem c_impl_averageRest_i {args : List Value} {G : GH} {K : Value → GH → Prop} (hn : args.length ≤ 15) (h : gW Try.prog c_impl_averageRest (RetK [.t 8, .t 9] K) (T0 args) G) : GC Try.prog 125 args G K := GC_intro mixed Try.func125 c_impl_averageRest_d hn h
abbrev c_impl_averageRest_fn1_0 : List GOp := [oo 5 (.mv (.const (.slice none 0 0)))]
abbrev c_impl_averageRest_fn1_1 : List GOp := [oo 6 (.ldn 2 (tt 1)), oo 7 (.mv (tt 0)), oo 8 (.ld (tt 2)), oo 9 (.ld (tt 3)), oo 10 (.call (ff 120) [tt 6, tt 7, tt 8, (ci 2000000), tt 9]), oo 5 (.mv (tt 10))]
abbrev c_impl_averageRest_fn1 : GCode := .seq (.reg c_impl_averageRest_fn1_0) (.seq (.reg c_impl_averageRest_fn1_1) (.ret))
theorem c_impl_averageRest_fn1_d : decFn Try.prog Try.f210 = some (11, [.t 5], c_impl_averageRest_fn1) := by kernel_rfl
theorem c_impl_averageRest_fn1_i {args : List Value} {G : GH} {K : Value → GH → Prop} (hn : args.length ≤ 11) (h : gW Try.prog c_impl_averageRest_fn1 (RetK [.t 5] K) (T0 args) G) : GC Try.prog 210 args G K := GC_intro mixed Try.func210 c_impl_averageRest_fn1_d hn h
abbrev c_impl_averaged_0 : List GOp := [oo 5 (.bx (tt 0)), oo 10 (.mv (.const (.slice none 0 0)))]
abbrev c_impl_averaged_1 : DT := (.path [dl 0 (oo 18 (.fa 0 (tt 5)))] (.path [dl 1 (oo 19 (.ld (tt 18)))] (.path [dl 3 (oo 21 (.fa 0 (tt 5)))] (.path [dl 4 (oo 22 (.ld (tt 21)))] (.both (.path [dh 2 [4] (oo 20 (.mk 1 8 [.int .i64 0] (tt 19) (tt 19)))] (.path [dl 6 (oo 11 (.mv (tt 20)))] (.path [dh 5 [1] (oo 23 (.mk 1 8 [.int .i64 0] (tt 22) (tt 22)))] (.path [dl 7 (oo 12 (.mv (tt 23)))] .fin)))) (.path [dh 5 [1] (oo 23 (.mk 1 8 [.int .i64 0] (tt 22) (tt 22)))] (.path [dh 2 [4] (oo 20 (.mk 1 8 [.int .i64 0] (tt 19) (tt 19)))] (.path [dl 6 (oo 11 (.mv (tt 20)))] (.path [dl 7 (oo 12 (.mv (tt 23)))] .fin)))))))))
abbrev c_impl_averaged_2 : List GOp := [oo 24 (.mv (tt 11)), oo 25 (.len (tt 24)), oo 26 (.mv (ci 0))]
abbrev c_impl_averaged_3 : List GOp := [oo 27 (.bin .lss (tt 26) (tt 25))]
abbrev c_impl_averaged_4 : List GOp := [oo 28 (.mv (tt 26)), oo 13 (.mv (tt 28))]
abbrev c_impl_averaged_5 : List GOp := [oo 29 (.mv (tt 11)), oo 30 (.mv (tt 13)), oo 31 (.mv (tt 12)), oo 32 (.mv (tt 13)), oo 33 (.mv (tt 2)), oo 34 (.mv (tt 1)), oo 35 (.mv (tt 13)), oo 36 (.ia 1 (tt 34) (tt 35)), oo 37 (.ld (tt 36)), oo 38 (.bin .mul (tt 33) (tt 37)), oo 39 (.mv (tt 2)), oo 40 (.ia 1 (tt 29) (tt 30)), on (.st 1 (tt 40) (tt 38)), oo 41 (.ia 1 (tt 31) (tt 32)), on (.st 1 (tt 41) (tt 39))]
abbrev c_impl_averaged_6 : List GOp := [oo 42 (.bin .add (tt 26) (ci 1)), oo 26 (.mv (tt 42))]
abbrev c_impl_averaged_l0 : GCode := .seq (.reg c_impl_averaged_3) (.seq (.cond (tt 27) (.skip) (.exit 0)) (.seq (.blk 1 (.seq (.reg c_impl_averaged_4) (.reg c_impl_averaged_5))) (.reg c_impl_averaged_6)))
abbrev c_impl_averaged_8 : List GOp := [oo 43 (.fa 1 (tt 5)), oo 44 (.ld (tt 43)), oo 45 (.len (tt 44)), oo 46 (.mv (ci 0))]
abbrev c_impl_averaged_9 : List GOp := [oo 47 (.bin .lss (tt 46) (tt 45))]
abbrev c_impl_averaged_10 : List GOp := [oo 48 (.ia 3 (tt 44) (tt 46)), oo 49 (.ldn 3 (tt 48)), oo 15 (.al [.int .i64 0, .int .i64 0, .int .i64 0]), on (.st 3 (tt 15) (tt 49))]
abbrev c_impl_averaged_11 : List DOp := [dl 0 (oo 50 (.mv (tt 1))), dl 1 (oo 51 (.fa 0 (tt 15))), dl 2 (oo 52 (.ld (tt 51))), dl 3 (oo 53 (.ia 1 (tt 50) (tt 52))), dl 4 (oo 54 (.ld (tt 53))), dl 5 (oo 55 (.mv (tt 1))), dl 6 (oo 56 (.fa 1 (tt 15))), dl 7 (oo 57 (.ld (tt 56))), dl 8 (oo 58 (.ia 1 (tt 55) (tt 57))), dl 9 (oo 59 (.ld (tt 58))), dl 10 (oo 60 (.bin .sub (tt 54) (tt 59))), dl 12 (oo 62 (.mv (tt 3))), dh 11 [9, 7, 4, 2] (oo 61 (.call (ff 115) [tt 60])), dl 13 (oo 63 (.bin .leq (tt 61) (tt 62)))]
abbrev c_impl_averaged_12 : List DOp := [dl 0 (oo 64 (.mv (tt 11))), dl 1 (oo 65 (.fa 0 (tt 15))), dl 2 (oo 66 (.ld (tt 65))), dl 3 (oo 67 (.ia 1 (tt 64) (tt 66))), dl 4 (oo 68 (.ld (tt 67))), dl 5 (oo 69 (.fa 2 (tt 15))), dl 6 (oo 70 (.ld (tt 69))), dl 7 (oo 71 (.mv (tt 1))), dl 8 (oo 72 (.fa 1 (tt 15))), dl 9 (oo 73 (.ld (tt 72))), dl 10 (oo 74 (.ia 1 (tt 71) (tt 73))), dl 11 (oo 75 (.ld (tt 74))), dl 12 (oo 76 (.bin .mul (tt 70) (tt 75))), dl 13 (oo 77 (.bin .add (tt 68) (tt 76))), dl 14 (oo 78 (.ia 1 (tt 64) (tt 66))), dh 15 [] (on (.st 1 (tt 78) (tt 77)))]
abbrev c_impl_averaged_13 : List DOp := [dl 0 (oo 79 (.mv (tt 11))), dl 1 (oo 80 (.fa 1 (tt 15))), dl 2 (oo 81 (.ld (tt 80))), dl 3 (oo 82 (.ia 1 (tt 79) (tt 81))), dl 4 (oo 83 (.ld (tt 82))), dl 5 (oo 84 (.fa 2 (tt 15))), dl 6 (oo 85 (.ld (tt 84))), dl 7 (oo 86 (.mv (tt 1))), dl 8 (oo 87 (.fa 0 (tt 15))), dl 9 (oo 88 (.ld (tt 87))), dl 10 (oo 89 (.ia 1 (tt 86) (tt 88))), dl 11 (oo 90 (.ld (tt 89))), dl 12 (oo 91 (.bin .mul (tt 85) (tt 90))), dl 13 (oo 92 (.bin .add (tt 83) (tt 91))), dl 14 (oo 93 (.ia 1 (tt 79) (tt 81))), dh 15 [] (on (.st 1 (tt 93) (tt 92)))]
abbrev c_impl_averaged_14 : List DOp := [dl 0 (oo 94 (.mv (tt 12))), dl 1 (oo 95 (.fa 0 (tt 15))), dl 2 (oo 96 (.ld (tt 95))), dl 3 (oo 97 (.ia 1 (tt 94) (tt 96))), dl 4 (oo 98 (.ld (tt 97))), dl 5 (oo 99 (.fa 2 (tt 15))), dl 6 (oo 100 (.ld (tt 99))), dl 7 (oo 101 (.bin .add (tt 98) (tt 100))), dl 8 (oo 102 (.ia 1 (tt 94) (tt 96))), dh 9 [] (on (.st 1 (tt 102) (tt 101)))]
abbrev c_impl_averaged_15 : List DOp := [dl 0 (oo 103 (.mv (tt 12))), dl 1 (oo 104 (.fa 1 (tt 15))), dl 2 (oo 105 (.ld (tt 104))), dl 3 (oo 106 (.ia 1 (tt 103) (tt 105))), dl 4 (oo 107 (.ld (tt 106))), dl 5 (oo 108 (.fa 2 (tt 15))), dl 6 (oo 109 (.ld (tt 108))), dl 7 (oo 110 (.bin .add (tt 107) (tt 109))), dl 8 (oo 111 (.ia 1 (tt 103) (tt 105))), dh 9 [] (on (.st 1 (tt 111) (tt 110)))]
abbrev c_impl_averaged_16 : List GOp := [oo 112 (.bin .add (tt 46) (ci 1)), oo 46 (.mv (tt 112))]
abbrev c_impl_averaged_l1 : GCode := .seq (.reg c_impl_averaged_9) (.seq (.cond (tt 47) (.skip) (.exit 2)) (.seq (.blk 3 (.seq (.reg c_impl_averaged_10) (.seq (.dreg c_impl_averaged_11) (.cond (tt 63) (.seq (.dreg c_impl_averaged_12) (.seq (.dreg c_impl_averaged_13) (.seq (.dreg c_impl_averaged_14) (.dreg c_impl_averaged_15)))) (.skip))))) (.reg c_impl_averaged_16)))
abbrev c_impl_averaged_18 : List GOp := [oo 113 (.mv (tt 1)), oo 114 (.call (ff 123) [tt 113]), oo 16 (.mv (tt 114))]
abbrev c_impl_averaged_19 : List GOp := [oo 115 (.mv (tt 16)), oo 116 (.len (tt 115)), oo 117 (.mv (ci 0))]
abbrev c_impl_averaged_20 : List GOp := [oo 118 (.bin .lss (tt 117) (tt 116))]
abbrev c_impl_averaged_21 : List GOp := [oo 119 (.mv (tt 117)), oo 17 (.mv (tt 119))]
abbrev c_impl_averaged_22 : List GOp := [oo 120 (.mv (tt 12)), oo 121 (.mv (tt 17)), oo 122 (.ia 1 (tt 120) (tt 121)), oo 123 (.ld (tt 122)), oo 124 (.bin .gtr (tt 123) (ci 0)), oo 125 (.mv (tt 124)), og 126 125 true (.mv (tt 4)), og 127 125 true (.mv (tt 17)), og 128 125 true (.call (ff 137) [tt 126, tt 127]), og 129 125 true (.un .not (tt 128)), oo 130 (.pick (tt 125) (tt 129) (cb  false))]
abbrev c_impl_averaged_23 : List DOp := [dl 0 (oo 131 (.mv (tt 16))), dl 1 (oo 132 (.mv (tt 17))), dl 2 (oo 133 (.mv (tt 11))), dl 3 (oo 134 (.mv (tt 17))), dl 4 (oo 135 (.ia 1 (tt 133) (tt 134))), dl 5 (oo 136 (.ld (tt 135))), dl 6 (oo 137 (.mv (tt 12))), dl 7 (oo 138 (.mv (tt 17))), dl 8 (oo 139 (.ia 1 (tt 137) (tt 138))), dl 9 (oo 140 (.ld (tt 139))), dh 10 [] (oo 141 (.call (ff 209) [tt 136, tt 140])), dl 11 (oo 142 (.ia 1 (tt 131) (tt 132))), dh 12 [] (on (.st 1 (tt 142) (tt 141)))]
abbrev c_impl_averaged_24 : List GOp := [oo 143 (.bin .add (tt 117) (ci 1)), oo 117 (.mv (tt 143))]
abbrev c_impl_averaged_l2 : GCode := .seq (.reg c_impl_averaged_20) (.seq (.cond (tt 118) (.skip) (.exit 4)) (.seq (.blk 5 (.seq (.reg c_impl_averaged_21) (.seq (.reg c_impl_averaged_22) (.cond (tt 130) (.dreg c_impl_averaged_23) (.skip))))) (.reg c_impl_averaged_24)))
abbrev c_impl_averaged_26 : List GOp := [oo 144 (.mv (tt 16)), oo 10 (.mv (tt 144))]
abbrev c_impl_averaged : GCode := .seq (.reg c_impl_averaged_0) (.seq (.dtree c_impl_averaged_1) (.seq (.seq (.reg c_impl_averaged_2) (.blk 0 (.loop c_impl_averaged_l0))) (.seq (.seq (.reg c_impl_averaged_8) (.blk 2 (.loop c_impl_averaged_l1))) (.seq (.reg c_impl_averaged_18) (.seq (.seq (.reg c_impl_averaged_19) (.blk 4 (.loop c_impl_averaged_l2))) (.seq (.reg c_impl_averaged_26) (.ret)))))))
theorem c_impl_averaged_d : decFn Try.prog Try.f120 = some (145, [.t 10], c_impl_averaged) := by kernel_rfl
theorem c_impl_averaged_i {args : List Value} {G : GH} {K : Value → GH → Prop} (hn : args.length ≤ 145) (h : gW Try.prog c_impl_averaged (RetK [.t 10] K) (T0 args) G) : GC Try.prog 120 args G K := GC_intro mixed Try.func120 c_impl_averaged_d hn h
abbrev c_impl_compareEdges_0 : List GOp := [oo 2 (.bx (tt 0)), oo 3 (.bx (tt 1)), oo 4 (.mv (ci 0))]
abbrev c_impl_compareEdges_1 : List DOp := [dl 0 (oo 5 (.fa 0 (tt 2))), dl 1 (oo 6 (.ld (tt 5))), dl 2 (oo 7 (.fa 0 (tt 3))), dl 3 (oo 8 (.ld (tt 7))), dl 5 (oo 10 (.fa 1 (tt 2))), dl 6 (oo 11 (.ld (tt 10))), dl 7 (oo 12 (.fa 1 (tt 3))), dl 8 (oo 13 (.ld (tt 12))), dh 4 [8, 6] (oo 9 (.call (ff 218) [tt 6, tt 8])), dh 9 [3, 1] (oo 14 (.call (ff 218) [tt 11, tt 13])), dh 10 [8, 6, 3, 1] (oo 15 (.bs 1 [tt 9, tt 14])), dh 11 [8, 6, 3, 1] (oo 16 (.call (ff 241) [tt 15])), dl 12 (oo 4 (.mv (tt 16)))]
abbrev c_impl_compareEdges : GCode := .seq (.reg c_impl_compareEdges_0) (.seq (.dreg c_impl_compareEdges_1) (.ret))
theorem c_impl_compareEdges_d : decFn Try.prog Try.f217 = some (17, [.t 4], c_impl_compareEdges) := by kernel_rfl
theorem c_impl_compareEdges_i {args : List Value} {G : GH} {K : Value → GH → Prop} (hn : args.length ≤ 17) (h : gW Try.prog c_impl_compareEdges (RetK [.t 4] K) (T0 args) G) : GC Try.prog 217 args G K := GC_intro mixed Try.func217 c_impl_compareEdges_d hn h
abbrev c_impl_counter_node_0 : List GOp := [oo 2 (.mv (cb  false))]
abbrev c_impl_counter_node_1 : List GOp := [oo 3 (.mv (tt 0)), oo 4 (.nc (tt 3)), oo 5 (.fa 0 (tt 4)), oo 6 (.ld (tt 5)), oo 7 (.bin .eql (tt 6) (ci 0))]
abbrev c_impl_counter_node_2 : List GOp := [oo 8 (.mv (tt 0)), oo 9 (.nc (tt 8)), oo 10 (.fa 1 (tt 9)), on (.st 1 (tt 10) (cb  true))]
abbrev c_impl_counter_node_3 : List GOp := [oo 2 (.mv (cb  false))]
abbrev c_impl_counter_node_4 : List GOp := [oo 11 (.mv (tt 0)), oo 12 (.nc (tt 11)), oo 13 (.fa 0 (tt 12)), oo 14 (.ld (tt 13)), oo 15 (.bin .sub (tt 14) (ci 1)), oo 16 (.nc (tt 11)), oo 17 (.fa 0 (tt 16)), on (.st 1 (tt 17) (tt 15))]
abbrev c_impl_counter_node_5 : List GOp := [oo 2 (.mv (cb  true))]
abbrev c_impl_counter_node : GCode := .seq (.reg c_impl_counter_node_0) (.seq (.seq (.reg c_impl_counter_node_1) (.cond (tt 7) (.seq (.reg c_impl_counter_node_2) (.seq (.reg c_impl_counter_node_3) (.ret))) (.skip))) (.seq (.reg c_impl_counter_node_4) (.seq (.reg c_impl_counter_node_5) (.ret))))
theorem c_impl_counter_node_d : decFn Try.prog Try.f129 = some (18, [.t 2], c_impl_counter_node) := by kernel_rfl
theorem c_impl_counter_node_i {args : List Value} {G : GH} {K : Value → GH → Prop} (hn : args.length ≤ 18) (h : gW Try.prog c_impl_counter_node (RetK [.t 2] K) (T0 args) G) : GC Try.prog 129 args G K := GC_intro mixed Try.func129 c_impl_counter_node_d hn h
abbrev c_impl_firstChoice_0 : List GOp := [oo 2 (.mv (.const (.slice none 0 0)))]
abbrev c_impl_firstChoice_1 : List GOp := [oo 3 (.mv (.const (.slice none 0 0)))]
abbrev c_impl_firstChoice_2 : List GOp := [oo 5 (.mv (tt 0)), oo 6 (.mv (ci 0))]
abbrev c_impl_firstChoice_3 : List GOp := [oo 7 (.bin .lss (tt 6) (tt 5))]
abbrev c_impl_firstChoice_4 : List GOp := [oo 8 (.mv (tt 6)), oo 4 (.mv (tt 8))]
abbrev c_impl_firstChoice_5 : List GOp := [oo 9 (.mv (tt 3)), oo 10 (.mv (tt 4)), oo 11 (.bs 1 [tt 10]), oo 12 (.ap 1 8 [.int .i64 0] (tt 9) (tt 11)), oo 3 (.mv (tt 12))]
abbrev c_impl_firstChoice_6 : List GOp := [oo 13 (.bin .add (tt 6) (ci 1)), oo 6 (.mv (tt 13))]
abbrev c_impl_firstChoice_l0 : GCode := .seq (.reg c_impl_firstChoice_3) (.seq (.cond (tt 7) (.skip) (.exit 0)) (.seq (.blk 1 (.seq (.reg c_impl_firstChoice_4) (.reg c_impl_firstChoice_5))) (.reg c_impl_firstChoice_6)))
abbrev c_impl_firstChoice_8 : List GOp := [oo 14 (.mv (tt 3)), oo 2 (.mv (tt 14))]
abbrev c_impl_firstChoice : GCode := .seq (.reg c_impl_firstChoice_0) (.seq (.reg c_impl_firstChoice_1) (.seq (.seq (.reg c_impl_firstChoice_2) (.blk 0 (.loop c_impl_firstChoice_l0))) (.seq (.reg c_impl_firstChoice_8) (.ret))))
theorem c_impl_firstChoice_d : decFn Try.prog Try.f128 = some (15, [.t 2], c_impl_firstChoice) := by kernel_rfl
theorem c_impl_firstChoice_i {args : List Value} {G : GH} {K : Value → GH → Prop} (hn : args.length ≤ 15) (h : gW Try.prog c_impl_firstChoice (RetK [.t 2] K) (T0 args) G) : GC Try.prog 128 args G K := GC_intro mixed Try.func128 c_impl_firstChoice_d hn h
abbrev c_impl_isBudget_0 : List GOp := [oo 2 (.mv (cb  false))]
abbrev c_impl_isBudget_1 : List GOp := [oo 3 (.mv (tt 0)), oo 4 (.call (ff 122) [tt 3, (ci 1), (ci 20000)]), oo 2 (.mv (tt 4))]
abbrev c_impl_isBudget : GCode := .seq (.reg c_impl_isBudget_0) (.seq (.reg c_impl_isBudget_1) (.ret))
theorem c_impl_isBudget_d : decFn Try.prog Try.f127 = some (5, [.t 2], c_impl_isBudget) := by kernel_rfl
theorem c_impl_isBudget_i {args : List Value} {G : GH} {K : Value → GH → Prop} (hn : args.length ≤ 5) (h : gW Try.prog c_impl_isBudget (RetK [.t 2] K) (T0 args) G) : GC Try.prog 127 args G K := GC_intro mixed Try.func127 c_impl_isBudget_d hn h
abbrev c_impl_isElement_0 : List GOp := [oo 4 (.mv (cb  false))]
abbrev c_impl_isElement_1 : List GOp := [oo 5 (.mv (tt 0)), oo 6 (.mv (tt 1)), oo 7 (.bin .sub (tt 6) (ci 1)), oo 8 (.call (ff 122) [tt 5, (ci 0), tt 7]), oo 4 (.mv (tt 8))]
abbrev c_impl_isElement : GCode := .seq (.reg c_impl_isElement_0) (.seq (.reg c_impl_isElement_1) (.ret))
theorem c_impl_isElement_d : decFn Try.prog Try.f180 = some (9, [.t 4], c_impl_isElement) := by kernel_rfl
theorem c_impl_isElement_i {args : List Value} {G : GH} {K : Value → GH → Prop} (hn : args.length ≤ 9) (h : gW Try.prog c_impl_isElement (RetK [.t 4] K) (T0 args) G) : GC Try.prog 180 args G K := GC_intro mixed Try.func180 c_impl_isElement_d hn h
abbrev c_impl_isGraphVector_0 : List GOp := [oo 2 (.bx (tt 0)), oo 4 (.mv (cb  false))]
abbrev c_impl_isGraphVector_1 : List DOp := [dl 0 (oo 5 (.mv (tt 1))), dl 2 (oo 7 (.fa 0 (tt 2))), dl 3 (oo 8 (.ld (tt 7))), dh 1 [3] (oo 6 (.call (ff 213) [tt 5])), dl 4 (oo 9 (.bin .eql (tt 6) (tt 8))), dl 5 (oo 10 (.mv (tt 9))), dl 6 (og 11 10 true (.mv (tt 1))), dh 7 [3] (og 12 10 true (.call (ff 152) [tt 11, (ff 246)])), dl 8 (og 13 10 true (.un .not (tt 12))), dl 9 (oo 14 (.pick (tt 10) (tt 13) (cb  false))), dl 10 (oo 4 (.mv (tt 14)))]
abbrev c_impl_isGraphVector : GCode := .seq (.reg c_impl_isGraphVector_0) (.seq (.dreg c_impl_isGraphVector_1) (.ret))
theorem c_impl_isGraphVector_d : decFn Try.prog Try.f201 = some (15, [.t 4], c_impl_isGraphVector) := by kernel_rfl
theorem c_impl_isGraphVector_i {args : List Value} {G : GH} {K : Value → GH → Prop} (hn : args.length ≤ 15) (h : gW Try.prog c_impl_isGraphVector (RetK [.t 4] K) (T0 args) G) : GC Try.prog 201 args G K := GC_intro mixed Try.func201 c_impl_isGraphVector_d hn h
abbrev c_impl_isGraphVector_fn1_0 : List GOp := [oo 2 (.mv (cb  false))]
abbrev c_impl_isGraphVector_fn1_1 : List GOp := [oo 3 (.mv (tt 0)), oo 4 (.call (ff 122) [tt 3, (ci (-1000000)), (ci 1000000)]), oo 5 (.un .not (tt 4)), oo 2 (.mv (tt 5))]
abbrev c_impl_isGraphVector_fn1 : GCode := .seq (.reg c_impl_isGraphVector_fn1_0) (.seq (.reg c_impl_isGraphVector_fn1_1) (.ret))
theorem c_impl_isGraphVector_fn1_d : decFn Try.prog Try.f246 = some (6, [.t 2], c_impl_isGraphVector_fn1) := by kernel_rfl
theorem c_impl_isGraphVector_fn1_i {args : List Value} {G : GH} {K : Value → GH → Prop} (hn : args.length ≤ 6) (h : gW Try.prog c_impl_isGraphVector_fn1 (RetK [.t 2] K) (T0 args) G) : GC Try.prog 246 args G K := GC_intro mixed Try.func246 c_impl_isGraphVector_fn1_d hn h
abbrev c_impl_isOwn_0 : List GOp := [oo 2 (.mv (cb  false))]
abbrev c_impl_isOwn_1 : List GOp := [oo 3 (.mv (tt 0)), oo 4 (.call (ff 122) [tt 3, (ci 0), (ci 1000)]), oo 2 (.mv (tt 4))]
abbrev c_impl_isOwn : GCode := .seq (.reg c_impl_isOwn_0) (.seq (.reg c_impl_isOwn_1) (.ret))
theorem c_impl_isOwn_d : decFn Try.prog Try.f208 = some (5, [.t 2], c_impl_isOwn) := by kernel_rfl
theorem c_impl_isOwn_i {args : List Value} {G : GH} {K : Value → GH → Prop} (hn : args.length ≤ 5) (h : gW Try.prog c_impl_isOwn (RetK [.t 2] K) (T0 args) G) : GC Try.prog 208 args G K := GC_intro mixed Try.func208 c_impl_isOwn_d hn h
abbrev c_impl_isRising_0 : List GOp := [oo 2 (.mv (cb  false))]
abbrev c_impl_isRising_1 : List GOp := [oo 3 (.mv (ci 1))]
abbrev c_impl_isRising_2 : List GOp := [oo 4 (.mv (tt 3)), oo 5 (.mv (tt 0)), oo 6 (.len (tt 5)), oo 7 (.bin .lss (tt 4) (tt 6))]
abbrev c_impl_isRising_3 : List DOp := [dl 0 (oo 10 (.mv (tt 0))), dl 1 (oo 11 (.mv (tt 3))), dl 2 (oo 12 (.bin .sub (tt 11) (ci 1))), dl 3 (oo 13 (.ia 1 (tt 10) (tt 12))), dl 4 (oo 14 (.ld (tt 13))), dl 5 (oo 15 (.mv (tt 0))), dl 6 (oo 16 (.mv (tt 3))), dl 7 (oo 17 (.ia 1 (tt 15) (tt 16))), dl 8 (oo 18 (.ld (tt 17))), dl 9 (oo 19 (.bin .geq (tt 14) (tt 18)))]
abbrev c_impl_isRising_4 : List GOp := [oo 2 (.mv (cb  false))]
abbrev c_impl_isRising_5 : List GOp := [oo 8 (.mv (tt 3)), oo 9 (.bin .add (tt 8) (ci 1)), oo 3 (.mv (tt 9))]
abbrev c_impl_isRising_l0 : GCode := .seq (.seq (.reg c_impl_isRising_2) (.cond (tt 7) (.skip) (.exit 0))) (.seq (.blk 1 (.seq (.dreg c_impl_isRising_3) (.cond (tt 19) (.seq (.reg c_impl_isRising_4) (.ret)) (.skip)))) (.reg c_impl_isRising_5))
abbrev c_impl_isRising_7 : List GOp := [oo 2 (.mv (cb  true))]
abbrev c_impl_isRising : GCode := .seq (.reg c_impl_isRising_0) (.seq (.seq (.reg c_impl_isRising_1) (.blk 0 (.loop c_impl_isRising_l0))) (.seq (.reg c_impl_isRising_7) (.ret)))
theorem c_impl_isRising_d : decFn Try.prog Try.f215 = some (20, [.t 2], c_impl_isRising) := by kernel_rfl
theorem c_impl_isRising_i {args : List Value} {G : GH} {K : Value → GH → Prop} (hn : args.length ≤ 20) (h : gW Try.prog c_impl_isRising (RetK [.t 2] K) (T0 args) G) : GC Try.prog 215 args G K := GC_intro mixed Try.func215 c_impl_isRising_d hn h
abbrev c_impl_isSet_0 : List GOp := [oo 2 (.bx (tt 0)), oo 4 (.mv (cb  false))]
abbrev c_impl_isSet_1 : List GOp := [oo 5 (.mv (tt 1)), oo 6 (.call (ff 215) [tt 5]), oo 7 (.mv (tt 6)), og 8 7 true (.mv (tt 1)), og 9 7 true (.fa 0 (tt 2)), og 10 7 true (.ld (tt 9)), og 11 7 true (.call (ff 216) [tt 8, tt 10]), oo 12 (.pick (tt 7) (tt 11) (cb  false)), oo 4 (.mv (tt 12))]
abbrev c_impl_isSet : GCode := .seq (.reg c_impl_isSet_0) (.seq (.reg c_impl_isSet_1) (.ret))
theorem c_impl_isSet_d : decFn Try.prog Try.f135 = some (13, [.t 4], c_impl_isSet) := by kernel_rfl
theorem c_impl_isSet_i {args : List Value} {G : GH} {K : Value → GH → Prop} (hn : args.length ≤ 13) (h : gW Try.prog c_impl_isSet (RetK [.t 4] K) (T0 args) G) : GC Try.prog 135 args G K := GC_intro mixed Try.func135 c_impl_isSet_d hn h
abbrev c_impl_leadsTo_0 : List GOp := [oo 5 (.bx (tt 0)), oo 8 (.bx (tt 3)), oo 10 (.mv (cb  false))]
abbrev c_impl_leadsTo_1 : List GOp := [oo 16 (.mv (tt 1)), oo 17 (.call (ff 123) [tt 16]), oo 11 (.mv (tt 17))]
abbrev c_impl_leadsTo_2 : List GOp := [oo 18 (.mv (tt 4)), oo 19 (.len (tt 18)), oo 20 (.mv (ci 0))]
abbrev c_impl_leadsTo_3 : List GOp := [oo 21 (.bin .lss (tt 20) (tt 19))]
abbrev c_impl_leadsTo_4 : List GOp := [oo 22 (.ia 1 (tt 18) (tt 20)), oo 23 (.ld (tt 22)), oo 13 (.mv (tt 23))]
abbrev c_impl_leadsTo_5 : List GOp := [oo 24 (.mv (tt 11)), oo 25 (.mv (tt 13)), oo 26 (.ld (tt 8)), oo 27 (.ia 1 (tt 24) (tt 25)), on (.st 1 (tt 27) (tt 26))]
abbrev c_impl_leadsTo_6 : List GOp := [oo 28 (.bin .add (tt 20) (ci 1)), oo 20 (.mv (tt 28))]
abbrev c_impl_leadsTo_l0 : GCode := .seq (.reg c_impl_leadsTo_3) (.seq (.cond (tt 21) (.skip) (.exit 0)) (.seq (.blk 1 (.seq (.reg c_impl_leadsTo_4) (.reg c_impl_leadsTo_5))) (.reg c_impl_leadsTo_6)))
abbrev c_impl_leadsTo_8 : List GOp := [oo 30 (.ldn 2 (tt 5)), oo 31 (.mv (tt 11)), oo 32 (.mv (tt 2)), oo 33 (.mv (tt 4)), oo 34 (.call (ff 125) [tt 30, tt 31, tt 32, tt 33]), oo 29 (.mv (tt 34)), oo 35 (.ex 0 (tt 29)), oo 36 (.ex 1 (tt 29)), oo 14 (.mv (tt 35)), oo 15 (.mv (tt 36))]
abbrev c_impl_leadsTo_9 : List GOp := [oo 37 (.mv (tt 14)), oo 38 (.bin .geq (tt 37) (ci 0)), oo 39 (.mv (tt 38)), og 40 39 true (.mv (tt 15)), og 41 39 true (.mf (.func 212) [] [tt 8]), og 42 39 true (.call (ff 152) [tt 40, tt 41]), og 43 39 true (.un .not (tt 42)), oo 44 (.pick (tt 39) (tt 43) (cb  false)), oo 10 (.mv (tt 44))]
abbrev c_impl_leadsTo : GCode := .seq (.reg c_impl_leadsTo_0) (.seq (.reg c_impl_leadsTo_1) (.seq (.seq (.reg c_impl_leadsTo_2) (.blk 0 (.loop c_impl_leadsTo_l0))) (.seq (.reg c_impl_leadsTo_8) (.seq (.reg c_impl_leadsTo_9) (.ret)))))
theorem c_impl_leadsTo_d : decFn Try.prog Try.f130 = some (45, [.t 10], c_impl_leadsTo) := by kernel_rfl
theorem c_impl_leadsTo_i {args : List Value} {G : GH} {K : Value → GH → Prop} (hn : args.length ≤ 45) (h : gW Try.prog c_impl_leadsTo (RetK [.t 10] K) (T0 args) G) : GC Try.prog 130 args G K := GC_intro mixed Try.func130 c_impl_leadsTo_d hn h
abbrev c_impl_leadsTo_fn1_0 : List GOp := [oo 3 (.mv (cb  false))]
abbrev c_impl_leadsTo_fn1_1 : List GOp := [oo 4 (.mv (tt 0)), oo 5 (.ld (tt 1)), oo 6 (.bin .neq (tt 4) (tt 5)), oo 3 (.mv (tt 6))]
abbrev c_impl_leadsTo_fn1 : GCode := .seq (.reg c_impl_leadsTo_fn1_0) (.seq (.reg c_impl_leadsTo_fn1_1) (.ret))
theorem c_impl_leadsTo_fn1_d : decFn Try.prog Try.f212 = some (7, [.t 3], c_impl_leadsTo_fn1) := by kernel_rfl
theorem c_impl_leadsTo_fn1_i {args : List Value} {G : GH} {K : Value → GH → Prop} (hn : args.length ≤ 7) (h : gW Try.prog c_impl_leadsTo_fn1 (RetK [.t 3] K) (T0 args) G) : GC Try.prog 212 args G K := GC_intro mixed Try.func212 c_impl_leadsTo_fn1_d hn h
abbrev c_impl_nearest_0 : List GOp := [oo 4 (.mv (ci 0))]
abbrev c_impl_nearest_1 : List DOp := [dl 0 (oo 7 (.mv (tt 0))), dl 1 (oo 8 (.mv (tt 1))), dl 2 (oo 9 (.bin .quo (tt 7) (tt 8))), dl 3 (oo 10 (.mv (tt 0))), dl 4 (oo 11 (.mv (tt 1))), dl 5 (oo 12 (.bin .rem (tt 10) (tt 11))), dh 6 [] (oo 13 (.call (ff 115) [tt 12])), dl 7 (oo 5 (.mv (tt 9))), dl 8 (oo 6 (.mv (tt 13)))]
abbrev c_impl_nearest_2 : List GOp := [oo 14 (.mv (tt 6)), oo 15 (.mv (tt 1)), oo 16 (.call (ff 115) [tt 15]), oo 17 (.mv (tt 6)), oo 18 (.bin .sub (tt 16) (tt 17)), oo 19 (.bin .geq (tt 14) (tt 18))]
abbrev c_impl_nearest_3 : List GOp := [oo 20 (.mv (tt 0)), oo 21 (.bin .lss (tt 20) (ci 0)), oo 22 (.mv (tt 1)), oo 23 (.bin .lss (tt 22) (ci 0)), oo 24 (.eqb true (tt 21) (tt 23))]
abbrev c_impl_nearest_4 : List GOp := [oo 25 (.mv (tt 5)), oo 26 (.bin .sub (tt 25) (ci 1)), oo 4 (.mv (tt 26))]
abbrev c_impl_nearest_5 : List GOp := [oo 27 (.mv (tt 5)), oo 28 (.bin .add (tt 27) (ci 1)), oo 4 (.mv (tt 28))]
abbrev c_impl_nearest_6 : List GOp := [oo 29 (.mv (tt 5)), oo 4 (.mv (tt 29))]
abbrev c_impl_nearest : GCode := .seq (.reg c_impl_nearest_0) (.seq (.dreg c_impl_nearest_1) (.seq (.seq (.reg c_impl_nearest_2) (.cond (tt 19) (.seq (.seq (.reg c_impl_nearest_3) (.cond (tt 24) (.seq (.reg c_impl_nearest_4) (.ret)) (.skip))) (.seq (.reg c_impl_nearest_5) (.ret))) (.skip))) (.seq (.reg c_impl_nearest_6) (.ret))))
theorem c_impl_nearest_d : decFn Try.prog Try.f209 = some (30, [.t 4], c_impl_nearest) := by kernel_rfl
theorem c_impl_nearest_i {args : List Value} {G : GH} {K : Value → GH → Prop} (hn : args.length ≤ 30) (h : gW Try.prog c_impl_nearest (RetK [.t 4] K) (T0 args) G) : GC Try.prog 209 args G K := GC_intro mixed Try.func209 c_impl_nearest_d hn h
abbrev c_impl_nextChoice_0 : List GOp := [oo 4 (.mv (.const (.slice none 0 0))), oo 5 (.mv (cb  false))]
abbrev c_impl_nextChoice_1 : List GOp := [oo 10 (.mv (tt 0)), oo 11 (.call (ff 213) [tt 10]), oo 6 (.mv (tt 11))]
abbrev c_impl_nextChoice_2 : List GOp := [oo 12 (.mv (tt 6)), oo 13 (.bin .sub (tt 12) (ci 1)), oo 7 (.mv (tt 13))]
abbrev c_impl_nextChoice_3 : List GOp := [oo 14 (.mv (tt 7)), oo 15 (.bin .geq (tt 14) (ci 0))]
abbrev c_impl_nextChoice_4 : List GOp := [oo 18 (.mv (tt 0)), oo 19 (.mv (tt 7)), oo 20 (.ia 1 (tt 18) (tt 19)), oo 21 (.ld (tt 20)), oo 22 (.mv (tt 1)), oo 23 (.mv (tt 6)), oo 24 (.bin .sub (tt 22) (tt 23)), oo 25 (.mv (tt 7)), oo 26 (.bin .add (tt 24) (tt 25)), oo 27 (.bin .lss (tt 21) (tt 26))]
abbrev c_impl_nextChoice_5 : List GOp := [oo 28 (.mv (tt 0)), oo 29 (.call (ff 123) [tt 28]), oo 8 (.mv (tt 29))]
abbrev c_impl_nextChoice_6 : List GOp := [oo 30 (.mv (tt 7)), oo 9 (.mv (tt 30))]
abbrev c_impl_nextChoice_7 : List GOp := [oo 31 (.mv (tt 9)), oo 32 (.mv (tt 6)), oo 33 (.bin .lss (tt 31) (tt 32))]
abbrev c_impl_nextChoice_8 : List GOp := [oo 36 (.mv (tt 8)), oo 37 (.mv (tt 9)), oo 38 (.mv (tt 0)), oo 39 (.mv (tt 7)), oo 40 (.ia 1 (tt 38) (tt 39)), oo 41 (.ld (tt 40)), oo 42 (.bin .add (tt 41) (ci 1)), oo 43 (.mv (tt 9)), oo 44 (.bin .add (tt 42) (tt 43)), oo 45 (.mv (tt 7)), oo 46 (.bin .sub (tt 44) (tt 45)), oo 47 (.ia 1 (tt 36) (tt 37)), on (.st 1 (tt 47) (tt 46))]
abbrev c_impl_nextChoice_9 : List GOp := [oo 34 (.mv (tt 9)), oo 35 (.bin .add (tt 34) (ci 1)), oo 9 (.mv (tt 35))]
abbrev c_impl_nextChoice_l0 : GCode := .seq (.seq (.reg c_impl_nextChoice_7) (.cond (tt 33) (.skip) (.exit 2))) (.seq (.blk 3 (.reg c_impl_nextChoice_8)) (.reg c_impl_nextChoice_9))
abbrev c_impl_nextChoice_11 : List GOp := [oo 48 (.mv (tt 8)), oo 4 (.mv (tt 48)), oo 5 (.mv (cb  true))]
abbrev c_impl_nextChoice_12 : List GOp := [oo 16 (.mv (tt 7)), oo 17 (.bin .sub (tt 16) (ci 1)), oo 7 (.mv (tt 17))]
abbrev c_impl_nextChoice_l1 : GCode := .seq (.seq (.reg c_impl_nextChoice_3) (.cond (tt 15) (.skip) (.exit 0))) (.seq (.blk 1 (.seq (.reg c_impl_nextChoice_4) (.cond (tt 27) (.seq (.reg c_impl_nextChoice_5) (.seq (.seq (.reg c_impl_nextChoice_6) (.blk 2 (.loop c_impl_nextChoice_l0))) (.seq (.reg c_impl_nextChoice_11) (.ret)))) (.skip)))) (.reg c_impl_nextChoice_12))
abbrev c_impl_nextChoice_14 : List GOp := [oo 4 (.mv (.const (.slice none 0 0))), oo 5 (.mv (cb  false))]
abbrev c_impl_nextChoice : GCode := .seq (.reg c_impl_nextChoice_0) (.seq (.reg c_impl_nextChoice_1) (.seq (.seq (.reg c_impl_nextChoice_2) (.blk 0 (.loop c_impl_nextChoice_l1))) (.seq (.reg c_impl_nextChoice_14) (.ret))))
theorem c_impl_nextChoice_d : decFn Try.prog Try.f131 = some (49, [.t 4, .t 5], c_impl_nextChoice) := by kernel_rfl
theorem c_impl_nextChoice_i {args : List Value} {G : GH} {K : Value → GH → Prop} (hn : args.length ≤ 49) (h : gW Try.prog c_impl_nextChoice (RetK [.t 4, .t 5] K) (T0 args) G) : GC Try.prog 131 args G K := GC_intro mixed Try.func131 c_impl_nextChoice_d hn h
abbrev c_impl_rest_0 : List GOp := [oo 4 (.mv (ci 0)), oo 5 (.mv (.const (.slice none 0 0)))]
abbrev c_impl_rest_1 : List GOp := [oo 6 (.mv (ci 0))]
abbrev c_impl_rest_2 : List GOp := [oo 8 (.mv (tt 6)), oo 9 (.bin .leq (tt 8) (ci 1000))]
abbrev c_impl_rest_3 : List GOp := [oo 12 (.mv (tt 1)), oo 13 (.mv (tt 0)), oo 14 (.call (tt 12) [tt 13]), oo 7 (.mv (tt 14))]
abbrev c_impl_rest_4 : List GOp := [oo 15 (.mv (tt 7)), oo 16 (.mv (tt 0)), oo 17 (.call (ff 205) [tt 15, tt 16])]
abbrev c_impl_rest_5 : List GOp := [oo 18 (.mv (tt 6)), oo 19 (.mv (tt 0)), oo 20 (.call (ff 123) [tt 19]), oo 4 (.mv (tt 18)), oo 5 (.mv (tt 20))]
abbrev c_impl_rest_6 : List GOp := [oo 21 (.mv (tt 7)), oo 0 (.mv (tt 21))]
abbrev c_impl_rest_7 : List GOp := [oo 10 (.mv (tt 6)), oo 11 (.bin .add (tt 10) (ci 1)), oo 6 (.mv (tt 11))]
abbrev c_impl_rest_l0 : GCode := .seq (.seq (.reg c_impl_rest_2) (.cond (tt 9) (.skip) (.exit 0))) (.seq (.blk 1 (.seq (.reg c_impl_rest_3) (.seq (.seq (.reg c_impl_rest_4) (.cond (tt 17) (.seq (.reg c_impl_rest_5) (.ret)) (.skip))) (.reg c_impl_rest_6)))) (.reg c_impl_rest_7))
abbrev c_impl_rest_9 : List GOp := [oo 4 (.mv (ci (-1))), oo 5 (.mv (.const (.slice none 0 0)))]
abbrev c_impl_rest : GCode := .seq (.reg c_impl_rest_0) (.seq (.seq (.reg c_impl_rest_1) (.blk 0 (.loop c_impl_rest_l0))) (.seq (.reg c_impl_rest_9) (.ret)))
theorem c_impl_rest_d : decFn Try.prog Try.f111 = some (22, [.t 4, .t 5], c_impl_rest) := by kernel_rfl
theorem c_impl_rest_i {args : List Value} {G : GH} {K : Value → GH → Prop} (hn : args.length ≤ 22) (h : gW Try.prog c_impl_rest (RetK [.t 4, .t 5] K) (T0 args) G) : GC Try.prog 111 args G K := GC_intro mixed Try.func111 c_impl_rest_d hn h
abbrev c_impl_size_int64_0 : List GOp := [oo 2 (.mv (ci 0))]
abbrev c_impl_size_int64_1 : List GOp := [oo 3 (.mv (tt 0)), oo 4 (.len (tt 3)), oo 2 (.mv (tt 4))]
abbrev c_impl_size_int64 : GCode := .seq (.reg c_impl_size_int64_0) (.seq (.reg c_impl_size_int64_1) (.ret))
theorem c_impl_size_int64_d : decFn Try.prog Try.f213 = some (5, [.t 2], c_impl_size_int64) := by kernel_rfl
theorem c_impl_size_int64_i {args : List Value} {G : GH} {K : Value → GH → Prop} (hn : args.length ≤ 5) (h : gW Try.prog c_impl_size_int64 (RetK [.t 2] K) (T0 args) G) : GC Try.prog 213 args G K := GC_intro mixed Try.func213 c_impl_size_int64_d hn h
abbrev c_impl_stepped_0 : List GOp := [oo 4 (.bx (tt 0)), oo 8 (.mv (ci 0))]
abbrev c_impl_stepped_1 : List GOp := [oo 10 (.ldn 2 (tt 4)), oo 11 (.mv (tt 1)), oo 12 (.call (ff 102) [tt 10, tt 11]), oo 9 (.mv (tt 12))]
abbrev c_impl_stepped_2 : List GOp := [oo 13 (.mv (tt 9)), oo 14 (.bin .neq (tt 13) (ci 0))]
abbrev c_impl_stepped_3 : List GOp := [oo 15 (.mv (tt 9)), oo 8 (.mv (tt 15))]
abbrev c_impl_stepped_4 : List GOp := [oo 16 (.mv (tt 2)), oo 17 (.call (ff 208) [tt 16]), oo 18 (.un .not (tt 17)), oo 19 (.mv (tt 18)), og 20 19 false (.ldn 2 (tt 4)), og 21 19 false (.mv (tt 3)), og 22 19 false (.call (ff 135) [tt 20, tt 21]), og 23 19 false (.un .not (tt 22)), oo 24 (.pick (tt 19) (cb  true) (tt 23))]
abbrev c_impl_stepped_5 : List GOp := [oo 8 (.mv (ci 2))]
abbrev c_impl_stepped_6 : List GOp := [oo 8 (.mv (ci 0))]
abbrev c_impl_stepped : GCode := .seq (.reg c_impl_stepped_0) (.seq (.seq (.reg c_impl_stepped_1) (.seq (.reg c_impl_stepped_2) (.cond (tt 14) (.seq (.reg c_impl_stepped_3) (.ret)) (.skip)))) (.seq (.seq (.reg c_impl_stepped_4) (.cond (tt 24) (.seq (.reg c_impl_stepped_5) (.ret)) (.skip))) (.seq (.reg c_impl_stepped_6) (.ret))))
theorem c_impl_stepped_d : decFn Try.prog Try.f119 = some (25, [.t 8], c_impl_stepped) := by kernel_rfl
theorem c_impl_stepped_i {args : List Value} {G : GH} {K : Value → GH → Prop} (hn : args.length ≤ 25) (h : gW Try.prog c_impl_stepped (RetK [.t 8] K) (T0 args) G) : GC Try.prog 119 args G K := GC_intro mixed Try.func119 c_impl_stepped_d hn h
abbrev c_impl_withVector_0 : List GOp := [oo 2 (.bx (tt 0)), oo 4 (.mv (ci 0))]
abbrev c_impl_withVector_1 : List GOp := [oo 6 (.ldn 2 (tt 2)), oo 7 (.call (ff 141) [tt 6]), oo 8 (.un .not (tt 7)), oo 5 (.mv (tt 8))]
abbrev c_impl_withVector_2 : List GOp := [oo 4 (.mv (ci 1))]
abbrev c_impl_withVector_3 : List GOp := [oo 10 (.ldn 2 (tt 2)), oo 11 (.mv (tt 1)), oo 12 (.call (ff 201) [tt 10, tt 11]), oo 13 (.un .not (tt 12)), oo 9 (.mv (tt 13))]
abbrev c_impl_withVector_4 : List GOp := [oo 4 (.mv (ci 2))]
abbrev c_impl_withVector_5 : List GOp := [oo 4 (.mv (ci 0))]
abbrev c_impl_withVector : GCode := .seq (.reg c_impl_withVector_0) (.seq (.blk 0 (.seq (.reg c_impl_withVector_1) (.cond (tt 5) (.seq (.reg c_impl_withVector_2) (.ret)) (.seq (.reg c_impl_withVector_3) (.cond (tt 9) (.seq (.reg c_impl_withVector_4) (.ret)) (.skip)))))) (.seq (.reg c_impl_withVector_5) (.ret)))
theorem c_impl_withVector_d : decFn Try.prog Try.f102 = some (14, [.t 4], c_impl_withVector) := by kernel_rfl
theorem c_impl_withVector_i {args : List Value} {G : GH} {K : Value → GH → Prop} (hn : args.length ≤ 14) (h : gW Try.prog c_impl_withVector (RetK [.t 4] K) (T0 args) G) : GC Try.prog 102 args G K := GC_intro mixed Try.func102 c_impl_withVector_d hn h
abbrev c_impl_within_0 : List GOp := [oo 6 (.mv (cb  false))]
abbrev c_impl_within_1 : List GOp := [oo 7 (.mv (tt 0)), oo 8 (.mv (tt 1)), oo 9 (.bin .geq (tt 7) (tt 8)), oo 10 (.mv (tt 9)), og 11 10 true (.mv (tt 0)), og 12 10 true (.mv (tt 2)), og 13 10 true (.bin .leq (tt 11) (tt 12)), oo 14 (.pick (tt 10) (tt 13) (cb  false)), oo 6 (.mv (tt 14))]
abbrev c_impl_within : GCode := .seq (.reg c_impl_within_0) (.seq (.reg c_impl_within_1) (.ret))
theorem c_impl_within_d : decFn Try.prog Try.f122 = some (15, [.t 6], c_impl_within) := by kernel_rfl
theorem c_impl_within_i {args : List Value} {G : GH} {K : Value → GH → Prop} (hn : args.length ≤ 15) (h : gW Try.prog c_impl_within (RetK [.t 6] K) (T0 args) G) : GC Try.prog 122 args G K := GC_intro mixed Try.func122 c_impl_within_d hn h
abbrev c_laws_FnOpinions_0 : List GOp := [oo 4 (.mv (cb  false))]
abbrev c_laws_FnOpinions_1 : List GOp := [oo 36 (.mv (tt 0)), oo 37 (.call (ff 56) [tt 36]), oo 38 (.mv (tt 37)), og 39 38 false (.mv (tt 1)), og 40 38 false (.call (ff 56) [tt 39]), oo 41 (.pick (tt 38) (cb  true) (tt 40))]
abbrev c_laws_FnOpinions_2 : List GOp := [oo 4 (.mv (cb  true))]
abbrev c_laws_FnOpinions_3 : List GOp := [oo 43 (.mv (tt 0)), oo 44 (.call (ff 71) [tt 43]), oo 42 (.mv (tt 44)), oo 45 (.ex 0 (tt 42)), oo 46 (.ex 1 (tt 42)), oo 47 (.ex 2 (tt 42)), oo 48 (.ex 3 (tt 42)), oo 5 (.al [.int .i64 0, .slice none 0 0]), on (.st 2 (tt 5) (tt 45)), oo 6 (.mv (tt 46)), oo 7 (.mv (tt 47)), oo 8 (.mv (tt 48))]
abbrev c_laws_FnOpinions_4 : List GOp := [oo 50 (.ldn 2 (tt 5)), oo 51 (.mv (tt 6)), oo 52 (.mv (tt 7)), oo 53 (.mv (tt 8)), oo 54 (.call (ff 45) [tt 50, tt 51, tt 52, tt 53]), oo 49 (.mv (tt 54)), oo 55 (.ex 0 (tt 49)), oo 56 (.ex 1 (tt 49)), oo 9 (.mv (tt 55)), oo 10 (.mv (tt 56))]
abbrev c_laws_FnOpinions_5 : List GOp := [oo 58 (.ldn 2 (tt 5)), oo 59 (.mv (tt 6)), oo 60 (.mv (tt 7)), oo 61 (.mv (tt 8)), oo 62 (.call (ff 49) [tt 58, tt 59, tt 60, tt 61]), oo 57 (.mv (tt 62)), oo 63 (.ex 0 (tt 57)), oo 64 (.ex 1 (tt 57)), oo 65 (.ex 2 (tt 57)), oo 11 (.mv (tt 63)), oo 12 (.mv (tt 64)), oo 13 (.mv (tt 65))]
abbrev c_laws_FnOpinions_6 : List GOp := [oo 66 (.mv (tt 10)), oo 67 (.bin .eql (tt 66) (ci 0))]
abbrev c_laws_FnOpinions_7 : List GOp := [oo 69 (.mv (tt 6)), oo 70 (.call (ff 72) [tt 69]), oo 68 (.mv (tt 70)), oo 71 (.ex 0 (tt 68)), oo 72 (.ex 1 (tt 68)), oo 14 (.mv (tt 71)), oo 15 (.mv (tt 72))]
abbrev c_laws_FnOpinions_8 : List GOp := [oo 74 (.mv (tt 9)), oo 75 (.call (ff 72) [tt 74]), oo 73 (.mv (tt 75)), oo 76 (.ex 0 (tt 73)), oo 77 (.ex 1 (tt 73)), oo 16 (.mv (tt 76)), oo 17 (.mv (tt 77))]
abbrev c_laws_FnOpinions_9 : List GOp := [oo 78 (.mv (tt 9)), oo 79 (.len (tt 78)), oo 80 (.mv (tt 6)), oo 81 (.len (tt 80)), oo 82 (.bin .neq (tt 79) (tt 81)), oo 83 (.mv (tt 82)), og 84 83 false (.mv (tt 15)), og 85 83 false (.bin .neq (tt 84) (ci 0)), oo 86 (.pick (tt 83) (cb  true) (tt 85)), oo 87 (.mv (tt 86)), og 88 87 false (.mv (tt 17)), og 89 87 false (.bin .neq (tt 88) (ci 0)), oo 90 (.pick (tt 87) (cb  true) (tt 89)), oo 91 (.mv (tt 90)), og 92 91 false (.mv (tt 16)), og 93 91 false (.mv (tt 14)), og 94 91 false (.bin .gtr (tt 92) (tt 93)), oo 95 (.pick (tt 91) (cb  true) (tt 94)), oo 96 (.mv (tt 95)), og 97 96 false (.mv (tt 8)), og 98 96 false (.mv (tt 6)), og 99 96 false (.len (tt 98)), og 100 96 false (.call (ff 70) [tt 97, tt 99]), og 101 96 false (.un .not (tt 100)), oo 102 (.pick (tt 96) (cb  true) (tt 101))]
abbrev c_laws_FnOpinions_10 : List GOp := [oo 4 (.mv (cb  false))]
abbrev c_laws_FnOpinions_11 : List GOp := [oo 18 (.mv (ci 0))]
abbrev c_laws_FnOpinions_12 : List GOp := [oo 103 (.mv (tt 18)), oo 104 (.mv (tt 8)), oo 105 (.len (tt 104)), oo 106 (.bin .lss (tt 103) (tt 105))]
abbrev c_laws_FnOpinions_13 : List DOp := [dl 0 (oo 109 (.mv (tt 9))), dl 1 (oo 110 (.mv (tt 8))), dl 2 (oo 111 (.mv (tt 18))), dl 3 (oo 112 (.ia 1 (tt 110) (tt 111))), dl 4 (oo 113 (.ld (tt 112))), dl 5 (oo 114 (.ia 1 (tt 109) (tt 113))), dl 6 (oo 115 (.ld (tt 114))), dl 7 (oo 116 (.mv (tt 6))), dl 8 (oo 117 (.mv (tt 8))), dl 9 (oo 118 (.mv (tt 18))), dl 10 (oo 119 (.ia 1 (tt 117) (tt 118))), dl 11 (oo 120 (.ld (tt 119))), dl 12 (oo 121 (.ia 1 (tt 116) (tt 120))), dl 13 (oo 122 (.ld (tt 121))), dl 14 (oo 123 (.bin .neq (tt 115) (tt 122)))]
abbrev c_laws_FnOpinions_14 : List GOp := [oo 4 (.mv (cb  false))]
abbrev c_laws_FnOpinions_15 : List GOp := [oo 107 (.mv (tt 18)), oo 108 (.bin .add (tt 107) (ci 1)), oo 18 (.mv (tt 108))]
abbrev c_laws_FnOpinions_l0 : GCode := .seq (.seq (.reg c_laws_FnOpinions_12) (.cond (tt 106) (.skip) (.exit 0))) (.seq (.blk 1 (.seq (.dreg c_laws_FnOpinions_13) (.cond (tt 123) (.seq (.reg c_laws_FnOpinions_14) (.ret)) (.skip)))) (.reg c_laws_FnOpinions_15))
abbrev c_laws_FnOpinions_17 : List GOp := [oo 124 (.mv (tt 13)), oo 125 (.bin .eql (tt 124) (ci 0))]
abbrev c_laws_FnOpinions_18 : List GOp := [oo 127 (.ldn 2 (tt 5)), oo 128 (.mv (tt 12)), oo 129 (.mv (tt 7)), oo 130 (.mv (tt 8)), oo 131 (.call (ff 45) [tt 127, tt 128, tt 129, tt 130]), oo 126 (.mv (tt 131)), oo 132 (.ex 0 (tt 126)), oo 133 (.ex 1 (tt 126)), oo 19 (.mv (tt 132)), oo 20 (.mv (tt 133))]
abbrev c_laws_FnOpinions_19 : List GOp := [oo 135 (.ldn 2 (tt 5)), oo 136 (.mv (tt 6)), oo 137 (.mv (tt 7)), oo 138 (.mv (tt 8)), oo 139 (.mv (tt 11)), oo 140 (.call (ff 47) [tt 135, tt 136, tt 137, tt 138, tt 139]), oo 134 (.mv (tt 140)), oo 141 (.ex 0 (tt 134)), oo 142 (.ex 1 (tt 134)), oo 21 (.mv (tt 141)), oo 22 (.mv (tt 142))]
abbrev c_laws_FnOpinions_20 : List GOp := [oo 143 (.mv (tt 20)), oo 144 (.bin .neq (tt 143) (ci 0)), oo 145 (.mv (tt 144)), og 146 145 false (.mv (tt 19)), og 147 145 false (.mv (tt 12)), og 148 145 false (.call (ff 67) [tt 146, tt 147]), og 149 145 false (.un .not (tt 148)), oo 150 (.pick (tt 145) (cb  true) (tt 149)), oo 151 (.mv (tt 150)), og 152 151 false (.mv (tt 22)), og 153 151 false (.bin .neq (tt 152) (ci 0)), oo 154 (.pick (tt 151) (cb  true) (tt 153)), oo 155 (.mv (tt 154)), og 156 155 false (.mv (tt 21)), og 157 155 false (.mv (tt 12)), og 158 155 false (.call (ff 67) [tt 156, tt 157]), og 159 155 false (.un .not (tt 158)), oo 160 (.pick (tt 155) (cb  true) (tt 159))]
abbrev c_laws_FnOpinions_21 : List GOp := [oo 4 (.mv (cb  false))]
abbrev c_laws_FnOpinions_22 : List GOp := [oo 162 (.mv (tt 1)), oo 163 (.call (ff 73) [tt 162]), oo 161 (.mv (tt 163)), oo 164 (.ex 0 (tt 161)), oo 165 (.ex 1 (tt 161)), oo 166 (.ex 2 (tt 161)), oo 167 (.ex 3 (tt 161)), oo 168 (.ex 4 (tt 161)), oo 23 (.al [.int .i64 0, .slice none 0 0]), on (.st 2 (tt 23) (tt 164)), oo 24 (.mv (tt 165)), oo 25 (.mv (tt 166)), oo 26 (.mv (tt 167)), oo 27 (.mv (tt 168))]
abbrev c_laws_FnOpinions_23 : List GOp := [oo 170 (.ldn 2 (tt 23)), oo 171 (.mv (tt 24)), oo 172 (.mv (tt 25)), oo 173 (.mv (tt 26)), oo 174 (.mv (tt 27)), oo 175 (.call (ff 51) [tt 170, tt 171, tt 172, tt 173, tt 174]), oo 169 (.mv (tt 175)), oo 176 (.ex 0 (tt 169)), oo 177 (.ex 1 (tt 169)), oo 28 (.mv (tt 176)), oo 29 (.mv (tt 177))]
abbrev c_laws_FnOpinions_24 : List GOp := [oo 178 (.mv (tt 29)), oo 179 (.bin .neq (tt 178) (ci 0))]
abbrev c_laws_FnOpinions_25 : List GOp := [oo 180 (.mv (tt 28)), oo 181 (.len (tt 180)), oo 182 (.bin .eql (tt 181) (ci 0)), oo 4 (.mv (tt 182))]
abbrev c_laws_FnOpinions_26 : List GOp := [oo 183 (.mv (tt 28)), oo 184 (.mv (tt 24)), oo 185 (.len (tt 184)), oo 186 (.call (ff 70) [tt 183, tt 185]), oo 187 (.un .not (tt 186))]
abbrev c_laws_FnOpinions_27 : List GOp := [oo 4 (.mv (cb  false))]
abbrev c_laws_FnOpinions_28 : List GOp := [oo 188 (.bs 1 []), oo 189 (.mv (tt 24)), oo 190 (.ap 1 8 [.int .i64 0] (tt 188) (tt 189)), oo 30 (.mv (tt 190))]
abbrev c_laws_FnOpinions_29 : List GOp := [oo 31 (.mv (ci 0))]
abbrev c_laws_FnOpinions_30 : List GOp := [oo 191 (.mv (tt 31)), oo 192 (.mv (tt 28)), oo 193 (.len (tt 192)), oo 194 (.bin .lss (tt 191) (tt 193))]
abbrev c_laws_FnOpinions_31 : List GOp := [oo 197 (.mv (tt 30)), oo 198 (.mv (tt 28)), oo 199 (.mv (tt 31)), oo 200 (.ia 1 (tt 198) (tt 199)), oo 201 (.ld (tt 200)), oo 202 (.mv (tt 26)), oo 203 (.ia 1 (tt 197) (tt 201)), on (.st 1 (tt 203) (tt 202))]
abbrev c_laws_FnOpinions_32 : List GOp := [oo 195 (.mv (tt 31)), oo 196 (.bin .add (tt 195) (ci 1)), oo 31 (.mv (tt 196))]
abbrev c_laws_FnOpinions_l1 : GCode := .seq (.seq (.reg c_laws_FnOpinions_30) (.cond (tt 194) (.skip) (.exit 2))) (.seq (.blk 3 (.reg c_laws_FnOpinions_31)) (.reg c_laws_FnOpinions_32))
abbrev c_laws_FnOpinions_34 : List GOp := [oo 205 (.ldn 2 (tt 23)), oo 206 (.mv (tt 30)), oo 207 (.mv (tt 25)), oo 208 (.mv (tt 28)), oo 209 (.call (ff 49) [tt 205, tt 206, tt 207, tt 208]), oo 204 (.mv (tt 209)), oo 210 (.ex 0 (tt 204)), oo 211 (.ex 1 (tt 204)), oo 212 (.ex 2 (tt 204)), oo 32 (.mv (tt 210)), oo 33 (.mv (tt 211)), oo 34 (.mv (tt 212))]
abbrev c_laws_FnOpinions_35 : List GOp := [oo 35 (.mv (ci 0))]
abbrev c_laws_FnOpinions_36 : List GOp := [oo 213 (.mv (tt 35)), oo 214 (.mv (tt 33)), oo 215 (.len (tt 214)), oo 216 (.bin .lss (tt 213) (tt 215))]
abbrev c_laws_FnOpinions_37 : List GOp := [oo 219 (.mv (tt 33)), oo 220 (.mv (tt 35)), oo 221 (.ia 1 (tt 219) (tt 220)), oo 222 (.ld (tt 221)), oo 223 (.mv (tt 26)), oo 224 (.bin .neq (tt 222) (tt 223))]
abbrev c_laws_FnOpinions_38 : List GOp := [oo 4 (.mv (cb  false))]
abbrev c_laws_FnOpinions_39 : List GOp := [oo 217 (.mv (tt 35)), oo 218 (.bin .add (tt 217) (ci 1)), oo 35 (.mv (tt 218))]
abbrev c_laws_FnOpinions_l2 : GCode := .seq (.seq (.reg c_laws_FnOpinions_36) (.cond (tt 216) (.skip) (.exit 4))) (.seq (.blk 5 (.seq (.reg c_laws_FnOpinions_37) (.cond (tt 224) (.seq (.reg c_laws_FnOpinions_38) (.ret)) (.skip)))) (.reg c_laws_FnOpinions_39))
abbrev c_laws_FnOpinions_41 : List GOp := [oo 225 (.mv (tt 34)), oo 226 (.bin .eql (tt 225) (ci 0)), oo 4 (.mv (tt 226))]
abbrev c_laws_FnOpinions : GCode := .seq (.reg c_laws_FnOpinions_0) (.seq (.seq (.reg c_laws_FnOpinions_1) (.cond (tt 41) (.seq (.reg c_laws_FnOpinions_2) (.ret)) (.skip))) (.seq (.reg c_laws_FnOpinions_3) (.seq (.reg c_laws_FnOpinions_4) (.seq (.reg c_laws_FnOpinions_5) (.seq (.seq (.reg c_laws_FnOpinions_6) (.cond (tt 67) (.seq (.reg c_laws_FnOpinions_7) (.seq (.reg c_laws_FnOpinions_8) (.seq (.seq (.reg c_laws_FnOpinions_9) (.cond (tt 102) (.seq (.reg c_laws_FnOpinions_10) (.ret)) (.skip))) (.seq (.reg c_laws_FnOpinions_11) (.blk 0 (.loop c_laws_FnOpinions_l0)))))) (.skip))) (.seq (.seq (.reg c_laws_FnOpinions_17) (.cond (tt 125) (.seq (.reg c_laws_FnOpinions_18) (.seq (.reg c_laws_FnOpinions_19) (.seq (.reg c_laws_FnOpinions_20) (.cond (tt 160) (.seq (.reg c_laws_FnOpinions_21) (.ret)) (.skip))))) (.skip))) (.seq (.reg c_laws_FnOpinions_22) (.seq (.reg c_laws_FnOpinions_23) (.seq (.seq (.reg c_laws_FnOpinions_24) (.cond (tt 179) (.seq (.reg c_laws_FnOpinions_25) (.ret)) (.skip))) (.seq (.seq (.reg c_laws_FnOpinions_26) (.cond (tt 187) (.seq (.reg c_laws_FnOpinions_27) (.ret)) (.skip))) (.seq (.reg c_laws_FnOpinions_28) (.seq (.seq (.reg c_laws_FnOpinions_29) (.blk 2 (.loop c_laws_FnOpinions_l1))) (.seq (.reg c_laws_FnOpinions_34) (.seq (.seq (.reg c_laws_FnOpinions_35) (.blk 4 (.loop c_laws_FnOpinions_l2))) (.seq (.reg c_laws_FnOpinions_41) (.ret))))))))))))))))
theorem c_laws_FnOpinions_d : decFn Try.prog Try.f16 = some (227, [.t 4], c_laws_FnOpinions) := by kernel_rfl
theorem c_laws_FnOpinions_i {args : List Value} {G : GH} {K : Value → GH → Prop} (hn : args.length ≤ 227) (h : gW Try.prog c_laws_FnOpinions (RetK [.t 4] K) (T0 args) G) : GC Try.prog 16 args G K := GC_intro mixed Try.func16 c_laws_FnOpinions_d hn h
abbrev c_laws_b10Long_0 : List GOp := [oo 2 (.mv (cb  false))]
abbrev c_laws_b10Long_1 : List GOp := [oo 3 (.mv (tt 0)), oo 4 (.len (tt 3)), oo 5 (.bin .gtr (tt 4) (ci 1048576)), oo 2 (.mv (tt 5))]
abbrev c_laws_b10Long : GCode := .seq (.reg c_laws_b10Long_0) (.seq (.reg c_laws_b10Long_1) (.ret))
theorem c_laws_b10Long_d : decFn Try.prog Try.f56 = some (6, [.t 2], c_laws_b10Long) := by kernel_rfl
theorem c_laws_b10Long_i {args : List Value} {G : GH} {K : Value → GH → Prop} (hn : args.length ≤ 6) (h : gW Try.prog c_laws_b10Long (RetK [.t 2] K) (T0 args) G) : GC Try.prog 56 args G K := GC_intro mixed Try.func56 c_laws_b10Long_d hn h
abbrev c_laws_b10Nums_0 : List GOp := [oo 4 (.mv (cb  false))]
abbrev c_laws_b10Nums_1 : List GOp := [oo 6 (.mv (tt 0)), oo 7 (.len (tt 6)), oo 8 (.mv (tt 1)), oo 9 (.len (tt 8)), oo 10 (.bin .neq (tt 7) (tt 9))]
abbrev c_laws_b10Nums_2 : List GOp := [oo 4 (.mv (cb  false))]
abbrev c_laws_b10Nums_3 : List GOp := [oo 5 (.mv (ci 0))]
abbrev c_laws_b10Nums_4 : List GOp := [oo 11 (.mv (tt 5)), oo 12 (.mv (tt 0)), oo 13 (.len (tt 12)), oo 14 (.bin .lss (tt 11) (tt 13))]
abbrev c_laws_b10Nums_5 : List DOp := [dl 0 (oo 17 (.mv (tt 0))), dl 1 (oo 18 (.mv (tt 5))), dl 2 (oo 19 (.ia 1 (tt 17) (tt 18))), dl 3 (oo 20 (.ld (tt 19))), dl 4 (oo 21 (.mv (tt 1))), dl 5 (oo 22 (.mv (tt 5))), dl 6 (oo 23 (.ia 1 (tt 21) (tt 22))), dl 7 (oo 24 (.ld (tt 23))), dl 8 (oo 25 (.bin .neq (tt 20) (tt 24)))]
abbrev c_laws_b10Nums_6 : List GOp := [oo 4 (.mv (cb  false))]
abbrev c_laws_b10Nums_7 : List GOp := [oo 15 (.mv (tt 5)), oo 16 (.bin .add (tt 15) (ci 1)), oo 5 (.mv (tt 16))]
abbrev c_laws_b10Nums_l0 : GCode := .seq (.seq (.reg c_laws_b10Nums_4) (.cond (tt 14) (.skip) (.exit 0))) (.seq (.blk 1 (.seq (.dreg c_laws_b10Nums_5) (.cond (tt 25) (.seq (.reg c_laws_b10Nums_6) (.ret)) (.skip)))) (.reg c_laws_b10Nums_7))
abbrev c_laws_b10Nums_9 : List GOp := [oo 4 (.mv (cb  true))]
abbrev c_laws_b10Nums : GCode := .seq (.reg c_laws_b10Nums_0) (.seq (.seq (.reg c_laws_b10Nums_1) (.cond (tt 10) (.seq (.reg c_laws_b10Nums_2) (.ret)) (.skip))) (.seq (.seq (.reg c_laws_b10Nums_3) (.blk 0 (.loop c_laws_b10Nums_l0))) (.seq (.reg c_laws_b10Nums_9) (.ret))))
theorem c_laws_b10Nums_d : decFn Try.prog Try.f67 = some (26, [.t 4], c_laws_b10Nums) := by kernel_rfl
theorem c_laws_b10Nums_i {args : List Value} {G : GH} {K : Value → GH → Prop} (hn : args.length ≤ 26) (h : gW Try.prog c_laws_b10Nums (RetK [.t 4] K) (T0 args) G) : GC Try.prog 67 args G K := GC_intro mixed Try.func67 c_laws_b10Nums_d hn h
abbrev c_laws_b10Rises_0 : List GOp := [oo 4 (.mv (cb  false))]
abbrev c_laws_b10Rises_1 : List GOp := [oo 5 (.mv (ci 0))]
abbrev c_laws_b10Rises_2 : List GOp := [oo 6 (.mv (tt 5)), oo 7 (.mv (tt 0)), oo 8 (.len (tt 7)), oo 9 (.bin .lss (tt 6) (tt 8))]
abbrev c_laws_b10Rises_3 : List DOp := [dl 0 (oo 12 (.mv (tt 0))), dl 1 (oo 13 (.mv (tt 5))), dl 2 (oo 14 (.ia 1 (tt 12) (tt 13))), dl 3 (oo 15 (.ld (tt 14))), dl 4 (oo 16 (.bin .lss (tt 15) (ci 0))), dl 5 (oo 17 (.mv (tt 16))), dl 6 (og 18 17 false (.mv (tt 0))), dl 7 (og 19 17 false (.mv (tt 5))), dl 8 (og 20 17 false (.ia 1 (tt 18) (tt 19))), dl 9 (og 21 17 false (.ld (tt 20))), dl 10 (og 22 17 false (.mv (tt 1))), dl 11 (og 23 17 false (.bin .geq (tt 21) (tt 22))), dl 12 (oo 24 (.pick (tt 17) (cb  true) (tt 23))), dl 13 (oo 25 (.mv (tt 24))), dl 14 (og 26 25 false (.mv (tt 5))), dl 15 (og 27 25 false (.bin .gtr (tt 26) (ci 0))), dl 16 (og 28 25 false (.mv (tt 27))), dl 17 (og 29 28 true (.mv (tt 0))), dl 18 (og 30 28 true (.mv (tt 5))), dl 19 (og 31 28 true (.bin .sub (tt 30) (ci 1))), dl 20 (og 32 28 true (.ia 1 (tt 29) (tt 31))), dl 21 (og 33 28 true (.ld (tt 32))), dl 22 (og 34 28 true (.mv (tt 0))), dl 23 (og 35 28 true (.mv (tt 5))), dl 24 (og 36 28 true (.ia 1 (tt 34) (tt 35))), dl 25 (og 37 28 true (.ld (tt 36))), dl 26 (og 38 28 true (.bin .geq (tt 33) (tt 37))), dl 27 (og 39 25 false (.pick (tt 28) (tt 38) (cb  false))), dl 28 (oo 40 (.pick (tt 25) (cb  true) (tt 39)))]
abbrev c_laws_b10Rises_4 : List GOp := [oo 4 (.mv (cb  false))]
abbrev c_laws_b10Rises_5 : List GOp := [oo 10 (.mv (tt 5)), oo 11 (.bin .add (tt 10) (ci 1)), oo 5 (.mv (tt 11))]
abbrev c_laws_b10Rises_l0 : GCode := .seq (.seq (.reg c_laws_b10Rises_2) (.cond (tt 9) (.skip) (.exit 0))) (.seq (.blk 1 (.seq (.dreg c_laws_b10Rises_3) (.cond (tt 40) (.seq (.reg c_laws_b10Rises_4) (.ret)) (.skip)))) (.reg c_laws_b10Rises_5))
abbrev c_laws_b10Rises_7 : List GOp := [oo 4 (.mv (cb  true))]
abbrev c_laws_b10Rises : GCode := .seq (.reg c_laws_b10Rises_0) (.seq (.seq (.reg c_laws_b10Rises_1) (.blk 0 (.loop c_laws_b10Rises_l0))) (.seq (.reg c_laws_b10Rises_7) (.ret)))
theorem c_laws_b10Rises_d : decFn Try.prog Try.f70 = some (41, [.t 4], c_laws_b10Rises) := by kernel_rfl
theorem c_laws_b10Rises_i {args : List Value} {G : GH} {K : Value → GH → Prop} (hn : args.length ≤ 41) (h : gW Try.prog c_laws_b10Rises (RetK [.t 4] K) (T0 args) G) : GC Try.prog 70 args G K := GC_intro mixed Try.func70 c_laws_b10Rises_d hn h
abbrev c_slices_Clone_int64_int64_0 : List GOp := [oo 2 (.mv (.const (.slice none 0 0)))]
abbrev c_slices_Clone_int64_int64_1 : List GOp := [oo 3 (.mv (tt 0)), oo 4 (.eqs false (tt 3) (.const (.slice none 0 0)))]
abbrev c_slices_Clone_int64_int64_2 : List GOp := [oo 2 (.mv (.const (.slice none 0 0)))]
abbrev c_slices_Clone_int64_int64_3 : List GOp := [oo 5 (.bs 1 []), oo 6 (.mv (tt 0)), oo 7 (.ap 1 8 [.int .i64 0] (tt 5) (tt 6)), oo 2 (.mv (tt 7))]
abbrev c_slices_Clone_int64_int64 : GCode := .seq (.reg c_slices_Clone_int64_int64_0) (.seq (.seq (.reg c_slices_Clone_int64_int64_1) (.cond (tt 4) (.seq (.reg c_slices_Clone_int64_int64_2) (.ret)) (.skip))) (.seq (.reg c_slices_Clone_int64_int64_3) (.ret)))
theorem c_slices_Clone_int64_int64_d : decFn Try.prog Try.f123 = some (8, [.t 2], c_slices_Clone_int64_int64) := by kernel_rfl
theorem c_slices_Clone_int64_int64_i {args : List Value} {G : GH} {K : Value → GH → Prop} (hn : args.length ≤ 8) (h : gW Try.prog c_slices_Clone_int64_int64 (RetK [.t 2] K) (T0 args) G) : GC Try.prog 123 args G K := GC_intro mixed Try.func123 c_slices_Clone_int64_int64_d hn h
abbrev c_slices_ContainsFunc_int64_int64_0 : List GOp := [oo 4 (.mv (cb  false))]
abbrev c_slices_ContainsFunc_int64_int64_1 : List GOp := [oo 5 (.mv (tt 0)), oo 6 (.mv (tt 1)), oo 7 (.call (ff 222) [tt 5, tt 6]), oo 8 (.bin .geq (tt 7) (ci 0)), oo 4 (.mv (tt 8))]
abbrev c_slices_ContainsFunc_int64_int64 : GCode := .seq (.reg c_slices_ContainsFunc_int64_int64_0) (.seq (.reg c_slices_ContainsFunc_int64_int64_1) (.ret))
theorem c_slices_ContainsFunc_int64_int64_d : decFn Try.prog Try.f152 = some (9, [.t 4], c_slices_ContainsFunc_int64_int64) := by kernel_rfl
theorem c_slices_ContainsFunc_int64_int64_i {args : List Value} {G : GH} {K : Value → GH → Prop} (hn : args.length ≤ 9) (h : gW Try.prog c_slices_ContainsFunc_int64_int64 (RetK [.t 4] K) (T0 args) G) : GC Try.prog 152 args G K := GC_intro mixed Try.func152 c_slices_ContainsFunc_int64_int64_d hn h
abbrev c_slices_Contains_int64_int64_0 : List GOp := [oo 4 (.mv (cb  false))]
abbrev c_slices_Contains_int64_int64_1 : List GOp := [oo 5 (.mv (tt 0)), oo 6 (.mv (tt 1)), oo 7 (.call (ff 166) [tt 5, tt 6]), oo 8 (.bin .geq (tt 7) (ci 0)), oo 4 (.mv (tt 8))]
abbrev c_slices_Contains_int64_int64 : GCode := .seq (.reg c_slices_Contains_int64_int64_0) (.seq (.reg c_slices_Contains_int64_int64_1) (.ret))
theorem c_slices_Contains_int64_int64_d : decFn Try.prog Try.f137 = some (9, [.t 4], c_slices_Contains_int64_int64) := by kernel_rfl
theorem c_slices_Contains_int64_int64_i {args : List Value} {G : GH} {K : Value → GH → Prop} (hn : args.length ≤ 9) (h : gW Try.prog c_slices_Contains_int64_int64 (RetK [.t 4] K) (T0 args) G) : GC Try.prog 137 args G K := GC_intro mixed Try.func137 c_slices_Contains_int64_int64_d hn h
abbrev c_slices_Equal_int64_int64_0 : List GOp := [oo 4 (.mv (cb  false))]
abbrev c_slices_Equal_int64_int64_1 : List GOp := [oo 6 (.mv (tt 0)), oo 7 (.len (tt 6)), oo 8 (.mv (tt 1)), oo 9 (.len (tt 8)), oo 10 (.bin .neq (tt 7) (tt 9))]
abbrev c_slices_Equal_int64_int64_2 : List GOp := [oo 4 (.mv (cb  false))]
abbrev c_slices_Equal_int64_int64_3 : List GOp := [oo 11 (.mv (tt 0)), oo 12 (.len (tt 11)), oo 13 (.mv (ci 0))]
abbrev c_slices_Equal_int64_int64_4 : List GOp := [oo 14 (.bin .lss (tt 13) (tt 12))]
abbrev c_slices_Equal_int64_int64_5 : List GOp := [oo 15 (.mv (tt 13)), oo 5 (.mv (tt 15))]
abbrev c_slices_Equal_int64_int64_6 : List DOp := [dl 0 (oo 16 (.mv (tt 0))), dl 1 (oo 17 (.mv (tt 5))), dl 2 (oo 18 (.ia 1 (tt 16) (tt 17))), dl 3 (oo 19 (.ld (tt 18))), dl 4 (oo 20 (.mv (tt 1))), dl 5 (oo 21 (.mv (tt 5))), dl 6 (oo 22 (.ia 1 (tt 20) (tt 21))), dl 7 (oo 23 (.ld (tt 22))), dl 8 (oo 24 (.bin .neq (tt 19) (tt 23)))]
abbrev c_slices_Equal_int64_int64_7 : List GOp := [oo 4 (.mv (cb  false))]
abbrev c_slices_Equal_int64_int64_8 : List GOp := [oo 25 (.bin .add (tt 13) (ci 1)), oo 13 (.mv (tt 25))]
abbrev c_slices_Equal_int64_int64_l0 : GCode := .seq (.reg c_slices_Equal_int64_int64_4) (.seq (.cond (tt 14) (.skip) (.exit 0)) (.seq (.blk 1 (.seq (.reg c_slices_Equal_int64_int64_5) (.seq (.dreg c_slices_Equal_int64_int64_6) (.cond (tt 24) (.seq (.reg c_slices_Equal_int64_int64_7) (.ret)) (.skip))))) (.reg c_slices_Equal_int64_int64_8)))
abbrev c_slices_Equal_int64_int64_10 : List GOp := [oo 4 (.mv (cb  true))]
abbrev c_slices_Equal_int64_int64 : GCode := .seq (.reg c_slices_Equal_int64_int64_0) (.seq (.seq (.reg c_slices_Equal_int64_int64_1) (.cond (tt 10) (.seq (.reg c_slices_Equal_int64_int64_2) (.ret)) (.skip))) (.seq (.seq (.reg c_slices_Equal_int64_int64_3) (.blk 0 (.loop c_slices_Equal_int64_int64_l0))) (.seq (.reg c_slices_Equal_int64_int64_10) (.ret))))
theorem c_slices_Equal_int64_int64_d : decFn Try.prog Try.f205 = some (26, [.t 4], c_slices_Equal_int64_int64) := by kernel_rfl
theorem c_slices_Equal_int64_int64_i {args : List Value} {G : GH} {K : Value → GH → Prop} (hn : args.length ≤ 26) (h : gW Try.prog c_slices_Equal_int64_int64 (RetK [.t 4] K) (T0 args) G) : GC Try.prog 205 args G K := GC_intro mixed Try.func205 c_slices_Equal_int64_int64_d hn h
abbrev c_slices_IndexFunc_int64_int64_0 : List GOp := [oo 4 (.mv (ci 0))]
abbrev c_slices_IndexFunc_int64_int64_1 : List GOp := [oo 6 (.mv (tt 0)), oo 7 (.len (tt 6)), oo 8 (.mv (ci 0))]
abbrev c_slices_IndexFunc_int64_int64_2 : List GOp := [oo 9 (.bin .lss (tt 8) (tt 7))]
abbrev c_slices_IndexFunc_int64_int64_3 : List GOp := [oo 10 (.mv (tt 8)), oo 5 (.mv (tt 10))]
abbrev c_slices_IndexFunc_int64_int64_4 : List GOp := [oo 11 (.mv (tt 1)), oo 12 (.mv (tt 0)), oo 13 (.mv (tt 5)), oo 14 (.ia 1 (tt 12) (tt 13)), oo 15 (.ld (tt 14)), oo 16 (.call (tt 11) [tt 15])]
abbrev c_slices_IndexFunc_int64_int64_5 : List GOp := [oo 17 (.mv (tt 5)), oo 4 (.mv (tt 17))]
abbrev c_slices_IndexFunc_int64_int64_6 : List GOp := [oo 18 (.bin .add (tt 8) (ci 1)), oo 8 (.mv (tt 18))]
abbrev c_slices_IndexFunc_int64_int64_l0 : GCode := .seq (.reg c_slices_IndexFunc_int64_int64_2) (.seq (.cond (tt 9) (.skip) (.exit 0)) (.seq (.blk 1 (.seq (.reg c_slices_IndexFunc_int64_int64_3) (.seq (.reg c_slices_IndexFunc_int64_int64_4) (.cond (tt 16) (.seq (.reg c_slices_IndexFunc_int64_int64_5) (.ret)) (.skip))))) (.reg c_slices_IndexFunc_int64_int64_6)))
abbrev c_slices_IndexFunc_int64_int64_8 : List GOp := [oo 4 (.mv (ci (-1)))]
abbrev c_slices_IndexFunc_int64_int64 : GCode := .seq (.reg c_slices_IndexFunc_int64_int64_0) (.seq (.seq (.reg c_slices_IndexFunc_int64_int64_1) (.blk 0 (.loop c_slices_IndexFunc_int64_int64_l0))) (.seq (.reg c_slices_IndexFunc_int64_int64_8) (.ret)))
theorem c_slices_IndexFunc_int64_int64_d : decFn Try.prog Try.f222 = some (19, [.t 4], c_slices_IndexFunc_int64_int64) := by kernel_rfl
theorem c_slices_IndexFunc_int64_int64_i {args : List Value} {G : GH} {K : Value → GH → Prop} (hn : args.length ≤ 19) (h : gW Try.prog c_slices_IndexFunc_int64_int64 (RetK [.t 4] K) (T0 args) G) : GC Try.prog 222 args G K := GC_intro mixed Try.func222 c_slices_IndexFunc_int64_int64_d hn h
abbrev c_slices_Index_int64_int64_0 : List GOp := [oo 4 (.mv (ci 0))]
abbrev c_slices_Index_int64_int64_1 : List GOp := [oo 6 (.mv (tt 0)), oo 7 (.len (tt 6)), oo 8 (.mv (ci 0))]
abbrev c_slices_Index_int64_int64_2 : List GOp := [oo 9 (.bin .lss (tt 8) (tt 7))]
abbrev c_slices_Index_int64_int64_3 : List GOp := [oo 10 (.mv (tt 8)), oo 5 (.mv (tt 10))]
abbrev c_slices_Index_int64_int64_4 : List GOp := [oo 11 (.mv (tt 1)), oo 12 (.mv (tt 0)), oo 13 (.mv (tt 5)), oo 14 (.ia 1 (tt 12) (tt 13)), oo 15 (.ld (tt 14)), oo 16 (.bin .eql (tt 11) (tt 15))]
abbrev c_slices_Index_int64_int64_5 : List GOp := [oo 17 (.mv (tt 5)), oo 4 (.mv (tt 17))]
abbrev c_slices_Index_int64_int64_6 : List GOp := [oo 18 (.bin .add (tt 8) (ci 1)), oo 8 (.mv (tt 18))]
abbrev c_slices_Index_int64_int64_l0 : GCode := .seq (.reg c_slices_Index_int64_int64_2) (.seq (.cond (tt 9) (.skip) (.exit 0)) (.seq (.blk 1 (.seq (.reg c_slices_Index_int64_int64_3) (.seq (.reg c_slices_Index_int64_int64_4) (.cond (tt 16) (.seq (.reg c_slices_Index_int64_int64_5) (.ret)) (.skip))))) (.reg c_slices_Index_int64_int64_6)))
abbrev c_slices_Index_int64_int64_8 : List GOp := [oo 4 (.mv (ci (-1)))]
abbrev c_slices_Index_int64_int64 : GCode := .seq (.reg c_slices_Index_int64_int64_0) (.seq (.seq (.reg c_slices_Index_int64_int64_1) (.blk 0 (.loop c_slices_Index_int64_int64_l0))) (.seq (.reg c_slices_Index_int64_int64_8) (.ret)))
theorem c_slices_Index_int64_int64_d : decFn Try.prog Try.f166 = some (19, [.t 4], c_slices_Index_int64_int64) := by kernel_rfl
theorem c_slices_Index_int64_int64_i {args : List Value} {G : GH} {K : Value → GH → Prop} (hn : args.length ≤ 19) (h : gW Try.prog c_slices_Index_int64_int64 (RetK [.t 4] K) (T0 args) G) : GC Try.prog 166 args G K := GC_intro mixed Try.func166 c_slices_Index_int64_int64_d hn h
abbrev c_slices_Max_int64_int64_0 : List GOp := [oo 2 (.mv (ci 0))]
abbrev c_slices_Max_int64_int64_1 : List GOp := [oo 5 (.mv (tt 0)), oo 6 (.len (tt 5)), oo 7 (.bin .lss (tt 6) (ci 1))]
abbrev c_slices_Max_int64_int64_2 : List GOp := [oo 8 (.mi 9 (.const (.string ⟨#[115, 108, 105, 99, 101, 115, 46, 77, 97, 120, 58, 32, 101, 109, 112, 116, 121, 32, 108, 105, 115, 116]⟩))), on (.bad)]
abbrev c_slices_Max_int64_int64_3 : List GOp := [oo 9 (.mv (tt 0)), oo 10 (.ia 1 (tt 9) (ci 0)), oo 11 (.ld (tt 10)), oo 3 (.mv (tt 11))]
abbrev c_slices_Max_int64_int64_4 : List GOp := [oo 4 (.mv (ci 1))]
abbrev c_slices_Max_int64_int64_5 : List GOp := [oo 12 (.mv (tt 4)), oo 13 (.mv (tt 0)), oo 14 (.len (tt 13)), oo 15 (.bin .lss (tt 12) (tt 14))]
abbrev c_slices_Max_int64_int64_6 : List GOp := [oo 18 (.mv (tt 3)), oo 19 (.mv (tt 0)), oo 20 (.mv (tt 4)), oo 21 (.ia 1 (tt 19) (tt 20)), oo 22 (.ld (tt 21)), oo 23 (.mx [tt 18, tt 22]), oo 3 (.mv (tt 23))]
abbrev c_slices_Max_int64_int64_7 : List GOp := [oo 16 (.mv (tt 4)), oo 17 (.bin .add (tt 16) (ci 1)), oo 4 (.mv (tt 17))]
abbrev c_slices_Max_int64_int64_l0 : GCode := .seq (.seq (.reg c_slices_Max_int64_int64_5) (.cond (tt 15) (.skip) (.exit 0))) (.seq (.blk 1 (.reg c_slices_Max_int64_int64_6)) (.reg c_slices_Max_int64_int64_7))
abbrev c_slices_Max_int64_int64_9 : List GOp := [oo 24 (.mv (tt 3)), oo 2 (.mv (tt 24))]
abbrev c_slices_Max_int64_int64 : GCode := .seq (.reg c_slices_Max_int64_int64_0) (.seq (.seq (.reg c_slices_Max_int64_int64_1) (.cond (tt 7) (.reg c_slices_Max_int64_int64_2) (.skip))) (.seq (.reg c_slices_Max_int64_int64_3) (.seq (.seq (.reg c_slices_Max_int64_int64_4) (.blk 0 (.loop c_slices_Max_int64_int64_l0))) (.seq (.reg c_slices_Max_int64_int64_9) (.ret)))))
theorem c_slices_Max_int64_int64_d : decFn Try.prog Try.f154 = some (25, [.t 2], c_slices_Max_int64_int64) := by kernel_rfl
theorem c_slices_Max_int64_int64_i {args : List Value} {G : GH} {K : Value → GH → Prop} (hn : args.length ≤ 25) (h : gW Try.prog c_slices_Max_int64_int64 (RetK [.t 2] K) (T0 args) G) : GC Try.prog 154 args G K := GC_intro mixed Try.func154 c_slices_Max_int64_int64_d hn h
abbrev c_slices_Min_int64_int64_0 : List GOp := [oo 2 (.mv (ci 0))]
abbrev c_slices_Min_int64_int64_1 : List GOp := [oo 5 (.mv (tt 0)), oo 6 (.len (tt 5)), oo 7 (.bin .lss (tt 6) (ci 1))]
abbrev c_slices_Min_int64_int64_2 : List GOp := [oo 8 (.mi 9 (.const (.string ⟨#[115, 108, 105, 99, 101, 115, 46, 77, 105, 110, 58, 32, 101, 109, 112, 116, 121, 32, 108, 105, 115, 116]⟩))), on (.bad)]
abbrev c_slices_Min_int64_int64_3 : List GOp := [oo 9 (.mv (tt 0)), oo 10 (.ia 1 (tt 9) (ci 0)), oo 11 (.ld (tt 10)), oo 3 (.mv (tt 11))]
abbrev c_slices_Min_int64_int64_4 : List GOp := [oo 4 (.mv (ci 1))]
abbrev c_slices_Min_int64_int64_5 : List GOp := [oo 12 (.mv (tt 4)), oo 13 (.mv (tt 0)), oo 14 (.len (tt 13)), oo 15 (.bin .lss (tt 12) (tt 14))]
abbrev c_slices_Min_int64_int64_6 : List GOp := [oo 18 (.mv (tt 3)), oo 19 (.mv (tt 0)), oo 20 (.mv (tt 4)), oo 21 (.ia 1 (tt 19) (tt 20)), oo 22 (.ld (tt 21)), oo 23 (.mn [tt 18, tt 22]), oo 3 (.mv (tt 23))]
abbrev c_slices_Min_int64_int64_7 : List GOp := [oo 16 (.mv (tt 4)), oo 17 (.bin .add (tt 16) (ci 1)), oo 4 (.mv (tt 17))]
abbrev c_slices_Min_int64_int64_l0 : GCode := .seq (.seq (.reg c_slices_Min_int64_int64_5) (.cond (tt 15) (.skip) (.exit 0))) (.seq (.blk 1 (.reg c_slices_Min_int64_int64_6)) (.reg c_slices_Min_int64_int64_7))
abbrev c_slices_Min_int64_int64_9 : List GOp := [oo 24 (.mv (tt 3)), oo 2 (.mv (tt 24))]
abbrev c_slices_Min_int64_int64 : GCode := .seq (.reg c_slices_Min_int64_int64_0) (.seq (.seq (.reg c_slices_Min_int64_int64_1) (.cond (tt 7) (.reg c_slices_Min_int64_int64_2) (.skip))) (.seq (.reg c_slices_Min_int64_int64_3) (.seq (.seq (.reg c_slices_Min_int64_int64_4) (.blk 0 (.loop c_slices_Min_int64_int64_l0))) (.seq (.reg c_slices_Min_int64_int64_9) (.ret)))))
theorem c_slices_Min_int64_int64_d : decFn Try.prog Try.f155 = some (25, [.t 2], c_slices_Min_int64_int64) := by kernel_rfl
theorem c_slices_Min_int64_int64_i {args : List Value} {G : GH} {K : Value → GH → Prop} (hn : args.length ≤ 25) (h : gW Try.prog c_slices_Min_int64_int64 (RetK [.t 2] K) (T0 args) G) : GC Try.prog 155 args G K := GC_intro mixed Try.func155 c_slices_Min_int64_int64_d hn h
abbrev c_spec_DrawFewestFixed_0 : List GOp := [oo 2 (.al [.int .i64 0, .slice none 0 0]), oo 3 (.mv (.const (.slice none 0 0))), oo 4 (.mv (ci 0)), oo 5 (.mv (ci 0)), oo 6 (.mv (ci 0))]
abbrev c_spec_DrawFewestFixed_1 : List GOp := [oo 13 (.mv (tt 0)), oo 14 (.call (ff 145) [tt 13]), oo 7 (.mv (tt 14))]
abbrev c_spec_DrawFewestFixed_2 : List GOp := [oo 15 (.mv (tt 7)), oo 16 (.call (ff 146) [tt 15]), oo 8 (.al [.int .i64 0, .slice none 0 0]), on (.st 2 (tt 8) (tt 16))]
abbrev c_spec_DrawFewestFixed_3 : List GOp := [oo 17 (.mv (tt 7)), oo 18 (.call (ff 149) [tt 17, tt 8]), oo 9 (.mv (tt 18))]
abbrev c_spec_DrawFewestFixed_4 : List GOp := [oo 19 (.mv (tt 7)), oo 20 (.call (ff 156) [tt 19]), oo 10 (.mv (tt 20))]
abbrev c_spec_DrawFewestFixed_5 : List GOp := [oo 21 (.mv (tt 7)), oo 22 (.bs 1 [(ci 0), (ci 10), (ci 20), (ci 7), (ci 1000000), (ci 1000001)]), oo 23 (.call (ff 157) [tt 21, tt 22]), oo 11 (.mv (tt 23))]
abbrev c_spec_DrawFewestFixed_6 : List GOp := [oo 24 (.mv (tt 7)), oo 25 (.bs 1 [(ci 64), (ci 1), (ci 5), (ci 64), (ci 20), (ci 0)]), oo 26 (.call (ff 157) [tt 24, tt 25]), oo 12 (.mv (tt 26))]
abbrev c_spec_DrawFewestFixed_7 : List GOp := [oo 27 (.ldn 2 (tt 8)), oo 28 (.mv (tt 9)), oo 29 (.mv (tt 10)), oo 30 (.mv (tt 11)), oo 31 (.mv (tt 12)), on (.st 2 (tt 2) (tt 27)), oo 3 (.mv (tt 28)), oo 4 (.mv (tt 29)), oo 5 (.mv (tt 30)), oo 6 (.mv (tt 31))]
abbrev c_spec_DrawFewestFixed : GCode := .seq (.reg c_spec_DrawFewestFixed_0) (.seq (.reg c_spec_DrawFewestFixed_1) (.seq (.reg c_spec_DrawFewestFixed_2) (.seq (.reg c_spec_DrawFewestFixed_3) (.seq (.reg c_spec_DrawFewestFixed_4) (.seq (.reg c_spec_DrawFewestFixed_5) (.seq (.reg c_spec_DrawFewestFixed_6) (.seq (.reg c_spec_DrawFewestFixed_7) (.ret))))))))
theorem c_spec_DrawFewestFixed_d : decFn Try.prog Try.f73 = some (32, [.cn 2 2, .t 3, .t 4, .t 5, .t 6], c_spec_DrawFewestFixed) := by kernel_rfl
theorem c_spec_DrawFewestFixed_i {args : List Value} {G : GH} {K : Value → GH → Prop} (hn : args.length ≤ 32) (h : gW Try.prog c_spec_DrawFewestFixed (RetK [.cn 2 2, .t 3, .t 4, .t 5, .t 6] K) (T0 args) G) : GC Try.prog 73 args G K := GC_intro mixed Try.func73 c_spec_DrawFewestFixed_d hn h
abbrev c_spec_DrawRoundsToRest_0 : List GOp := [oo 2 (.al [.int .i64 0, .slice none 0 0]), oo 3 (.mv (.const (.slice none 0 0))), oo 4 (.mv (ci 0)), oo 5 (.mv (.const (.slice none 0 0)))]
abbrev c_spec_DrawRoundsToRest_1 : List GOp := [oo 7 (.mv (tt 0)), oo 8 (.call (ff 145) [tt 7]), oo 6 (.mv (tt 8))]
abbrev c_spec_DrawRoundsToRest_2 : List GOp := [oo 9 (.mv (tt 6)), oo 10 (.call (ff 151) [tt 9]), oo 11 (.ex 0 (tt 10)), oo 12 (.ex 1 (tt 10)), oo 13 (.ex 2 (tt 10)), oo 14 (.ex 3 (tt 10)), on (.st 2 (tt 2) (tt 11)), oo 3 (.mv (tt 12)), oo 4 (.mv (tt 13)), oo 5 (.mv (tt 14))]
abbrev c_spec_DrawRoundsToRest : GCode := .seq (.reg c_spec_DrawRoundsToRest_0) (.seq (.reg c_spec_DrawRoundsToRest_1) (.seq (.reg c_spec_DrawRoundsToRest_2) (.ret)))
theorem c_spec_DrawRoundsToRest_d : decFn Try.prog Try.f71 = some (15, [.cn 2 2, .t 3, .t 4, .t 5], c_spec_DrawRoundsToRest) := by kernel_rfl
theorem c_spec_DrawRoundsToRest_i {args : List Value} {G : GH} {K : Value → GH → Prop} (hn : args.length ≤ 15) (h : gW Try.prog c_spec_DrawRoundsToRest (RetK [.cn 2 2, .t 3, .t 4, .t 5] K) (T0 args) G) : GC Try.prog 71 args G K := GC_intro mixed Try.func71 c_spec_DrawRoundsToRest_d hn h
abbrev c_spec_l00From_0 : List GOp := [oo 2 (.mv (.const (.pointer none)))]
abbrev c_spec_l00From_1 : List GOp := [oo 3 (.mv (tt 0)), oo 4 (.bld [.slice none 0 0, .int .i64 0, .int .u64 0] [(0, 1, (tt 3))]), oo 5 (.bx (tt 4)), oo 2 (.mv (tt 5))]
abbrev c_spec_l00From : GCode := .seq (.reg c_spec_l00From_0) (.seq (.reg c_spec_l00From_1) (.ret))
theorem c_spec_l00From_d : decFn Try.prog Try.f145 = some (6, [.t 2], c_spec_l00From) := by kernel_rfl
theorem c_spec_l00From_i {args : List Value} {G : GH} {K : Value → GH → Prop} (hn : args.length ≤ 6) (h : gW Try.prog c_spec_l00From (RetK [.t 2] K) (T0 args) G) : GC Try.prog 145 args G K := GC_intro mixed Try.func145 c_spec_l00From_d hn h
abbrev c_spec_l00Src_among_0 : List GOp := [oo 4 (.mv (ci 0))]
abbrev c_spec_l00Src_among_1 : List GOp := [oo 5 (.mv (tt 1)), oo 6 (.mv (tt 0)), oo 7 (.mv (tt 1)), oo 8 (.len (tt 7)), oo 9 (.call (ff 220) [tt 6, tt 8]), oo 10 (.ia 1 (tt 5) (tt 9)), oo 11 (.ld (tt 10)), oo 4 (.mv (tt 11))]
abbrev c_spec_l00Src_among : GCode := .seq (.reg c_spec_l00Src_among_0) (.seq (.reg c_spec_l00Src_among_1) (.ret))
theorem c_spec_l00Src_among_d : decFn Try.prog Try.f157 = some (12, [.t 4], c_spec_l00Src_among) := by kernel_rfl
theorem c_spec_l00Src_among_i {args : List Value} {G : GH} {K : Value → GH → Prop} (hn : args.length ≤ 12) (h : gW Try.prog c_spec_l00Src_among (RetK [.t 4] K) (T0 args) G) : GC Try.prog 157 args G K := GC_intro mixed Try.func157 c_spec_l00Src_among_d hn h
abbrev c_spec_l00Src_next_0 : List GOp := [oo 2 (.mv (ci 0))]
abbrev c_spec_l00Src_next_1 : List GOp := [oo 3 (.mv (ci 0))]
abbrev c_spec_l00Src_next_2 : List DOp := [dl 0 (oo 4 (.mv (tt 0))), dl 1 (oo 5 (.nc (tt 4))), dl 2 (oo 6 (.fa 1 (tt 5))), dl 3 (oo 7 (.ld (tt 6))), dl 4 (oo 8 (.mv (tt 0))), dl 5 (oo 9 (.nc (tt 8))), dl 6 (oo 10 (.fa 0 (tt 9))), dl 7 (oo 11 (.ld (tt 10))), dl 8 (oo 12 (.len (tt 11))), dl 9 (oo 13 (.bin .lss (tt 7) (tt 12)))]
abbrev c_spec_l00Src_next_3 : List DOp := [dl 0 (oo 14 (.mv (tt 0))), dl 1 (oo 15 (.nc (tt 14))), dl 2 (oo 16 (.fa 0 (tt 15))), dl 3 (oo 17 (.ld (tt 16))), dl 4 (oo 18 (.mv (tt 0))), dl 5 (oo 19 (.nc (tt 18))), dl 6 (oo 20 (.fa 1 (tt 19))), dl 7 (oo 21 (.ld (tt 20))), dl 8 (oo 22 (.ia 1 (tt 17) (tt 21))), dl 9 (oo 23 (.ld (tt 22))), dl 10 (oo 24 (.cvi .i64 (tt 23))), dl 11 (oo 3 (.mv (tt 24)))]
abbrev c_spec_l00Src_next_4 : List GOp := [oo 25 (.mv (tt 0)), oo 26 (.nc (tt 25)), oo 27 (.fa 1 (tt 26)), oo 28 (.ld (tt 27)), oo 29 (.bin .add (tt 28) (ci 1)), oo 30 (.nc (tt 25)), oo 31 (.fa 1 (tt 30)), on (.st 1 (tt 31) (tt 29))]
abbrev c_spec_l00Src_next_5 : List GOp := [oo 32 (.mv (tt 0)), oo 33 (.mv (tt 0)), oo 34 (.nc (tt 33)), oo 35 (.fa 2 (tt 34)), oo 36 (.ld (tt 35)), oo 37 (.bin .mul (tt 36) (.const (.int .u64 6364136223846793005))), oo 38 (.mv (tt 3)), oo 39 (.cvi .u64 (tt 38)), oo 40 (.bin .add (tt 37) (tt 39)), oo 41 (.bin .add (tt 40) (.const (.int .u64 1442695040888963407))), oo 42 (.nc (tt 32)), oo 43 (.fa 2 (tt 42)), on (.st 1 (tt 43) (tt 41))]
abbrev c_spec_l00Src_next_6 : List DOp := [dl 0 (oo 44 (.mv (tt 0))), dl 1 (oo 45 (.nc (tt 44))), dl 2 (oo 46 (.fa 1 (tt 45))), dl 3 (oo 47 (.ld (tt 46))), dl 4 (oo 48 (.mv (tt 0))), dl 5 (oo 49 (.nc (tt 48))), dl 6 (oo 50 (.fa 0 (tt 49))), dl 7 (oo 51 (.ld (tt 50))), dl 8 (oo 52 (.len (tt 51))), dl 9 (oo 53 (.bin .leq (tt 47) (tt 52)))]
abbrev c_spec_l00Src_next_7 : List GOp := [oo 54 (.mv (tt 3)), oo 2 (.mv (tt 54))]
abbrev c_spec_l00Src_next_8 : List GOp := [oo 55 (.mv (tt 0)), oo 56 (.nc (tt 55)), oo 57 (.fa 2 (tt 56)), oo 58 (.ld (tt 57)), oo 59 (.bin .shr (tt 58) (.const (.int .u64 40))), oo 60 (.bin .and (tt 59) (.const (.int .u64 255))), oo 61 (.cvi .i64 (tt 60)), oo 2 (.mv (tt 61))]
abbrev c_spec_l00Src_next : GCode := .seq (.reg c_spec_l00Src_next_0) (.seq (.reg c_spec_l00Src_next_1) (.seq (.seq (.dreg c_spec_l00Src_next_2) (.cond (tt 13) (.dreg c_spec_l00Src_next_3) (.skip))) (.seq (.reg c_spec_l00Src_next_4) (.seq (.reg c_spec_l00Src_next_5) (.seq (.seq (.dreg c_spec_l00Src_next_6) (.cond (tt 53) (.seq (.reg c_spec_l00Src_next_7) (.ret)) (.skip))) (.seq (.reg c_spec_l00Src_next_8) (.ret)))))))
theorem c_spec_l00Src_next_d : decFn Try.prog Try.f249 = some (62, [.t 2], c_spec_l00Src_next) := by kernel_rfl
theorem c_spec_l00Src_next_i {args : List Value} {G : GH} {K : Value → GH → Prop} (hn : args.length ≤ 62) (h : gW Try.prog c_spec_l00Src_next (RetK [.t 2] K) (T0 args) G) : GC Try.prog 249 args G K := GC_intro mixed Try.func249 c_spec_l00Src_next_d hn h
abbrev c_spec_l00Src_one_0 : List GOp := [oo 4 (.mv (cb  false))]
abbrev c_spec_l00Src_one_1 : List GOp := [oo 5 (.mv (tt 0)), oo 6 (.mv (tt 1)), oo 7 (.call (ff 220) [tt 5, tt 6]), oo 8 (.bin .eql (tt 7) (ci 0)), oo 4 (.mv (tt 8))]
abbrev c_spec_l00Src_one : GCode := .seq (.reg c_spec_l00Src_one_0) (.seq (.reg c_spec_l00Src_one_1) (.ret))
theorem c_spec_l00Src_one_d : decFn Try.prog Try.f221 = some (9, [.t 4], c_spec_l00Src_one) := by kernel_rfl
theorem c_spec_l00Src_one_i {args : List Value} {G : GH} {K : Value → GH → Prop} (hn : args.length ≤ 9) (h : gW Try.prog c_spec_l00Src_one (RetK [.t 4] K) (T0 args) G) : GC Try.prog 221 args G K := GC_intro mixed Try.func221 c_spec_l00Src_one_d hn h
abbrev c_spec_l00Src_pick_0 : List GOp := [oo 4 (.mv (ci 0))]
abbrev c_spec_l00Src_pick_1 : List GOp := [oo 6 (.mv (tt 1)), oo 7 (.bin .leq (tt 6) (ci 1))]
abbrev c_spec_l00Src_pick_2 : List GOp := [oo 4 (.mv (ci 0))]
abbrev c_spec_l00Src_pick_3 : List GOp := [oo 8 (.mv (tt 0)), oo 9 (.call (ff 249) [tt 8]), oo 5 (.mv (tt 9))]
abbrev c_spec_l00Src_pick_4 : List GOp := [oo 10 (.mv (tt 1)), oo 11 (.bin .gtr (tt 10) (ci 200))]
abbrev c_spec_l00Src_pick_5 : List GOp := [oo 12 (.mv (tt 5)), oo 13 (.bin .mul (tt 12) (ci 256)), oo 14 (.mv (tt 0)), oo 15 (.call (ff 249) [tt 14]), oo 16 (.bin .add (tt 13) (tt 15)), oo 5 (.mv (tt 16))]
abbrev c_spec_l00Src_pick_6 : List GOp := [oo 17 (.mv (tt 5)), oo 18 (.mv (tt 1)), oo 19 (.bin .rem (tt 17) (tt 18)), oo 4 (.mv (tt 19))]
abbrev c_spec_l00Src_pick : GCode := .seq (.reg c_spec_l00Src_pick_0) (.seq (.seq (.reg c_spec_l00Src_pick_1) (.cond (tt 7) (.seq (.reg c_spec_l00Src_pick_2) (.ret)) (.skip))) (.seq (.reg c_spec_l00Src_pick_3) (.seq (.seq (.reg c_spec_l00Src_pick_4) (.cond (tt 11) (.reg c_spec_l00Src_pick_5) (.skip))) (.seq (.reg c_spec_l00Src_pick_6) (.ret)))))
theorem c_spec_l00Src_pick_d : decFn Try.prog Try.f220 = some (20, [.t 4], c_spec_l00Src_pick) := by kernel_rfl
theorem c_spec_l00Src_pick_i {args : List Value} {G : GH} {K : Value → GH → Prop} (hn : args.length ≤ 20) (h : gW Try.prog c_spec_l00Src_pick (RetK [.t 4] K) (T0 args) G) : GC Try.prog 220 args G K := GC_intro mixed Try.func220 c_spec_l00Src_pick_d hn h
abbrev c_spec_l16Draw_0 : List GOp := [oo 2 (.al [.int .i64 0, .slice none 0 0])]
abbrev c_spec_l16Draw_1 : List GOp := [oo 6 (.mv (tt 0)), oo 7 (.call (ff 219) [tt 6]), oo 3 (.al [.int .i64 0, .slice none 0 0]), on (.st 2 (tt 3) (tt 7))]
abbrev c_spec_l16Draw_2 : List GOp := [oo 8 (.mv (tt 0)), oo 9 (.call (ff 220) [tt 8, (ci 20)])]
abbrev c_spec_l16Draw_3 : List GOp := [oo 11 (.bin .eql (tt 9) (ci 0)), oo 10 (.mv (tt 11))]
abbrev c_spec_l16Draw_4 : List GOp := [oo 12 (.mv (tt 0)), oo 13 (.bs 1 [(ci 0), (ci 12), (ci 13)]), oo 14 (.call (ff 157) [tt 12, tt 13]), oo 15 (.fa 0 (tt 3)), on (.st 1 (tt 15) (tt 14))]
abbrev c_spec_l16Draw_5 : List GOp := [oo 17 (.bin .eql (tt 9) (ci 1)), oo 16 (.mv (tt 17))]
abbrev c_spec_l16Draw_6 : List DOp := [dl 0 (oo 18 (.fa 1 (tt 3))), dl 1 (oo 19 (.ld (tt 18))), dl 2 (oo 20 (.mv (tt 0))), dl 4 (oo 22 (.mv (tt 0))), dh 3 [1] (oo 21 (.call (ff 220) [tt 20, (ci 3)])), dh 5 [1] (oo 23 (.call (ff 220) [tt 22, (ci 4)])), dl 6 (oo 24 (.bld [.int .i64 0, .int .i64 0, .int .i64 0] [(0, 1, (tt 21)), (1, 1, (tt 23)), (2, 1, (ci 1))])), dh 7 [1] (oo 25 (.bs 3 [tt 24])), dh 8 [] (oo 26 (.ap 3 24 [.int .i64 0, .int .i64 0, .int .i64 0] (tt 19) (tt 25))), dl 9 (oo 27 (.fa 1 (tt 3))), dh 10 [] (on (.st 1 (tt 27) (tt 26)))]
abbrev c_spec_l16Draw_7 : List GOp := [oo 29 (.bin .eql (tt 9) (ci 2)), oo 28 (.mv (tt 29))]
abbrev c_spec_l16Draw_8 : List GOp := [oo 30 (.fa 1 (tt 3)), oo 31 (.ld (tt 30)), oo 32 (.len (tt 31)), oo 33 (.bin .gtr (tt 32) (ci 0))]
abbrev c_spec_l16Draw_9 : List DOp := [dl 0 (oo 34 (.fa 1 (tt 3))), dl 1 (oo 35 (.ld (tt 34))), dl 2 (oo 36 (.mv (tt 0))), dh 3 [1] (oo 37 (.bs 1 [(ci 0), (ci 9), (ci 10)])), dh 4 [1] (oo 38 (.call (ff 157) [tt 36, tt 37])), dl 5 (oo 39 (.ia 3 (tt 35) (ci 0))), dl 6 (oo 40 (.fa 2 (tt 39))), dh 7 [] (on (.st 1 (tt 40) (tt 38)))]
abbrev c_spec_l16Draw_10 : List GOp := [oo 42 (.bin .eql (tt 9) (ci 3)), oo 41 (.mv (tt 42))]
abbrev c_spec_l16Draw_11 : List GOp := [oo 43 (.mv (tt 0)), oo 44 (.bs 1 [(ci 24), (ci 25)]), oo 45 (.call (ff 157) [tt 43, tt 44]), oo 4 (.mv (tt 45))]
abbrev c_spec_l16Draw_12 : List GOp := [oo 46 (.bld [.int .i64 0, .slice none 0 0] [(0, 1, (ci 12))]), on (.st 2 (tt 3) (tt 46))]
abbrev c_spec_l16Draw_13 : List GOp := [oo 5 (.mv (ci 0))]
abbrev c_spec_l16Draw_14 : List GOp := [oo 47 (.mv (tt 5)), oo 48 (.mv (tt 4)), oo 49 (.bin .lss (tt 47) (tt 48))]
abbrev c_spec_l16Draw_15 : List GOp := [oo 52 (.fa 1 (tt 3)), oo 53 (.ld (tt 52)), oo 54 (.mv (tt 5)), oo 55 (.bin .quo (tt 54) (ci 8)), oo 56 (.mv (tt 5)), oo 57 (.bin .rem (tt 56) (ci 8)), oo 58 (.bin .add (ci 3) (tt 57)), oo 59 (.bld [.int .i64 0, .int .i64 0, .int .i64 0] [(0, 1, (tt 55)), (1, 1, (tt 58)), (2, 1, (ci 1))]), oo 60 (.bs 3 [tt 59]), oo 61 (.ap 3 24 [.int .i64 0, .int .i64 0, .int .i64 0] (tt 53) (tt 60)), oo 62 (.fa 1 (tt 3)), on (.st 1 (tt 62) (tt 61))]
abbrev c_spec_l16Draw_16 : List GOp := [oo 50 (.mv (tt 5)), oo 51 (.bin .add (tt 50) (ci 1)), oo 5 (.mv (tt 51))]
abbrev c_spec_l16Draw_l0 : GCode := .seq (.seq (.reg c_spec_l16Draw_14) (.cond (tt 49) (.skip) (.exit 1))) (.seq (.blk 2 (.reg c_spec_l16Draw_15)) (.reg c_spec_l16Draw_16))
abbrev c_spec_l16Draw_18 : List GOp := [oo 63 (.ldn 2 (tt 3)), on (.st 2 (tt 2) (tt 63))]
abbrev c_spec_l16Draw : GCode := .seq (.reg c_spec_l16Draw_0) (.seq (.reg c_spec_l16Draw_1) (.seq (.seq (.reg c_spec_l16Draw_2) (.blk 0 (.seq (.reg c_spec_l16Draw_3) (.cond (tt 10) (.reg c_spec_l16Draw_4) (.seq (.reg c_spec_l16Draw_5) (.cond (tt 16) (.dreg c_spec_l16Draw_6) (.seq (.reg c_spec_l16Draw_7) (.cond (tt 28) (.seq (.reg c_spec_l16Draw_8) (.cond (tt 33) (.dreg c_spec_l16Draw_9) (.skip))) (.seq (.reg c_spec_l16Draw_10) (.cond (tt 41) (.seq (.reg c_spec_l16Draw_11) (.seq (.reg c_spec_l16Draw_12) (.seq (.reg c_spec_l16Draw_13) (.blk 1 (.loop c_spec_l16Draw_l0))))) (.skip))))))))))) (.seq (.reg c_spec_l16Draw_18) (.ret))))
theorem c_spec_l16Draw_d : decFn Try.prog Try.f146 = some (64, [.cn 2 2], c_spec_l16Draw) := by kernel_rfl
theorem c_spec_l16Draw_i {args : List Value} {G : GH} {K : Value → GH → Prop} (hn : args.length ≤ 64) (h : gW Try.prog c_spec_l16Draw (RetK [.cn 2 2] K) (T0 args) G) : GC Try.prog 146 args G K := GC_intro mixed Try.func146 c_spec_l16Draw_d hn h
abbrev c_spec_l16DrawOk_0 : List GOp := [oo 2 (.al [.int .i64 0, .slice none 0 0])]
abbrev c_spec_l16DrawOk_1 : List GOp := [oo 7 (.mv (tt 0)), oo 8 (.call (ff 220) [tt 7, (ci 6)]), oo 9 (.bin .add (ci 1) (tt 8)), oo 10 (.bld [.int .i64 0, .slice none 0 0] [(0, 1, (tt 9))]), oo 3 (.al [.int .i64 0, .slice none 0 0]), on (.st 2 (tt 3) (tt 10))]
abbrev c_spec_l16DrawOk_2 : List GOp := [oo 11 (.mv (tt 0)), oo 12 (.bs 1 [(ci 2), (ci 2), (ci 3), (ci 9)]), oo 13 (.call (ff 157) [tt 11, tt 12]), oo 4 (.mv (tt 13))]
abbrev c_spec_l16DrawOk_3 : List GOp := [oo 14 (.mv (tt 0)), oo 15 (.call (ff 221) [tt 14, (ci 14)])]
abbrev c_spec_l16DrawOk_4 : List GOp := [oo 16 (.fa 0 (tt 3)), on (.st 1 (tt 16) (ci 12))]
abbrev c_spec_l16DrawOk_5 : List GOp := [oo 4 (.mv (ci 4))]
abbrev c_spec_l16DrawOk_6 : List GOp := [oo 5 (.mv (ci 0))]
abbrev c_spec_l16DrawOk_7 : List GOp := [oo 17 (.mv (tt 5)), oo 18 (.fa 0 (tt 3)), oo 19 (.ld (tt 18)), oo 20 (.bin .lss (tt 17) (tt 19))]
abbrev c_spec_l16DrawOk_8 : List GOp := [oo 23 (.mv (tt 5)), oo 24 (.bin .add (tt 23) (ci 1)), oo 6 (.mv (tt 24))]
abbrev c_spec_l16DrawOk_9 : List GOp := [oo 25 (.mv (tt 6)), oo 26 (.fa 0 (tt 3)), oo 27 (.ld (tt 26)), oo 28 (.bin .lss (tt 25) (tt 27))]
abbrev c_spec_l16DrawOk_10 : List GOp := [oo 31 (.mv (tt 0)), oo 32 (.mv (tt 4)), oo 33 (.call (ff 221) [tt 31, tt 32]), oo 34 (.un .not (tt 33)), oo 35 (.mv (tt 34)), og 36 35 true (.fa 1 (tt 3)), og 37 35 true (.ld (tt 36)), og 38 35 true (.len (tt 37)), og 39 35 true (.bin .lss (tt 38) (ci 24)), oo 40 (.pick (tt 35) (tt 39) (cb  false))]
abbrev c_spec_l16DrawOk_11 : List DOp := [dl 0 (oo 41 (.fa 1 (tt 3))), dl 1 (oo 42 (.ld (tt 41))), dl 2 (oo 43 (.mv (tt 5))), dl 3 (oo 44 (.mv (tt 6))), dl 4 (oo 45 (.mv (tt 0))), dh 5 [1] (oo 46 (.bs 1 [(ci 1), (ci 1), (ci 2), (ci 3), (ci 9)])), dh 6 [1] (oo 47 (.call (ff 157) [tt 45, tt 46])), dl 7 (oo 48 (.bld [.int .i64 0, .int .i64 0, .int .i64 0] [(0, 1, (tt 43)), (1, 1, (tt 44)), (2, 1, (tt 47))])), dh 8 [1] (oo 49 (.bs 3 [tt 48])), dh 9 [] (oo 50 (.ap 3 24 [.int .i64 0, .int .i64 0, .int .i64 0] (tt 42) (tt 49))), dl 10 (oo 51 (.fa 1 (tt 3))), dh 11 [] (on (.st 1 (tt 51) (tt 50)))]
abbrev c_spec_l16DrawOk_12 : List GOp := [oo 29 (.mv (tt 6)), oo 30 (.bin .add (tt 29) (ci 1)), oo 6 (.mv (tt 30))]
abbrev c_spec_l16DrawOk_l0 : GCode := .seq (.seq (.reg c_spec_l16DrawOk_9) (.cond (tt 28) (.skip) (.exit 2))) (.seq (.blk 3 (.seq (.reg c_spec_l16DrawOk_10) (.cond (tt 40) (.dreg c_spec_l16DrawOk_11) (.skip)))) (.reg c_spec_l16DrawOk_12))
abbrev c_spec_l16DrawOk_14 : List GOp := [oo 21 (.mv (tt 5)), oo 22 (.bin .add (tt 21) (ci 1)), oo 5 (.mv (tt 22))]
abbrev c_spec_l16DrawOk_l1 : GCode := .seq (.seq (.reg c_spec_l16DrawOk_7) (.cond (tt 20) (.skip) (.exit 0))) (.seq (.blk 1 (.seq (.reg c_spec_l16DrawOk_8) (.blk 2 (.loop c_spec_l16DrawOk_l0)))) (.reg c_spec_l16DrawOk_14))
abbrev c_spec_l16DrawOk_16 : List GOp := [oo 52 (.ldn 2 (tt 3)), on (.st 2 (tt 2) (tt 52))]
abbrev c_spec_l16DrawOk : GCode := .seq (.reg c_spec_l16DrawOk_0) (.seq (.reg c_spec_l16DrawOk_1) (.seq (.reg c_spec_l16DrawOk_2) (.seq (.seq (.reg c_spec_l16DrawOk_3) (.cond (tt 15) (.seq (.reg c_spec_l16DrawOk_4) (.reg c_spec_l16DrawOk_5)) (.skip))) (.seq (.seq (.reg c_spec_l16DrawOk_6) (.blk 0 (.loop c_spec_l16DrawOk_l1))) (.seq (.reg c_spec_l16DrawOk_16) (.ret))))))
theorem c_spec_l16DrawOk_d : decFn Try.prog Try.f219 = some (53, [.cn 2 2], c_spec_l16DrawOk) := by kernel_rfl
theorem c_spec_l16DrawOk_i {args : List Value} {G : GH} {K : Value → GH → Prop} (hn : args.length ≤ 53) (h : gW Try.prog c_spec_l16DrawOk (RetK [.cn 2 2] K) (T0 args) G) : GC Try.prog 219 args G K := GC_intro mixed Try.func219 c_spec_l16DrawOk_d hn h
abbrev c_spec_l16DrawSet_0 : List GOp := [oo 4 (.mv (.const (.slice none 0 0)))]
abbrev c_spec_l16DrawSet_1 : List GOp := [oo 7 (.bs 1 []), oo 5 (.mv (tt 7))]
abbrev c_spec_l16DrawSet_2 : List GOp := [oo 6 (.mv (ci 0))]
abbrev c_spec_l16DrawSet_3 : List GOp := [oo 8 (.mv (tt 6)), oo 9 (.mv (tt 1)), oo 10 (.nc (tt 9)), oo 11 (.fa 0 (tt 10)), oo 12 (.ld (tt 11)), oo 13 (.bin .lss (tt 8) (tt 12)), oo 14 (.mv (tt 13)), og 15 14 true (.mv (tt 6)), og 16 14 true (.bin .lss (tt 15) (ci 20)), oo 17 (.pick (tt 14) (tt 16) (cb  false))]
abbrev c_spec_l16DrawSet_4 : List GOp := [oo 20 (.mv (tt 0)), oo 21 (.call (ff 221) [tt 20, (ci 2)])]
abbrev c_spec_l16DrawSet_5 : List GOp := [oo 22 (.mv (tt 5)), oo 23 (.mv (tt 6)), oo 24 (.bs 1 [tt 23]), oo 25 (.ap 1 8 [.int .i64 0] (tt 22) (tt 24)), oo 5 (.mv (tt 25))]
abbrev c_spec_l16DrawSet_6 : List GOp := [oo 18 (.mv (tt 6)), oo 19 (.bin .add (tt 18) (ci 1)), oo 6 (.mv (tt 19))]
abbrev c_spec_l16DrawSet_l0 : GCode := .seq (.seq (.reg c_spec_l16DrawSet_3) (.cond (tt 17) (.skip) (.exit 0))) (.seq (.blk 1 (.seq (.reg c_spec_l16DrawSet_4) (.cond (tt 21) (.reg c_spec_l16DrawSet_5) (.skip)))) (.reg c_spec_l16DrawSet_6))
abbrev c_spec_l16DrawSet_8 : List GOp := [oo 26 (.mv (tt 0)), oo 27 (.call (ff 221) [tt 26, (ci 12)])]
abbrev c_spec_l16DrawSet_9 : List GOp := [oo 28 (.mv (tt 5)), oo 29 (.mv (tt 0)), oo 30 (.mv (tt 1)), oo 31 (.nc (tt 30)), oo 32 (.fa 0 (tt 31)), oo 33 (.ld (tt 32)), oo 34 (.bs 1 [(ci (-1)), (ci 0), tt 33]), oo 35 (.call (ff 157) [tt 29, tt 34]), oo 36 (.bs 1 [tt 35]), oo 37 (.ap 1 8 [.int .i64 0] (tt 28) (tt 36)), oo 5 (.mv (tt 37))]
abbrev c_spec_l16DrawSet_10 : List GOp := [oo 38 (.mv (tt 5)), oo 4 (.mv (tt 38))]
abbrev c_spec_l16DrawSet : GCode := .seq (.reg c_spec_l16DrawSet_0) (.seq (.reg c_spec_l16DrawSet_1) (.seq (.seq (.reg c_spec_l16DrawSet_2) (.blk 0 (.loop c_spec_l16DrawSet_l0))) (.seq (.seq (.reg c_spec_l16DrawSet_8) (.cond (tt 27) (.reg c_spec_l16DrawSet_9) (.skip))) (.seq (.reg c_spec_l16DrawSet_10) (.ret)))))
theorem c_spec_l16DrawSet_d : decFn Try.prog Try.f173 = some (39, [.t 4], c_spec_l16DrawSet) := by kernel_rfl
theorem c_spec_l16DrawSet_i {args : List Value} {G : GH} {K : Value → GH → Prop} (hn : args.length ≤ 39) (h : gW Try.prog c_spec_l16DrawSet (RetK [.t 4] K) (T0 args) G) : GC Try.prog 173 args G K := GC_intro mixed Try.func173 c_spec_l16DrawSet_d hn h
abbrev c_spec_l16DrawVector_0 : List GOp := [oo 4 (.mv (.const (.slice none 0 0)))]
abbrev c_spec_l16DrawVector_1 : List GOp := [oo 7 (.bs 1 []), oo 5 (.mv (tt 7))]
abbrev c_spec_l16DrawVector_2 : List GOp := [oo 6 (.mv (ci 0))]
abbrev c_spec_l16DrawVector_3 : List GOp := [oo 8 (.mv (tt 6)), oo 9 (.mv (tt 1)), oo 10 (.nc (tt 9)), oo 11 (.fa 0 (tt 10)), oo 12 (.ld (tt 11)), oo 13 (.bin .lss (tt 8) (tt 12)), oo 14 (.mv (tt 13)), og 15 14 true (.mv (tt 6)), og 16 14 true (.bin .lss (tt 15) (ci 20)), oo 17 (.pick (tt 14) (tt 16) (cb  false))]
abbrev c_spec_l16DrawVector_4 : List GOp := [oo 20 (.mv (tt 5)), oo 21 (.mv (tt 0)), oo 22 (.bs 1 [(ci 0), (ci 1), (ci (-3)), (ci 7), (ci 1000000), (ci (-1000000)), (ci 2)]), oo 23 (.call (ff 157) [tt 21, tt 22]), oo 24 (.bs 1 [tt 23]), oo 25 (.ap 1 8 [.int .i64 0] (tt 20) (tt 24)), oo 5 (.mv (tt 25))]
abbrev c_spec_l16DrawVector_5 : List GOp := [oo 18 (.mv (tt 6)), oo 19 (.bin .add (tt 18) (ci 1)), oo 6 (.mv (tt 19))]
abbrev c_spec_l16DrawVector_l0 : GCode := .seq (.seq (.reg c_spec_l16DrawVector_3) (.cond (tt 17) (.skip) (.exit 0))) (.seq (.blk 1 (.reg c_spec_l16DrawVector_4)) (.reg c_spec_l16DrawVector_5))
abbrev c_spec_l16DrawVector_7 : List GOp := [oo 26 (.mv (tt 0)), oo 27 (.call (ff 220) [tt 26, (ci 16)])]
abbrev c_spec_l16DrawVector_8 : List GOp := [oo 29 (.bin .eql (tt 27) (ci 0)), oo 28 (.mv (tt 29))]
abbrev c_spec_l16DrawVector_9 : List GOp := [oo 30 (.mv (tt 5)), oo 31 (.bs 1 [(ci 0)]), oo 32 (.ap 1 8 [.int .i64 0] (tt 30) (tt 31)), oo 5 (.mv (tt 32))]
abbrev c_spec_l16DrawVector_10 : List GOp := [oo 34 (.bin .eql (tt 27) (ci 1)), oo 33 (.mv (tt 34))]
abbrev c_spec_l16DrawVector_11 : List GOp := [oo 35 (.mv (tt 5)), oo 36 (.len (tt 35)), oo 37 (.bin .gtr (tt 36) (ci 0))]
abbrev c_spec_l16DrawVector_12 : List GOp := [oo 38 (.mv (tt 5)), oo 39 (.mv (tt 0)), oo 40 (.bs 1 [(ci (-1000001)), (ci 1000001)]), oo 41 (.call (ff 157) [tt 39, tt 40]), oo 42 (.ia 1 (tt 38) (ci 0)), on (.st 1 (tt 42) (tt 41))]
abbrev c_spec_l16DrawVector_13 : List GOp := [oo 43 (.mv (tt 5)), oo 4 (.mv (tt 43))]
abbrev c_spec_l16DrawVector : GCode := .seq (.reg c_spec_l16DrawVector_0) (.seq (.reg c_spec_l16DrawVector_1) (.seq (.seq (.reg c_spec_l16DrawVector_2) (.blk 0 (.loop c_spec_l16DrawVector_l0))) (.seq (.seq (.reg c_spec_l16DrawVector_7) (.blk 2 (.seq (.reg c_spec_l16DrawVector_8) (.cond (tt 28) (.reg c_spec_l16DrawVector_9) (.seq (.reg c_spec_l16DrawVector_10) (.cond (tt 33) (.seq (.reg c_spec_l16DrawVector_11) (.cond (tt 37) (.reg c_spec_l16DrawVector_12) (.skip))) (.skip))))))) (.seq (.reg c_spec_l16DrawVector_13) (.ret)))))
theorem c_spec_l16DrawVector_d : decFn Try.prog Try.f147 = some (44, [.t 4], c_spec_l16DrawVector) := by kernel_rfl
theorem c_spec_l16DrawVector_i {args : List Value} {G : GH} {K : Value → GH → Prop} (hn : args.length ≤ 44) (h : gW Try.prog c_spec_l16DrawVector (RetK [.t 4] K) (T0 args) G) : GC Try.prog 147 args G K := GC_intro mixed Try.func147 c_spec_l16DrawVector_d hn h
abbrev c_spec_l18DrawFour_0 : List GOp := [oo 2 (.al [.int .i64 0, .slice none 0 0]), oo 3 (.mv (.const (.slice none 0 0))), oo 4 (.mv (ci 0)), oo 5 (.mv (.const (.slice none 0 0)))]
abbrev c_spec_l18DrawFour_1 : List GOp := [oo 9 (.mv (tt 0)), oo 10 (.call (ff 146) [tt 9]), oo 6 (.al [.int .i64 0, .slice none 0 0]), on (.st 2 (tt 6) (tt 10))]
abbrev c_spec_l18DrawFour_2 : List GOp := [oo 11 (.mv (tt 0)), oo 12 (.call (ff 149) [tt 11, tt 6]), oo 7 (.mv (tt 12))]
abbrev c_spec_l18DrawFour_3 : List GOp := [oo 13 (.mv (tt 0)), oo 14 (.call (ff 156) [tt 13]), oo 8 (.mv (tt 14))]
abbrev c_spec_l18DrawFour_4 : List GOp := [oo 15 (.mv (tt 0)), oo 16 (.call (ff 221) [tt 15, (ci 2)])]
abbrev c_spec_l18DrawFour_5 : List GOp := [oo 17 (.ldn 2 (tt 6)), oo 18 (.mv (tt 7)), oo 19 (.mv (tt 8)), oo 20 (.bs 1 []), on (.st 2 (tt 2) (tt 17)), oo 3 (.mv (tt 18)), oo 4 (.mv (tt 19)), oo 5 (.mv (tt 20))]
abbrev c_spec_l18DrawFour_6 : List DOp := [dl 0 (oo 21 (.ldn 2 (tt 6))), dl 1 (oo 22 (.mv (tt 7))), dl 2 (oo 23 (.mv (tt 8))), dl 3 (oo 24 (.mv (tt 0))), dh 4 [0] (oo 25 (.call (ff 173) [tt 24, tt 6])), dh 5 [] (on (.st 2 (tt 2) (tt 21))), dl 6 (oo 3 (.mv (tt 22))), dl 7 (oo 4 (.mv (tt 23))), dl 8 (oo 5 (.mv (tt 25)))]
abbrev c_spec_l18DrawFour : GCode := .seq (.reg c_spec_l18DrawFour_0) (.seq (.reg c_spec_l18DrawFour_1) (.seq (.reg c_spec_l18DrawFour_2) (.seq (.reg c_spec_l18DrawFour_3) (.seq (.seq (.reg c_spec_l18DrawFour_4) (.cond (tt 16) (.seq (.reg c_spec_l18DrawFour_5) (.ret)) (.skip))) (.seq (.dreg c_spec_l18DrawFour_6) (.ret))))))
theorem c_spec_l18DrawFour_d : decFn Try.prog Try.f151 = some (26, [.cn 2 2, .t 3, .t 4, .t 5], c_spec_l18DrawFour) := by kernel_rfl
theorem c_spec_l18DrawFour_i {args : List Value} {G : GH} {K : Value → GH → Prop} (hn : args.length ≤ 26) (h : gW Try.prog c_spec_l18DrawFour (RetK [.cn 2 2, .t 3, .t 4, .t 5] K) (T0 args) G) : GC Try.prog 151 args G K := GC_intro mixed Try.func151 c_spec_l18DrawFour_d hn h
abbrev c_spec_l18DrawOwn_0 : List GOp := [oo 2 (.mv (ci 0))]
abbrev c_spec_l18DrawOwn_1 : List GOp := [oo 3 (.mv (tt 0)), oo 4 (.bs 1 [(ci 0), (ci 1), (ci 1), (ci 2), (ci 5), (ci 1000), (ci 1001), (ci (-1)), (ci 1)]), oo 5 (.call (ff 157) [tt 3, tt 4]), oo 2 (.mv (tt 5))]
abbrev c_spec_l18DrawOwn : GCode := .seq (.reg c_spec_l18DrawOwn_0) (.seq (.reg c_spec_l18DrawOwn_1) (.ret))
theorem c_spec_l18DrawOwn_d : decFn Try.prog Try.f156 = some (6, [.t 2], c_spec_l18DrawOwn) := by kernel_rfl
theorem c_spec_l18DrawOwn_i {args : List Value} {G : GH} {K : Value → GH → Prop} (hn : args.length ≤ 6) (h : gW Try.prog c_spec_l18DrawOwn (RetK [.t 2] K) (T0 args) G) : GC Try.prog 156 args G K := GC_intro mixed Try.func156 c_spec_l18DrawOwn_d hn h
abbrev c_spec_l18DrawX_0 : List GOp := [oo 4 (.mv (.const (.slice none 0 0)))]
abbrev c_spec_l18DrawX_1 : List GOp := [oo 7 (.mv (tt 0)), oo 8 (.call (ff 221) [tt 7, (ci 8)])]
abbrev c_spec_l18DrawX_2 : List GOp := [oo 9 (.mv (tt 0)), oo 10 (.mv (tt 1)), oo 11 (.call (ff 147) [tt 9, tt 10]), oo 4 (.mv (tt 11))]
abbrev c_spec_l18DrawX_3 : List GOp := [oo 12 (.bs 1 []), oo 5 (.mv (tt 12))]
abbrev c_spec_l18DrawX_4 : List GOp := [oo 6 (.mv (ci 0))]
abbrev c_spec_l18DrawX_5 : List GOp := [oo 13 (.mv (tt 6)), oo 14 (.mv (tt 1)), oo 15 (.nc (tt 14)), oo 16 (.fa 0 (tt 15)), oo 17 (.ld (tt 16)), oo 18 (.bin .lss (tt 13) (tt 17)), oo 19 (.mv (tt 18)), og 20 19 true (.mv (tt 6)), og 21 19 true (.bin .lss (tt 20) (ci 20)), oo 22 (.pick (tt 19) (tt 21) (cb  false))]
abbrev c_spec_l18DrawX_6 : List GOp := [oo 25 (.mv (tt 5)), oo 26 (.mv (tt 0)), oo 27 (.bs 1 [(ci 0), (ci 10), (ci 10), (ci 20), (ci (-5)), (ci 50), (ci 3)]), oo 28 (.call (ff 157) [tt 26, tt 27]), oo 29 (.bs 1 [tt 28]), oo 30 (.ap 1 8 [.int .i64 0] (tt 25) (tt 29)), oo 5 (.mv (tt 30))]
abbrev c_spec_l18DrawX_7 : List GOp := [oo 23 (.mv (tt 6)), oo 24 (.bin .add (tt 23) (ci 1)), oo 6 (.mv (tt 24))]
abbrev c_spec_l18DrawX_l0 : GCode := .seq (.seq (.reg c_spec_l18DrawX_5) (.cond (tt 22) (.skip) (.exit 0))) (.seq (.blk 1 (.reg c_spec_l18DrawX_6)) (.reg c_spec_l18DrawX_7))
abbrev c_spec_l18DrawX_9 : List GOp := [oo 31 (.mv (tt 5)), oo 4 (.mv (tt 31))]
abbrev c_spec_l18DrawX : GCode := .seq (.reg c_spec_l18DrawX_0) (.seq (.seq (.reg c_spec_l18DrawX_1) (.cond (tt 8) (.seq (.reg c_spec_l18DrawX_2) (.ret)) (.skip))) (.seq (.reg c_spec_l18DrawX_3) (.seq (.seq (.reg c_spec_l18DrawX_4) (.blk 0 (.loop c_spec_l18DrawX_l0))) (.seq (.reg c_spec_l18DrawX_9) (.ret)))))
theorem c_spec_l18DrawX_d : decFn Try.prog Try.f149 = some (32, [.t 4], c_spec_l18DrawX) := by kernel_rfl
theorem c_spec_l18DrawX_i {args : List Value} {G : GH} {K : Value → GH → Prop} (hn : args.length ≤ 32) (h : gW Try.prog c_spec_l18DrawX (RetK [.t 4] K) (T0 args) G) : GC Try.prog 149 args G K := GC_intro mixed Try.func149 c_spec_l18DrawX_d hn h

end Go.Proofs.Ytmlkgpoakkgjbaa.Gh
