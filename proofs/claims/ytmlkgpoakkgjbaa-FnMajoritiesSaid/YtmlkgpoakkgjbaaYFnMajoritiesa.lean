/- Code trees that the law FnMajorities reaches: each is what the decoding gives (checked by the kernel). -/
import Derived.Test.YtmlkgpoakkgjbaaC0
import Derived.Test.YtmlkgpoakkgjbaaFm
import Derived.Test.YtmlkgpoakkgjbaaFz
namespace Go.Proofs.Ytmlkgpoakkgjbaa.Gh
open Go Go.RowKit Go.Proofs
set_option linter.unusedVariables false
set_option linter.unusedSimpArgs false
set_option maxHeartbeats 4000000

abbrev c_cmp_Compare_int64_0 : List GOp := [oo 4 (.mv (ci 0))]
abbrev c_cmp_Compare_int64_1 : List GOp := [oo 7 (.mv (tt 0)), oo 8 (.call (ff 248) [tt 7]), oo 5 (.mv (tt 8))]
abbrev c_cmp_Compare_int64_2 : List GOp := [oo 9 (.mv (tt 1)), oo 10 (.call (ff 248) [tt 9]), oo 6 (.mv (tt 10))]
abbrev c_cmp_Compare_int64_3 : List GOp := [oo 11 (.mv (tt 5))]
abbrev c_cmp_Compare_int64_4 : List GOp := [oo 12 (.mv (tt 6))]
abbrev c_cmp_Compare_int64_5 : List GOp := [oo 4 (.mv (ci 0))]
abbrev c_cmp_Compare_int64_6 : List GOp := [oo 4 (.mv (ci (-1)))]
abbrev c_cmp_Compare_int64_7 : List GOp := [oo 13 (.mv (tt 6))]
abbrev c_cmp_Compare_int64_8 : List GOp := [oo 4 (.mv (ci 1))]
abbrev c_cmp_Compare_int64_9 : List GOp := [oo 14 (.mv (tt 0)), oo 15 (.mv (tt 1)), oo 16 (.bin .lss (tt 14) (tt 15))]
abbrev c_cmp_Compare_int64_10 : List GOp := [oo 4 (.mv (ci (-1)))]
abbrev c_cmp_Compare_int64_11 : List GOp := [oo 17 (.mv (tt 0)), oo 18 (.mv (tt 1)), oo 19 (.bin .gtr (tt 17) (tt 18))]
abbrev c_cmp_Compare_int64_12 : List GOp := [oo 4 (.mv (ci 1))]
abbrev c_cmp_Compare_int64_13 : List GOp := [oo 4 (.mv (ci 0))]
abbrev c_cmp_Compare_int64 : GCode := .seq (.reg c_cmp_Compare_int64_0) (.seq (.reg c_cmp_Compare_int64_1) (.seq (.reg c_cmp_Compare_int64_2) (.seq (.seq (.reg c_cmp_Compare_int64_3) (.cond (tt 11) (.seq (.seq (.reg c_cmp_Compare_int64_4) (.cond (tt 12) (.seq (.reg c_cmp_Compare_int64_5) (.ret)) (.skip))) (.seq (.reg c_cmp_Compare_int64_6) (.ret))) (.skip))) (.seq (.seq (.reg c_cmp_Compare_int64_7) (.cond (tt 13) (.seq (.reg c_cmp_Compare_int64_8) (.ret)) (.skip))) (.seq (.seq (.reg c_cmp_Compare_int64_9) (.cond (tt 16) (.seq (.reg c_cmp_Compare_int64_10) (.ret)) (.skip))) (.seq (.seq (.reg c_cmp_Compare_int64_11) (.cond (tt 19) (.seq (.reg c_cmp_Compare_int64_12) (.ret)) (.skip))) (.seq (.reg c_cmp_Compare_int64_13) (.ret))))))))
theorem c_cmp_Compare_int64_d : decFn Try.prog Try.f218 = some (20, [.t 4], c_cmp_Compare_int64) := by kernel_rfl
theorem c_cmp_Compare_int64_i {args : List Value} {G : GH} {K : Value → GH → Prop} (hn : args.length ≤ 20) (h : gW Try.prog c_cmp_Compare_int64 (RetK [.t 4] K) (T0 args) G) : GC Try.prog 218 args G K := GC_intro mixed Try.func218 c_cmp_Compare_int64_d hn h
abbrev c_cmp_Or_int_0 : List GOp := [oo 2 (.mv (ci 0))]
abbrev c_cmp_Or_int_1 : List GOp := [oo 3 (.mv (ci 0))]
abbrev c_cmp_Or_int_2 : List GOp := [oo 6 (.mv (tt 0)), oo 7 (.len (tt 6)), oo 8 (.mv (ci 0))]
abbrev c_cmp_Or_int_3 : List GOp := [oo 9 (.bin .lss (tt 8) (tt 7))]
abbrev c_cmp_Or_int_4 : List GOp := [oo 10 (.ia 1 (tt 6) (tt 8)), oo 11 (.ld (tt 10)), oo 5 (.mv (tt 11))]
abbrev c_cmp_Or_int_5 : List GOp := [oo 12 (.mv (tt 5)), oo 13 (.mv (tt 3)), oo 14 (.bin .neq (tt 12) (tt 13))]
abbrev c_cmp_Or_int_6 : List GOp := [oo 15 (.mv (tt 5)), oo 2 (.mv (tt 15))]
abbrev c_cmp_Or_int_7 : List GOp := [oo 16 (.bin .add (tt 8) (ci 1)), oo 8 (.mv (tt 16))]
abbrev c_cmp_Or_int_l0 : GCode := .seq (.reg c_cmp_Or_int_3) (.seq (.cond (tt 9) (.skip) (.exit 0)) (.seq (.blk 1 (.seq (.reg c_cmp_Or_int_4) (.seq (.reg c_cmp_Or_int_5) (.cond (tt 14) (.seq (.reg c_cmp_Or_int_6) (.ret)) (.skip))))) (.reg c_cmp_Or_int_7)))
abbrev c_cmp_Or_int_9 : List GOp := [oo 17 (.mv (tt 3)), oo 2 (.mv (tt 17))]
abbrev c_cmp_Or_int : GCode := .seq (.reg c_cmp_Or_int_0) (.seq (.reg c_cmp_Or_int_1) (.seq (.seq (.reg c_cmp_Or_int_2) (.blk 0 (.loop c_cmp_Or_int_l0))) (.seq (.reg c_cmp_Or_int_9) (.ret))))
theorem c_cmp_Or_int_d : decFn Try.prog Try.f241 = some (18, [.t 2], c_cmp_Or_int) := by kernel_rfl
theorem c_cmp_Or_int_i {args : List Value} {G : GH} {K : Value → GH → Prop} (hn : args.length ≤ 18) (h : gW Try.prog c_cmp_Or_int (RetK [.t 2] K) (T0 args) G) : GC Try.prog 241 args G K := GC_intro mixed Try.func241 c_cmp_Or_int_d hn h
abbrev c_cmp_isNaN_int64_0 : List GOp := [oo 2 (.mv (cb  false))]
abbrev c_cmp_isNaN_int64_1 : List GOp := [oo 3 (.mv (tt 0)), oo 4 (.mv (tt 0)), oo 5 (.bin .neq (tt 3) (tt 4)), oo 2 (.mv (tt 5))]
abbrev c_cmp_isNaN_int64 : GCode := .seq (.reg c_cmp_isNaN_int64_0) (.seq (.reg c_cmp_isNaN_int64_1) (.ret))
theorem c_cmp_isNaN_int64_d : decFn Try.prog Try.f248 = some (6, [.t 2], c_cmp_isNaN_int64) := by kernel_rfl
theorem c_cmp_isNaN_int64_i {args : List Value} {G : GH} {K : Value → GH → Prop} (hn : args.length ≤ 6) (h : gW Try.prog c_cmp_isNaN_int64 (RetK [.t 2] K) (T0 args) G) : GC Try.prog 248 args G K := GC_intro mixed Try.func248 c_cmp_isNaN_int64_d hn h
abbrev c_impl_CampsOf_0 : List GOp := [oo 3 (.bx (tt 0)), oo 6 (.mv (.const (.slice none 0 0))), oo 7 (.mv (ci 0))]
abbrev c_impl_CampsOf_1 : List GOp := [oo 12 (.ldn 2 (tt 3)), oo 13 (.mv (tt 1)), oo 14 (.call (ff 102) [tt 12, tt 13]), oo 8 (.mv (tt 14))]
abbrev c_impl_CampsOf_2 : List GOp := [oo 15 (.mv (tt 8)), oo 16 (.bin .neq (tt 15) (ci 0))]
abbrev c_impl_CampsOf_3 : List GOp := [oo 17 (.mv (tt 8)), oo 6 (.mv (.const (.slice none 0 0))), oo 7 (.mv (tt 17))]
abbrev c_impl_CampsOf_4 : List GOp := [oo 18 (.mv (tt 2)), oo 19 (.bin .lss (tt 18) (ci 0))]
abbrev c_impl_CampsOf_5 : List GOp := [oo 6 (.mv (.const (.slice none 0 0))), oo 7 (.mv (ci 2))]
abbrev c_impl_CampsOf_6 : List GOp := [oo 20 (.fa 0 (tt 3)), oo 21 (.ld (tt 20)), oo 22 (.bld [.int .i64 0, .slice none 0 0] [(0, 1, (tt 21))]), oo 9 (.al [.int .i64 0, .slice none 0 0]), on (.st 2 (tt 9) (tt 22))]
abbrev c_impl_CampsOf_7 : List GOp := [oo 23 (.fa 1 (tt 3)), oo 24 (.ld (tt 23)), oo 25 (.len (tt 24)), oo 26 (.mv (ci 0))]
abbrev c_impl_CampsOf_8 : List GOp := [oo 27 (.bin .lss (tt 26) (tt 25))]
abbrev c_impl_CampsOf_9 : List GOp := [oo 28 (.ia 3 (tt 24) (tt 26)), oo 29 (.ldn 3 (tt 28)), oo 11 (.al [.int .i64 0, .int .i64 0, .int .i64 0]), on (.st 3 (tt 11) (tt 29))]
abbrev c_impl_CampsOf_10 : List DOp := [dl 0 (oo 30 (.mv (tt 1))), dl 1 (oo 31 (.fa 0 (tt 11))), dl 2 (oo 32 (.ld (tt 31))), dl 3 (oo 33 (.ia 1 (tt 30) (tt 32))), dl 4 (oo 34 (.ld (tt 33))), dl 5 (oo 35 (.mv (tt 1))), dl 6 (oo 36 (.fa 1 (tt 11))), dl 7 (oo 37 (.ld (tt 36))), dl 8 (oo 38 (.ia 1 (tt 35) (tt 37))), dl 9 (oo 39 (.ld (tt 38))), dl 10 (oo 40 (.bin .sub (tt 34) (tt 39))), dl 12 (oo 42 (.mv (tt 2))), dh 11 [9, 7, 4, 2] (oo 41 (.call (ff 115) [tt 40])), dl 13 (oo 43 (.bin .leq (tt 41) (tt 42)))]
abbrev c_impl_CampsOf_11 : List GOp := [oo 44 (.fa 1 (tt 9)), oo 45 (.ld (tt 44)), oo 46 (.ldn 3 (tt 11)), oo 47 (.bs 3 [tt 46]), oo 48 (.ap 3 24 [.int .i64 0, .int .i64 0, .int .i64 0] (tt 45) (tt 47)), oo 49 (.fa 1 (tt 9)), on (.st 1 (tt 49) (tt 48))]
abbrev c_impl_CampsOf_12 : List GOp := [oo 50 (.bin .add (tt 26) (ci 1)), oo 26 (.mv (tt 50))]
abbrev c_impl_CampsOf_l0 : GCode := .seq (.reg c_impl_CampsOf_8) (.seq (.cond (tt 27) (.skip) (.exit 0)) (.seq (.blk 1 (.seq (.reg c_impl_CampsOf_9) (.seq (.dreg c_impl_CampsOf_10) (.cond (tt 43) (.reg c_impl_CampsOf_11) (.skip))))) (.reg c_impl_CampsOf_12)))
abbrev c_impl_CampsOf_14 : List GOp := [oo 51 (.ldn 2 (tt 9)), oo 52 (.call (ff 116) [tt 51]), oo 6 (.mv (tt 52)), oo 7 (.mv (ci 0))]
abbrev c_impl_CampsOf : GCode := .seq (.reg c_impl_CampsOf_0) (.seq (.seq (.reg c_impl_CampsOf_1) (.seq (.reg c_impl_CampsOf_2) (.cond (tt 16) (.seq (.reg c_impl_CampsOf_3) (.ret)) (.skip)))) (.seq (.seq (.reg c_impl_CampsOf_4) (.cond (tt 19) (.seq (.reg c_impl_CampsOf_5) (.ret)) (.skip))) (.seq (.reg c_impl_CampsOf_6) (.seq (.seq (.reg c_impl_CampsOf_7) (.blk 0 (.loop c_impl_CampsOf_l0))) (.seq (.reg c_impl_CampsOf_14) (.ret))))))
theorem c_impl_CampsOf_d : decFn Try.prog Try.f41 = some (53, [.t 6, .t 7], c_impl_CampsOf) := by kernel_rfl
theorem c_impl_CampsOf_i {args : List Value} {G : GH} {K : Value → GH → Prop} (hn : args.length ≤ 53) (h : gW Try.prog c_impl_CampsOf (RetK [.t 6, .t 7] K) (T0 args) G) : GC Try.prog 41 args G K := GC_intro mixed Try.func41 c_impl_CampsOf_d hn h
abbrev c_impl_MajorityRest_0 : List GOp := [oo 2 (.bx (tt 0)), oo 4 (.mv (ci 0)), oo 5 (.mv (.const (.slice none 0 0))), oo 6 (.mv (ci 0))]
abbrev c_impl_MajorityRest_1 : List GOp := [oo 10 (.ldn 2 (tt 2)), oo 11 (.mv (tt 1)), oo 12 (.call (ff 102) [tt 10, tt 11]), oo 7 (.mv (tt 12))]
abbrev c_impl_MajorityRest_2 : List GOp := [oo 13 (.mv (tt 7)), oo 14 (.bin .neq (tt 13) (ci 0))]
abbrev c_impl_MajorityRest_3 : List GOp := [oo 15 (.mv (tt 7)), oo 4 (.mv (ci 0)), oo 5 (.mv (.const (.slice none 0 0))), oo 6 (.mv (tt 15))]
abbrev c_impl_MajorityRest_4 : List GOp := [oo 17 (.mv (tt 1)), oo 18 (.mf (.func 112) [] [tt 2]), oo 19 (.call (ff 111) [tt 17, tt 18]), oo 16 (.mv (tt 19)), oo 20 (.ex 0 (tt 16)), oo 21 (.ex 1 (tt 16)), oo 8 (.mv (tt 20)), oo 9 (.mv (tt 21))]
abbrev c_impl_MajorityRest_5 : List GOp := [oo 22 (.mv (tt 8)), oo 23 (.bin .lss (tt 22) (ci 0))]
abbrev c_impl_MajorityRest_6 : List GOp := [oo 4 (.mv (ci 0)), oo 5 (.mv (.const (.slice none 0 0))), oo 6 (.mv (ci 3))]
abbrev c_impl_MajorityRest_7 : List GOp := [oo 24 (.mv (tt 8)), oo 25 (.mv (tt 9)), oo 4 (.mv (tt 24)), oo 5 (.mv (tt 25)), oo 6 (.mv (ci 0))]
abbrev c_impl_MajorityRest : GCode := .seq (.reg c_impl_MajorityRest_0) (.seq (.seq (.reg c_impl_MajorityRest_1) (.seq (.reg c_impl_MajorityRest_2) (.cond (tt 14) (.seq (.reg c_impl_MajorityRest_3) (.ret)) (.skip)))) (.seq (.reg c_impl_MajorityRest_4) (.seq (.seq (.reg c_impl_MajorityRest_5) (.cond (tt 23) (.seq (.reg c_impl_MajorityRest_6) (.ret)) (.skip))) (.seq (.reg c_impl_MajorityRest_7) (.ret)))))
theorem c_impl_MajorityRest_d : decFn Try.prog Try.f39 = some (26, [.t 4, .t 5, .t 6], c_impl_MajorityRest) := by kernel_rfl
theorem c_impl_MajorityRest_i {args : List Value} {G : GH} {K : Value → GH → Prop} (hn : args.length ≤ 26) (h : gW Try.prog c_impl_MajorityRest (RetK [.t 4, .t 5, .t 6] K) (T0 args) G) : GC Try.prog 39 args G K := GC_intro mixed Try.func39 c_impl_MajorityRest_d hn h
abbrev c_impl_MajorityRest_fn1_0 : List GOp := [oo 3 (.mv (.const (.slice none 0 0)))]
abbrev c_impl_MajorityRest_fn1_1 : List GOp := [oo 4 (.ldn 2 (tt 1)), oo 5 (.mv (tt 0)), oo 6 (.call (ff 108) [tt 4, tt 5]), oo 3 (.mv (tt 6))]
abbrev c_impl_MajorityRest_fn1 : GCode := .seq (.reg c_impl_MajorityRest_fn1_0) (.seq (.reg c_impl_MajorityRest_fn1_1) (.ret))
theorem c_impl_MajorityRest_fn1_d : decFn Try.prog Try.f112 = some (7, [.t 3], c_impl_MajorityRest_fn1) := by kernel_rfl
theorem c_impl_MajorityRest_fn1_i {args : List Value} {G : GH} {K : Value → GH → Prop} (hn : args.length ≤ 7) (h : gW Try.prog c_impl_MajorityRest_fn1 (RetK [.t 3] K) (T0 args) G) : GC Try.prog 112 args G K := GC_intro mixed Try.func112 c_impl_MajorityRest_fn1_d hn h
abbrev c_impl_MajorityStep_0 : List GOp := [oo 2 (.bx (tt 0)), oo 4 (.mv (.const (.slice none 0 0))), oo 5 (.mv (ci 0))]
abbrev c_impl_MajorityStep_1 : List GOp := [oo 7 (.ldn 2 (tt 2)), oo 8 (.mv (tt 1)), oo 9 (.call (ff 102) [tt 7, tt 8]), oo 6 (.mv (tt 9))]
abbrev c_impl_MajorityStep_2 : List GOp := [oo 10 (.mv (tt 6)), oo 11 (.bin .neq (tt 10) (ci 0))]
abbrev c_impl_MajorityStep_3 : List GOp := [oo 12 (.mv (tt 6)), oo 4 (.mv (.const (.slice none 0 0))), oo 5 (.mv (tt 12))]
abbrev c_impl_MajorityStep_4 : List GOp := [oo 13 (.ldn 2 (tt 2)), oo 14 (.mv (tt 1)), oo 15 (.call (ff 108) [tt 13, tt 14]), oo 4 (.mv (tt 15)), oo 5 (.mv (ci 0))]
abbrev c_impl_MajorityStep : GCode := .seq (.reg c_impl_MajorityStep_0) (.seq (.seq (.reg c_impl_MajorityStep_1) (.seq (.reg c_impl_MajorityStep_2) (.cond (tt 11) (.seq (.reg c_impl_MajorityStep_3) (.ret)) (.skip)))) (.seq (.reg c_impl_MajorityStep_4) (.ret)))
theorem c_impl_MajorityStep_d : decFn Try.prog Try.f37 = some (16, [.t 4, .t 5], c_impl_MajorityStep) := by kernel_rfl
theorem c_impl_MajorityStep_i {args : List Value} {G : GH} {K : Value → GH → Prop} (hn : args.length ≤ 16) (h : gW Try.prog c_impl_MajorityStep (RetK [.t 4, .t 5] K) (T0 args) G) : GC Try.prog 37 args G K := GC_intro mixed Try.func37 c_impl_MajorityStep_d hn h
abbrev c_impl_PeaksOf_0 : List GOp := [oo 2 (.bx (tt 0)), oo 3 (.bx (tt 1)), oo 4 (.mv (.const (.slice none 0 0))), oo 5 (.mv (ci 0))]
abbrev c_impl_PeaksOf_1 : List GOp := [oo 9 (.ldn 2 (tt 2)), oo 10 (.ld (tt 3)), oo 11 (.call (ff 102) [tt 9, tt 10]), oo 6 (.mv (tt 11))]
abbrev c_impl_PeaksOf_2 : List GOp := [oo 12 (.mv (tt 6)), oo 13 (.bin .neq (tt 12) (ci 0))]
abbrev c_impl_PeaksOf_3 : List GOp := [oo 14 (.mv (tt 6)), oo 4 (.mv (.const (.slice none 0 0))), oo 5 (.mv (tt 14))]
abbrev c_impl_PeaksOf_4 : List GOp := [oo 7 (.mv (.const (.slice none 0 0)))]
abbrev c_impl_PeaksOf_5 : List GOp := [oo 15 (.fa 0 (tt 2)), oo 16 (.ld (tt 15)), oo 17 (.mv (ci 0))]
abbrev c_impl_PeaksOf_6 : List GOp := [oo 18 (.bin .lss (tt 17) (tt 16))]
abbrev c_impl_PeaksOf_7 : List GOp := [oo 19 (.mv (tt 17)), oo 8 (.al [.int .i64 0]), on (.st 1 (tt 8) (tt 19))]
abbrev c_impl_PeaksOf_8 : List GOp := [oo 20 (.fa 1 (tt 2)), oo 21 (.ld (tt 20)), oo 22 (.mf (.func 104) [] [tt 8, tt 3]), oo 23 (.call (ff 103) [tt 21, tt 22]), oo 24 (.un .not (tt 23))]
abbrev c_impl_PeaksOf_9 : List GOp := [oo 25 (.mv (tt 7)), oo 26 (.ld (tt 8)), oo 27 (.bs 1 [tt 26]), oo 28 (.ap 1 8 [.int .i64 0] (tt 25) (tt 27)), oo 7 (.mv (tt 28))]
abbrev c_impl_PeaksOf_10 : List GOp := [oo 29 (.bin .add (tt 17) (ci 1)), oo 17 (.mv (tt 29))]
abbrev c_impl_PeaksOf_l0 : GCode := .seq (.reg c_impl_PeaksOf_6) (.seq (.cond (tt 18) (.skip) (.exit 0)) (.seq (.blk 1 (.seq (.reg c_impl_PeaksOf_7) (.seq (.reg c_impl_PeaksOf_8) (.cond (tt 24) (.reg c_impl_PeaksOf_9) (.skip))))) (.reg c_impl_PeaksOf_10)))
abbrev c_impl_PeaksOf_12 : List GOp := [oo 30 (.mv (tt 7)), oo 4 (.mv (tt 30)), oo 5 (.mv (ci 0))]
abbrev c_impl_PeaksOf : GCode := .seq (.reg c_impl_PeaksOf_0) (.seq (.seq (.reg c_impl_PeaksOf_1) (.seq (.reg c_impl_PeaksOf_2) (.cond (tt 13) (.seq (.reg c_impl_PeaksOf_3) (.ret)) (.skip)))) (.seq (.reg c_impl_PeaksOf_4) (.seq (.seq (.reg c_impl_PeaksOf_5) (.blk 0 (.loop c_impl_PeaksOf_l0))) (.seq (.reg c_impl_PeaksOf_12) (.ret)))))
theorem c_impl_PeaksOf_d : decFn Try.prog Try.f30 = some (31, [.t 4, .t 5], c_impl_PeaksOf) := by kernel_rfl
theorem c_impl_PeaksOf_i {args : List Value} {G : GH} {K : Value → GH → Prop} (hn : args.length ≤ 31) (h : gW Try.prog c_impl_PeaksOf (RetK [.t 4, .t 5] K) (T0 args) G) : GC Try.prog 30 args G K := GC_intro mixed Try.func30 c_impl_PeaksOf_d hn h
abbrev c_impl_PeaksOf_fn1_0 : List GOp := [oo 3 (.bx (tt 0)), oo 4 (.mv (cb  false))]
abbrev c_impl_PeaksOf_fn1_1 : List DOp := [dl 0 (oo 5 (.fa 0 (tt 3))), dl 1 (oo 6 (.ld (tt 5))), dl 2 (oo 7 (.ld (tt 1))), dl 3 (oo 8 (.bin .eql (tt 6) (tt 7))), dl 4 (oo 9 (.mv (tt 8))), dl 5 (og 10 9 true (.ld (tt 2))), dl 6 (og 11 9 true (.fa 1 (tt 3))), dl 7 (og 12 9 true (.ld (tt 11))), dl 8 (og 13 9 true (.ia 1 (tt 10) (tt 12))), dl 9 (og 14 9 true (.ld (tt 13))), dl 10 (og 15 9 true (.ld (tt 2))), dl 11 (og 16 9 true (.ld (tt 1))), dl 12 (og 17 9 true (.ia 1 (tt 15) (tt 16))), dl 13 (og 18 9 true (.ld (tt 17))), dl 14 (og 19 9 true (.bin .geq (tt 14) (tt 18))), dl 15 (oo 20 (.pick (tt 9) (tt 19) (cb  false))), dl 16 (oo 21 (.mv (tt 20))), dl 17 (og 22 21 false (.fa 1 (tt 3))), dl 18 (og 23 21 false (.ld (tt 22))), dl 19 (og 24 21 false (.ld (tt 1))), dl 20 (og 25 21 false (.bin .eql (tt 23) (tt 24))), dl 21 (og 26 21 false (.mv (tt 25))), dl 22 (og 27 26 true (.ld (tt 2))), dl 23 (og 28 26 true (.fa 0 (tt 3))), dl 24 (og 29 26 true (.ld (tt 28))), dl 25 (og 30 26 true (.ia 1 (tt 27) (tt 29))), dl 26 (og 31 26 true (.ld (tt 30))), dl 27 (og 32 26 true (.ld (tt 2))), dl 28 (og 33 26 true (.ld (tt 1))), dl 29 (og 34 26 true (.ia 1 (tt 32) (tt 33))), dl 30 (og 35 26 true (.ld (tt 34))), dl 31 (og 36 26 true (.bin .geq (tt 31) (tt 35))), dl 32 (og 37 21 false (.pick (tt 26) (tt 36) (cb  false))), dl 33 (oo 38 (.pick (tt 21) (cb  true) (tt 37))), dl 34 (oo 4 (.mv (tt 38)))]
abbrev c_impl_PeaksOf_fn1 : GCode := .seq (.reg c_impl_PeaksOf_fn1_0) (.seq (.dreg c_impl_PeaksOf_fn1_1) (.ret))
theorem c_impl_PeaksOf_fn1_d : decFn Try.prog Try.f104 = some (39, [.t 4], c_impl_PeaksOf_fn1) := by kernel_rfl
theorem c_impl_PeaksOf_fn1_i {args : List Value} {G : GH} {K : Value → GH → Prop} (hn : args.length ≤ 39) (h : gW Try.prog c_impl_PeaksOf_fn1 (RetK [.t 4] K) (T0 args) G) : GC Try.prog 104 args G K := GC_intro mixed Try.func104 c_impl_PeaksOf_fn1_d hn h
abbrev c_impl_ValidGraph_0 : List GOp := [oo 1 (.bx (tt 0)), oo 2 (.mv (cb  false))]
abbrev c_impl_ValidGraph_1 : List GOp := [oo 5 (.fa 1 (tt 1)), oo 6 (.ld (tt 5)), oo 7 (.len (tt 6)), oo 8 (.mv (ci 0))]
abbrev c_impl_ValidGraph_2 : List GOp := [oo 9 (.bin .lss (tt 8) (tt 7))]
abbrev c_impl_ValidGraph_3 : List GOp := [oo 10 (.mv (tt 8)), oo 11 (.ia 3 (tt 6) (tt 8)), oo 12 (.ldn 3 (tt 11)), oo 4 (.al [.int .i64 0, .int .i64 0, .int .i64 0]), oo 3 (.mv (tt 10)), on (.st 3 (tt 4) (tt 12))]
abbrev c_impl_ValidGraph_4 : List DOp := [dl 0 (oo 13 (.fa 0 (tt 4))), dl 1 (oo 14 (.ld (tt 13))), dl 2 (oo 15 (.bin .lss (tt 14) (ci 0))), dl 3 (oo 16 (.mv (tt 15))), dl 4 (og 17 16 false (.fa 0 (tt 4))), dl 5 (og 18 16 false (.ld (tt 17))), dl 6 (og 19 16 false (.fa 1 (tt 4))), dl 7 (og 20 16 false (.ld (tt 19))), dl 8 (og 21 16 false (.bin .geq (tt 18) (tt 20))), dl 9 (oo 22 (.pick (tt 16) (cb  true) (tt 21))), dl 10 (oo 23 (.mv (tt 22))), dl 11 (og 24 23 false (.fa 1 (tt 4))), dl 12 (og 25 23 false (.ld (tt 24))), dl 13 (og 26 23 false (.fa 0 (tt 1))), dl 14 (og 27 23 false (.ld (tt 26))), dl 15 (og 28 23 false (.bin .geq (tt 25) (tt 27))), dl 16 (oo 29 (.pick (tt 23) (cb  true) (tt 28))), dl 17 (oo 30 (.mv (tt 29))), dl 18 (og 31 30 false (.fa 2 (tt 4))), dl 19 (og 32 30 false (.ld (tt 31))), dh 20 [14, 12, 7, 5, 1] (og 33 30 false (.call (ff 122) [tt 32, (ci 1), (ci 9)])), dl 21 (og 34 30 false (.un .not (tt 33))), dl 22 (oo 35 (.pick (tt 30) (cb  true) (tt 34))), dl 23 (oo 36 (.mv (tt 35))), dl 24 (og 37 36 false (.mv (tt 3))), dl 25 (og 38 36 false (.bin .gtr (tt 37) (ci 0))), dl 26 (og 39 36 false (.mv (tt 38))), dl 27 (og 40 39 true (.fa 1 (tt 1))), dl 28 (og 41 39 true (.ld (tt 40))), dl 29 (og 42 39 true (.mv (tt 3))), dl 30 (og 43 39 true (.bin .sub (tt 42) (ci 1))), dl 31 (og 44 39 true (.ia 3 (tt 41) (tt 43))), dl 32 (og 45 39 true (.ldn 3 (tt 44))), dl 33 (og 46 39 true (.ldn 3 (tt 4))), dh 34 [28, 19, 14, 12, 7, 5, 1] (og 47 39 true (.call (ff 217) [tt 45, tt 46])), dl 35 (og 48 39 true (.bin .geq (tt 47) (ci 0))), dl 36 (og 49 36 false (.pick (tt 39) (tt 48) (cb  false))), dl 37 (oo 50 (.pick (tt 36) (cb  true) (tt 49)))]
abbrev c_impl_ValidGraph_5 : List GOp := [oo 2 (.mv (cb  false))]
abbrev c_impl_ValidGraph_6 : List GOp := [oo 51 (.bin .add (tt 8) (ci 1)), oo 8 (.mv (tt 51))]
abbrev c_impl_ValidGraph_l0 : GCode := .seq (.reg c_impl_ValidGraph_2) (.seq (.cond (tt 9) (.skip) (.exit 0)) (.seq (.blk 1 (.seq (.reg c_impl_ValidGraph_3) (.seq (.dreg c_impl_ValidGraph_4) (.cond (tt 50) (.seq (.reg c_impl_ValidGraph_5) (.ret)) (.skip))))) (.reg c_impl_ValidGraph_6)))
abbrev c_impl_ValidGraph_8 : List GOp := [oo 52 (.fa 0 (tt 1)), oo 53 (.ld (tt 52)), oo 54 (.call (ff 122) [tt 53, (ci 1), (ci 12)]), oo 55 (.mv (tt 54)), og 56 55 true (.fa 1 (tt 1)), og 57 55 true (.ld (tt 56)), og 58 55 true (.len (tt 57)), og 59 55 true (.bin .leq (tt 58) (ci 24)), oo 60 (.pick (tt 55) (tt 59) (cb  false)), oo 2 (.mv (tt 60))]
abbrev c_impl_ValidGraph : GCode := .seq (.reg c_impl_ValidGraph_0) (.seq (.seq (.reg c_impl_ValidGraph_1) (.blk 0 (.loop c_impl_ValidGraph_l0))) (.seq (.reg c_impl_ValidGraph_8) (.ret)))
theorem c_impl_ValidGraph_d : decFn Try.prog Try.f141 = some (61, [.t 2], c_impl_ValidGraph) := by kernel_rfl
theorem c_impl_ValidGraph_i {args : List Value} {G : GH} {K : Value → GH → Prop} (hn : args.length ≤ 61) (h : gW Try.prog c_impl_ValidGraph (RetK [.t 2] K) (T0 args) G) : GC Try.prog 141 args G K := GC_intro mixed Try.func141 c_impl_ValidGraph_d hn h
abbrev c_impl_abs_0 : List GOp := [oo 2 (.mv (ci 0))]
abbrev c_impl_abs_1 : List GOp := [oo 3 (.mv (tt 0)), oo 4 (.bin .lss (tt 3) (ci 0))]
abbrev c_impl_abs_2 : List GOp := [oo 5 (.mv (tt 0)), oo 6 (.un .neg (tt 5)), oo 2 (.mv (tt 6))]
abbrev c_impl_abs_3 : List GOp := [oo 7 (.mv (tt 0)), oo 2 (.mv (tt 7))]
abbrev c_impl_abs : GCode := .seq (.reg c_impl_abs_0) (.seq (.seq (.reg c_impl_abs_1) (.cond (tt 4) (.seq (.reg c_impl_abs_2) (.ret)) (.skip))) (.seq (.reg c_impl_abs_3) (.ret)))
theorem c_impl_abs_d : decFn Try.prog Try.f115 = some (8, [.t 2], c_impl_abs) := by kernel_rfl
theorem c_impl_abs_i {args : List Value} {G : GH} {K : Value → GH → Prop} (hn : args.length ≤ 8) (h : gW Try.prog c_impl_abs (RetK [.t 2] K) (T0 args) G) : GC Try.prog 115 args G K := GC_intro mixed Try.func115 c_impl_abs_d hn h
abbrev c_impl_compareEdges_0 : List GOp := [oo 2 (.bx (tt 0)), oo 3 (.bx (tt 1)), oo 4 (.mv (ci 0))]
abbrev c_impl_compareEdges_1 : List DOp := [dl 0 (oo 5 (.fa 0 (tt 2))), dl 1 (oo 6 (.ld (tt 5))), dl 2 (oo 7 (.fa 0 (tt 3))), dl 3 (oo 8 (.ld (tt 7))), dl 5 (oo 10 (.fa 1 (tt 2))), dl 6 (oo 11 (.ld (tt 10))), dl 7 (oo 12 (.fa 1 (tt 3))), dl 8 (oo 13 (.ld (tt 12))), dh 4 [8, 6] (oo 9 (.call (ff 218) [tt 6, tt 8])), dh 9 [3, 1] (oo 14 (.call (ff 218) [tt 11, tt 13])), dh 10 [8, 6, 3, 1] (oo 15 (.bs 1 [tt 9, tt 14])), dh 11 [8, 6, 3, 1] (oo 16 (.call (ff 241) [tt 15])), dl 12 (oo 4 (.mv (tt 16)))]
abbrev c_impl_compareEdges : GCode := .seq (.reg c_impl_compareEdges_0) (.seq (.dreg c_impl_compareEdges_1) (.ret))
theorem c_impl_compareEdges_d : decFn Try.prog Try.f217 = some (17, [.t 4], c_impl_compareEdges) := by kernel_rfl
theorem c_impl_compareEdges_i {args : List Value} {G : GH} {K : Value → GH → Prop} (hn : args.length ≤ 17) (h : gW Try.prog c_impl_compareEdges (RetK [.t 4] K) (T0 args) G) : GC Try.prog 217 args G K := GC_intro mixed Try.func217 c_impl_compareEdges_d hn h
abbrev c_impl_components_0 : List GOp := [oo 1 (.bx (tt 0)), oo 2 (.mv (.const (.slice none 0 0)))]
abbrev c_impl_components_1 : List GOp := [oo 7 (.fa 0 (tt 1)), oo 8 (.ld (tt 7)), oo 9 (.call (ff 128) [tt 8]), oo 3 (.mv (tt 9))]
abbrev c_impl_components_2 : List GOp := [oo 10 (.fa 0 (tt 1)), oo 11 (.ld (tt 10)), oo 12 (.mv (ci 0))]
abbrev c_impl_components_3 : List GOp := [oo 13 (.bin .lss (tt 12) (tt 11))]
abbrev c_impl_components_4 : List GOp := [oo 14 (.fa 1 (tt 1)), oo 15 (.ld (tt 14)), oo 16 (.len (tt 15)), oo 17 (.mv (ci 0))]
abbrev c_impl_components_5 : List GOp := [oo 18 (.bin .lss (tt 17) (tt 16))]
abbrev c_impl_components_6 : List GOp := [oo 19 (.ia 3 (tt 15) (tt 17)), oo 20 (.ldn 3 (tt 19)), oo 5 (.al [.int .i64 0, .int .i64 0, .int .i64 0]), on (.st 3 (tt 5) (tt 20))]
abbrev c_impl_components_7 : List DOp := [dl 0 (oo 21 (.mv (tt 3))), dl 1 (oo 22 (.fa 0 (tt 5))), dl 2 (oo 23 (.ld (tt 22))), dl 3 (oo 24 (.ia 1 (tt 21) (tt 23))), dl 4 (oo 25 (.ld (tt 24))), dl 5 (oo 26 (.mv (tt 3))), dl 6 (oo 27 (.fa 1 (tt 5))), dl 7 (oo 28 (.ld (tt 27))), dl 8 (oo 29 (.ia 1 (tt 26) (tt 28))), dl 9 (oo 30 (.ld (tt 29))), dl 10 (oo 31 (.mn [tt 25, tt 30])), dl 11 (oo 6 (.mv (tt 31)))]
abbrev c_impl_components_8 : List DOp := [dl 0 (oo 32 (.mv (tt 3))), dl 1 (oo 33 (.fa 0 (tt 5))), dl 2 (oo 34 (.ld (tt 33))), dl 3 (oo 35 (.mv (tt 3))), dl 4 (oo 36 (.fa 1 (tt 5))), dl 5 (oo 37 (.ld (tt 36))), dl 6 (oo 38 (.mv (tt 6))), dl 7 (oo 39 (.mv (tt 6))), dl 8 (oo 40 (.ia 1 (tt 32) (tt 34))), dh 9 [5] (on (.st 1 (tt 40) (tt 38))), dl 10 (oo 41 (.ia 1 (tt 35) (tt 37))), dh 11 [] (on (.st 1 (tt 41) (tt 39)))]
abbrev c_impl_components_9 : List GOp := [oo 42 (.bin .add (tt 17) (ci 1)), oo 17 (.mv (tt 42))]
abbrev c_impl_components_l0 : GCode := .seq (.reg c_impl_components_5) (.seq (.cond (tt 18) (.skip) (.exit 2)) (.seq (.blk 3 (.seq (.reg c_impl_components_6) (.seq (.dreg c_impl_components_7) (.dreg c_impl_components_8)))) (.reg c_impl_components_9)))
abbrev c_impl_components_11 : List GOp := [oo 43 (.bin .add (tt 12) (ci 1)), oo 12 (.mv (tt 43))]
abbrev c_impl_components_l1 : GCode := .seq (.reg c_impl_components_3) (.seq (.cond (tt 13) (.skip) (.exit 0)) (.seq (.blk 1 (.seq (.reg c_impl_components_4) (.blk 2 (.loop c_impl_components_l0)))) (.reg c_impl_components_11)))
abbrev c_impl_components_13 : List GOp := [oo 44 (.mv (tt 3)), oo 2 (.mv (tt 44))]
abbrev c_impl_components : GCode := .seq (.reg c_impl_components_0) (.seq (.reg c_impl_components_1) (.seq (.seq (.reg c_impl_components_2) (.blk 0 (.loop c_impl_components_l1))) (.seq (.reg c_impl_components_13) (.ret))))
theorem c_impl_components_d : decFn Try.prog Try.f116 = some (45, [.t 2], c_impl_components) := by kernel_rfl
theorem c_impl_components_i {args : List Value} {G : GH} {K : Value → GH → Prop} (hn : args.length ≤ 45) (h : gW Try.prog c_impl_components (RetK [.t 2] K) (T0 args) G) : GC Try.prog 116 args G K := GC_intro mixed Try.func116 c_impl_components_d hn h
abbrev c_impl_firstChoice_0 : List GOp := [oo 2 (.mv (.const (.slice none 0 0)))]
abbrev c_impl_firstChoice_1 : List GOp := [oo 3 (.mv (.const (.slice none 0 0)))]
abbrev c_impl_firstChoice_2 : List GOp := [oo 5 (.mv (tt 0)), oo 6 (.mv (ci 0))]
abbrev c_impl_firstChoice_3 : List GOp := [oo 7 (.bin .lss (tt 6) (tt 5))]
abbrev c_impl_firstChoice_4 : List GOp := [oo 8 (.mv (tt 6)), oo 4 (.mv (tt 8))]
abbrev c_impl_firstChoice_5 : List GOp := [oo 9 (.mv (tt 3)), oo 10 (.mv (tt 4)), oo 11 (.bs 1 [tt 10]), oo 12 (.ap 1 8 [.int .i64 0] (tt 9) (tt 11)), oo 3 (.mv (tt 12))]
abbrev c_impl_firstChoice_6 : List GOp := [oo 13 (.bin .add (tt 6) (ci 1)), oo 6 (.mv (tt 13))]
abbrev c_impl_firstChoice_l0 : GCode := .seq (.reg c_impl_firstChoice_3) (.seq (.cond (tt 7) (.skip) (.exit 0)) (.seq (.blk 1 (.seq (.reg c_impl_firstChoice_4) (.reg c_impl_firstChoice_5))) (.reg c_impl_firstChoice_6)))
abbrev c_impl_firstChoice_8 : List GOp := [oo 14 (.mv (tt 3)), oo 2 (.mv (tt 14))]
abbrev c_impl_firstChoice : GCode := .seq (.reg c_impl_firstChoice_0) (.seq (.reg c_impl_firstChoice_1) (.seq (.seq (.reg c_impl_firstChoice_2) (.blk 0 (.loop c_impl_firstChoice_l0))) (.seq (.reg c_impl_firstChoice_8) (.ret))))
theorem c_impl_firstChoice_d : decFn Try.prog Try.f128 = some (15, [.t 2], c_impl_firstChoice) := by kernel_rfl
theorem c_impl_firstChoice_i {args : List Value} {G : GH} {K : Value → GH → Prop} (hn : args.length ≤ 15) (h : gW Try.prog c_impl_firstChoice (RetK [.t 2] K) (T0 args) G) : GC Try.prog 128 args G K := GC_intro mixed Try.func128 c_impl_firstChoice_d hn h
abbrev c_impl_isGraphVector_0 : List GOp := [oo 2 (.bx (tt 0)), oo 4 (.mv (cb  false))]
abbrev c_impl_isGraphVector_1 : List DOp := [dl 0 (oo 5 (.mv (tt 1))), dl 2 (oo 7 (.fa 0 (tt 2))), dl 3 (oo 8 (.ld (tt 7))), dh 1 [3] (oo 6 (.call (ff 213) [tt 5])), dl 4 (oo 9 (.bin .eql (tt 6) (tt 8))), dl 5 (oo 10 (.mv (tt 9))), dl 6 (og 11 10 true (.mv (tt 1))), dh 7 [3] (og 12 10 true (.call (ff 152) [tt 11, (ff 246)])), dl 8 (og 13 10 true (.un .not (tt 12))), dl 9 (oo 14 (.pick (tt 10) (tt 13) (cb  false))), dl 10 (oo 4 (.mv (tt 14)))]
abbrev c_impl_isGraphVector : GCode := .seq (.reg c_impl_isGraphVector_0) (.seq (.dreg c_impl_isGraphVector_1) (.ret))
theorem c_impl_isGraphVector_d : decFn Try.prog Try.f201 = some (15, [.t 4], c_impl_isGraphVector) := by kernel_rfl
theorem c_impl_isGraphVector_i {args : List Value} {G : GH} {K : Value → GH → Prop} (hn : args.length ≤ 15) (h : gW Try.prog c_impl_isGraphVector (RetK [.t 4] K) (T0 args) G) : GC Try.prog 201 args G K := GC_intro mixed Try.func201 c_impl_isGraphVector_d hn h
abbrev c_impl_isGraphVector_fn1_0 : List GOp := [oo 2 (.mv (cb  false))]
abbrev c_impl_isGraphVector_fn1_1 : List GOp := [oo 3 (.mv (tt 0)), oo 4 (.call (ff 122) [tt 3, (ci (-1000000)), (ci 1000000)]), oo 5 (.un .not (tt 4)), oo 2 (.mv (tt 5))]
abbrev c_impl_isGraphVector_fn1 : GCode := .seq (.reg c_impl_isGraphVector_fn1_0) (.seq (.reg c_impl_isGraphVector_fn1_1) (.ret))
theorem c_impl_isGraphVector_fn1_d : decFn Try.prog Try.f246 = some (6, [.t 2], c_impl_isGraphVector_fn1) := by kernel_rfl
theorem c_impl_isGraphVector_fn1_i {args : List Value} {G : GH} {K : Value → GH → Prop} (hn : args.length ≤ 6) (h : gW Try.prog c_impl_isGraphVector_fn1 (RetK [.t 2] K) (T0 args) G) : GC Try.prog 246 args G K := GC_intro mixed Try.func246 c_impl_isGraphVector_fn1_d hn h
abbrev c_impl_majority_0 : List GOp := [oo 2 (.bx (tt 0)), oo 4 (.mv (.const (.slice none 0 0)))]
abbrev c_impl_majority_1 : List GOp := [oo 5 (.mv (.const (.slice none 0 0)))]
abbrev c_impl_majority_2 : List GOp := [oo 14 (.mv (tt 1)), oo 15 (.len (tt 14)), oo 16 (.mv (ci 0))]
abbrev c_impl_majority_3 : List GOp := [oo 17 (.bin .lss (tt 16) (tt 15))]
abbrev c_impl_majority_4 : List GOp := [oo 18 (.mv (tt 16)), oo 19 (.ia 1 (tt 14) (tt 16)), oo 20 (.ld (tt 19)), oo 6 (.mv (tt 18)), oo 7 (.mv (tt 20))]
abbrev c_impl_majority_5 : List GOp := [oo 21 (.mv (tt 7)), oo 22 (.ldn 2 (tt 2)), oo 23 (.mv (tt 1)), oo 24 (.mv (tt 6)), oo 25 (.mv (tt 7)), oo 26 (.call (ff 204) [tt 22, tt 23, tt 24, tt 25]), oo 8 (.mv (tt 21)), oo 9 (.mv (tt 26))]
abbrev c_impl_majority_6 : List GOp := [oo 10 (.mv (cb  false))]
abbrev c_impl_majority_7 : List GOp := [oo 27 (.mv (tt 1)), oo 28 (.len (tt 27)), oo 29 (.mv (ci 0))]
abbrev c_impl_majority_8 : List GOp := [oo 30 (.bin .lss (tt 29) (tt 28))]
abbrev c_impl_majority_9 : List GOp := [oo 31 (.ia 1 (tt 27) (tt 29)), oo 32 (.ld (tt 31)), oo 12 (.mv (tt 32))]
abbrev c_impl_majority_10 : List GOp := [oo 33 (.ldn 2 (tt 2)), oo 34 (.mv (tt 1)), oo 35 (.mv (tt 6)), oo 36 (.mv (tt 12)), oo 37 (.call (ff 204) [tt 33, tt 34, tt 35, tt 36]), oo 13 (.mv (tt 37))]
abbrev c_impl_majority_11 : List GOp := [oo 38 (.mv (tt 13)), oo 39 (.mv (tt 9)), oo 40 (.bin .gtr (tt 38) (tt 39)), oo 41 (.mv (tt 40)), og 42 41 false (.mv (tt 13)), og 43 41 false (.mv (tt 9)), og 44 41 false (.bin .eql (tt 42) (tt 43)), og 45 41 false (.mv (tt 44)), og 46 45 true (.mv (tt 10)), og 47 41 false (.pick (tt 45) (tt 46) (cb  false)), og 48 41 false (.mv (tt 47)), og 49 48 true (.mv (tt 12)), og 50 48 true (.mv (tt 8)), og 51 48 true (.bin .lss (tt 49) (tt 50)), og 52 41 false (.pick (tt 48) (tt 51) (cb  false)), oo 53 (.pick (tt 41) (cb  true) (tt 52))]
abbrev c_impl_majority_12 : List GOp := [oo 54 (.mv (tt 12)), oo 55 (.mv (tt 13)), oo 8 (.mv (tt 54)), oo 9 (.mv (tt 55)), oo 10 (.mv (cb  true))]
abbrev c_impl_majority_13 : List GOp := [oo 56 (.bin .add (tt 29) (ci 1)), oo 29 (.mv (tt 56))]
abbrev c_impl_majority_l0 : GCode := .seq (.reg c_impl_majority_8) (.seq (.cond (tt 30) (.skip) (.exit 2)) (.seq (.blk 3 (.seq (.reg c_impl_majority_9) (.seq (.reg c_impl_majority_10) (.seq (.reg c_impl_majority_11) (.cond (tt 53) (.reg c_impl_majority_12) (.skip)))))) (.reg c_impl_majority_13)))
abbrev c_impl_majority_15 : List GOp := [oo 57 (.mv (tt 5)), oo 58 (.mv (tt 8)), oo 59 (.bs 1 [tt 58]), oo 60 (.ap 1 8 [.int .i64 0] (tt 57) (tt 59)), oo 5 (.mv (tt 60))]
abbrev c_impl_majority_16 : List GOp := [oo 61 (.bin .add (tt 16) (ci 1)), oo 16 (.mv (tt 61))]
abbrev c_impl_majority_l1 : GCode := .seq (.reg c_impl_majority_3) (.seq (.cond (tt 17) (.skip) (.exit 0)) (.seq (.blk 1 (.seq (.reg c_impl_majority_4) (.seq (.reg c_impl_majority_5) (.seq (.reg c_impl_majority_6) (.seq (.seq (.reg c_impl_majority_7) (.blk 2 (.loop c_impl_majority_l0))) (.reg c_impl_majority_15)))))) (.reg c_impl_majority_16)))
abbrev c_impl_majority_18 : List GOp := [oo 62 (.mv (tt 5)), oo 4 (.mv (tt 62))]
abbrev c_impl_majority : GCode := .seq (.reg c_impl_majority_0) (.seq (.reg c_impl_majority_1) (.seq (.seq (.reg c_impl_majority_2) (.blk 0 (.loop c_impl_majority_l1))) (.seq (.reg c_impl_majority_18) (.ret))))
theorem c_impl_majority_d : decFn Try.prog Try.f108 = some (63, [.t 4], c_impl_majority) := by kernel_rfl
theorem c_impl_majority_i {args : List Value} {G : GH} {K : Value → GH → Prop} (hn : args.length ≤ 63) (h : gW Try.prog c_impl_majority (RetK [.t 4] K) (T0 args) G) : GC Try.prog 108 args G K := GC_intro mixed Try.func108 c_impl_majority_d hn h
abbrev c_impl_rest_0 : List GOp := [oo 4 (.mv (ci 0)), oo 5 (.mv (.const (.slice none 0 0)))]
abbrev c_impl_rest_1 : List GOp := [oo 6 (.mv (ci 0))]
abbrev c_impl_rest_2 : List GOp := [oo 8 (.mv (tt 6)), oo 9 (.bin .leq (tt 8) (ci 1000))]
abbrev c_impl_rest_3 : List GOp := [oo 12 (.mv (tt 1)), oo 13 (.mv (tt 0)), oo 14 (.call (tt 12) [tt 13]), oo 7 (.mv (tt 14))]
abbrev c_impl_rest_4 : List GOp := [oo 15 (.mv (tt 7)), oo 16 (.mv (tt 0)), oo 17 (.call (ff 205) [tt 15, tt 16])]
abbrev c_impl_rest_5 : List GOp := [oo 18 (.mv (tt 6)), oo 19 (.mv (tt 0)), oo 20 (.call (ff 123) [tt 19]), oo 4 (.mv (tt 18)), oo 5 (.mv (tt 20))]
abbrev c_impl_rest_6 : List GOp := [oo 21 (.mv (tt 7)), oo 0 (.mv (tt 21))]
abbrev c_impl_rest_7 : List GOp := [oo 10 (.mv (tt 6)), oo 11 (.bin .add (tt 10) (ci 1)), oo 6 (.mv (tt 11))]
abbrev c_impl_rest_l0 : GCode := .seq (.seq (.reg c_impl_rest_2) (.cond (tt 9) (.skip) (.exit 0))) (.seq (.blk 1 (.seq (.reg c_impl_rest_3) (.seq (.seq (.reg c_impl_rest_4) (.cond (tt 17) (.seq (.reg c_impl_rest_5) (.ret)) (.skip))) (.reg c_impl_rest_6)))) (.reg c_impl_rest_7))
abbrev c_impl_rest_9 : List GOp := [oo 4 (.mv (ci (-1))), oo 5 (.mv (.const (.slice none 0 0)))]
abbrev c_impl_rest : GCode := .seq (.reg c_impl_rest_0) (.seq (.seq (.reg c_impl_rest_1) (.blk 0 (.loop c_impl_rest_l0))) (.seq (.reg c_impl_rest_9) (.ret)))
theorem c_impl_rest_d : decFn Try.prog Try.f111 = some (22, [.t 4, .t 5], c_impl_rest) := by kernel_rfl
theorem c_impl_rest_i {args : List Value} {G : GH} {K : Value → GH → Prop} (hn : args.length ≤ 22) (h : gW Try.prog c_impl_rest (RetK [.t 4, .t 5] K) (T0 args) G) : GC Try.prog 111 args G K := GC_intro mixed Try.func111 c_impl_rest_d hn h
abbrev c_impl_size_int64_0 : List GOp := [oo 2 (.mv (ci 0))]
abbrev c_impl_size_int64_1 : List GOp := [oo 3 (.mv (tt 0)), oo 4 (.len (tt 3)), oo 2 (.mv (tt 4))]
abbrev c_impl_size_int64 : GCode := .seq (.reg c_impl_size_int64_0) (.seq (.reg c_impl_size_int64_1) (.ret))
theorem c_impl_size_int64_d : decFn Try.prog Try.f213 = some (5, [.t 2], c_impl_size_int64) := by kernel_rfl
theorem c_impl_size_int64_i {args : List Value} {G : GH} {K : Value → GH → Prop} (hn : args.length ≤ 5) (h : gW Try.prog c_impl_size_int64 (RetK [.t 2] K) (T0 args) G) : GC Try.prog 213 args G K := GC_intro mixed Try.func213 c_impl_size_int64_d hn h
abbrev c_impl_support_0 : List GOp := [oo 4 (.bx (tt 0)), oo 8 (.mv (ci 0))]
abbrev c_impl_support_1 : List GOp := [oo 9 (.mv (ci 0))]
abbrev c_impl_support_2 : List GOp := [oo 12 (.fa 1 (tt 4)), oo 13 (.ld (tt 12)), oo 14 (.len (tt 13)), oo 15 (.mv (ci 0))]
abbrev c_impl_support_3 : List GOp := [oo 16 (.bin .lss (tt 15) (tt 14))]
abbrev c_impl_support_4 : List GOp := [oo 17 (.ia 3 (tt 13) (tt 15)), oo 18 (.ldn 3 (tt 17)), oo 11 (.al [.int .i64 0, .int .i64 0, .int .i64 0]), on (.st 3 (tt 11) (tt 18))]
abbrev c_impl_support_5 : List GOp := [oo 19 (.fa 0 (tt 11)), oo 20 (.ld (tt 19)), oo 21 (.mv (tt 2)), oo 22 (.bin .eql (tt 20) (tt 21)), oo 23 (.mv (tt 22)), og 24 23 true (.mv (tt 1)), og 25 23 true (.fa 1 (tt 11)), og 26 23 true (.ld (tt 25)), og 27 23 true (.ia 1 (tt 24) (tt 26)), og 28 23 true (.ld (tt 27)), og 29 23 true (.mv (tt 3)), og 30 23 true (.bin .eql (tt 28) (tt 29)), oo 31 (.pick (tt 23) (tt 30) (cb  false)), oo 32 (.mv (tt 31)), og 33 32 false (.fa 1 (tt 11)), og 34 32 false (.ld (tt 33)), og 35 32 false (.mv (tt 2)), og 36 32 false (.bin .eql (tt 34) (tt 35)), og 37 32 false (.mv (tt 36)), og 38 37 true (.mv (tt 1)), og 39 37 true (.fa 0 (tt 11)), og 40 37 true (.ld (tt 39)), og 41 37 true (.ia 1 (tt 38) (tt 40)), og 42 37 true (.ld (tt 41)), og 43 37 true (.mv (tt 3)), og 44 37 true (.bin .eql (tt 42) (tt 43)), og 45 32 false (.pick (tt 37) (tt 44) (cb  false)), oo 46 (.pick (tt 32) (cb  true) (tt 45))]
abbrev c_impl_support_6 : List GOp := [oo 47 (.mv (tt 9)), oo 48 (.fa 2 (tt 11)), oo 49 (.ld (tt 48)), oo 50 (.bin .add (tt 47) (tt 49)), oo 9 (.mv (tt 50))]
abbrev c_impl_support_7 : List GOp := [oo 51 (.bin .add (tt 15) (ci 1)), oo 15 (.mv (tt 51))]
abbrev c_impl_support_l0 : GCode := .seq (.reg c_impl_support_3) (.seq (.cond (tt 16) (.skip) (.exit 0)) (.seq (.blk 1 (.seq (.reg c_impl_support_4) (.seq (.reg c_impl_support_5) (.cond (tt 46) (.reg c_impl_support_6) (.skip))))) (.reg c_impl_support_7)))
abbrev c_impl_support_9 : List GOp := [oo 52 (.mv (tt 9)), oo 8 (.mv (tt 52))]
abbrev c_impl_support : GCode := .seq (.reg c_impl_support_0) (.seq (.reg c_impl_support_1) (.seq (.seq (.reg c_impl_support_2) (.blk 0 (.loop c_impl_support_l0))) (.seq (.reg c_impl_support_9) (.ret))))
theorem c_impl_support_d : decFn Try.prog Try.f204 = some (53, [.t 8], c_impl_support) := by kernel_rfl
theorem c_impl_support_i {args : List Value} {G : GH} {K : Value → GH → Prop} (hn : args.length ≤ 53) (h : gW Try.prog c_impl_support (RetK [.t 8] K) (T0 args) G) : GC Try.prog 204 args G K := GC_intro mixed Try.func204 c_impl_support_d hn h
abbrev c_impl_withVector_0 : List GOp := [oo 2 (.bx (tt 0)), oo 4 (.mv (ci 0))]
abbrev c_impl_withVector_1 : List GOp := [oo 6 (.ldn 2 (tt 2)), oo 7 (.call (ff 141) [tt 6]), oo 8 (.un .not (tt 7)), oo 5 (.mv (tt 8))]
abbrev c_impl_withVector_2 : List GOp := [oo 4 (.mv (ci 1))]
abbrev c_impl_withVector_3 : List GOp := [oo 10 (.ldn 2 (tt 2)), oo 11 (.mv (tt 1)), oo 12 (.call (ff 201) [tt 10, tt 11]), oo 13 (.un .not (tt 12)), oo 9 (.mv (tt 13))]
abbrev c_impl_withVector_4 : List GOp := [oo 4 (.mv (ci 2))]
abbrev c_impl_withVector_5 : List GOp := [oo 4 (.mv (ci 0))]
abbrev c_impl_withVector : GCode := .seq (.reg c_impl_withVector_0) (.seq (.blk 0 (.seq (.reg c_impl_withVector_1) (.cond (tt 5) (.seq (.reg c_impl_withVector_2) (.ret)) (.seq (.reg c_impl_withVector_3) (.cond (tt 9) (.seq (.reg c_impl_withVector_4) (.ret)) (.skip)))))) (.seq (.reg c_impl_withVector_5) (.ret)))
theorem c_impl_withVector_d : decFn Try.prog Try.f102 = some (14, [.t 4], c_impl_withVector) := by kernel_rfl
theorem c_impl_withVector_i {args : List Value} {G : GH} {K : Value → GH → Prop} (hn : args.length ≤ 14) (h : gW Try.prog c_impl_withVector (RetK [.t 4] K) (T0 args) G) : GC Try.prog 102 args G K := GC_intro mixed Try.func102 c_impl_withVector_d hn h
abbrev c_impl_within_0 : List GOp := [oo 6 (.mv (cb  false))]
abbrev c_impl_within_1 : List GOp := [oo 7 (.mv (tt 0)), oo 8 (.mv (tt 1)), oo 9 (.bin .geq (tt 7) (tt 8)), oo 10 (.mv (tt 9)), og 11 10 true (.mv (tt 0)), og 12 10 true (.mv (tt 2)), og 13 10 true (.bin .leq (tt 11) (tt 12)), oo 14 (.pick (tt 10) (tt 13) (cb  false)), oo 6 (.mv (tt 14))]
abbrev c_impl_within : GCode := .seq (.reg c_impl_within_0) (.seq (.reg c_impl_within_1) (.ret))
theorem c_impl_within_d : decFn Try.prog Try.f122 = some (15, [.t 6], c_impl_within) := by kernel_rfl
theorem c_impl_within_i {args : List Value} {G : GH} {K : Value → GH → Prop} (hn : args.length ≤ 15) (h : gW Try.prog c_impl_within (RetK [.t 6] K) (T0 args) G) : GC Try.prog 122 args G K := GC_intro mixed Try.func122 c_impl_within_d hn h
abbrev c_laws_FnMajorities_0 : List GOp := [oo 4 (.mv (cb  false))]
abbrev c_laws_FnMajorities_1 : List GOp := [oo 23 (.mv (tt 0)), oo 24 (.call (ff 56) [tt 23]), oo 25 (.mv (tt 24)), og 26 25 false (.mv (tt 1)), og 27 25 false (.call (ff 56) [tt 26]), oo 28 (.pick (tt 25) (cb  true) (tt 27))]
abbrev c_laws_FnMajorities_2 : List GOp := [oo 4 (.mv (cb  true))]
abbrev c_laws_FnMajorities_3 : List GOp := [oo 30 (.mv (tt 0)), oo 31 (.call (ff 66) [tt 30]), oo 29 (.mv (tt 31)), oo 32 (.ex 0 (tt 29)), oo 33 (.ex 1 (tt 29)), oo 5 (.al [.int .i64 0, .slice none 0 0]), on (.st 2 (tt 5) (tt 32)), oo 6 (.mv (tt 33))]
abbrev c_laws_FnMajorities_4 : List GOp := [oo 35 (.ldn 2 (tt 5)), oo 36 (.mv (tt 6)), oo 37 (.call (ff 39) [tt 35, tt 36]), oo 34 (.mv (tt 37)), oo 38 (.ex 0 (tt 34)), oo 39 (.ex 1 (tt 34)), oo 40 (.ex 2 (tt 34)), oo 7 (.mv (tt 38)), oo 8 (.mv (tt 39)), oo 9 (.mv (tt 40))]
abbrev c_laws_FnMajorities_5 : List GOp := [oo 41 (.mv (tt 9)), oo 42 (.bin .eql (tt 41) (ci 0))]
abbrev c_laws_FnMajorities_6 : List GOp := [oo 44 (.ldn 2 (tt 5)), oo 45 (.mv (tt 8)), oo 46 (.call (ff 37) [tt 44, tt 45]), oo 43 (.mv (tt 46)), oo 47 (.ex 0 (tt 43)), oo 48 (.ex 1 (tt 43)), oo 10 (.mv (tt 47)), oo 11 (.mv (tt 48))]
abbrev c_laws_FnMajorities_7 : List GOp := [oo 49 (.mv (tt 7)), oo 50 (.bin .lss (tt 49) (ci 0)), oo 51 (.mv (tt 50)), og 52 51 false (.mv (tt 7)), og 53 51 false (.bin .gtr (tt 52) (ci 1000)), oo 54 (.pick (tt 51) (cb  true) (tt 53)), oo 55 (.mv (tt 54)), og 56 55 false (.mv (tt 11)), og 57 55 false (.bin .neq (tt 56) (ci 0)), oo 58 (.pick (tt 55) (cb  true) (tt 57)), oo 59 (.mv (tt 58)), og 60 59 false (.mv (tt 10)), og 61 59 false (.mv (tt 8)), og 62 59 false (.call (ff 67) [tt 60, tt 61]), og 63 59 false (.un .not (tt 62)), oo 64 (.pick (tt 59) (cb  true) (tt 63))]
abbrev c_laws_FnMajorities_8 : List GOp := [oo 4 (.mv (cb  false))]
abbrev c_laws_FnMajorities_9 : List GOp := [oo 12 (.mv (ci 0))]
abbrev c_laws_FnMajorities_10 : List GOp := [oo 65 (.mv (tt 12)), oo 66 (.mv (tt 8)), oo 67 (.len (tt 66)), oo 68 (.bin .lss (tt 65) (tt 67))]
abbrev c_laws_FnMajorities_11 : List GOp := [oo 71 (.mv (tt 6)), oo 72 (.mv (tt 8)), oo 73 (.mv (tt 12)), oo 74 (.ia 1 (tt 72) (tt 73)), oo 75 (.ld (tt 74)), oo 76 (.call (ff 68) [tt 71, tt 75]), oo 77 (.un .not (tt 76))]
abbrev c_laws_FnMajorities_12 : List GOp := [oo 4 (.mv (cb  false))]
abbrev c_laws_FnMajorities_13 : List GOp := [oo 69 (.mv (tt 12)), oo 70 (.bin .add (tt 69) (ci 1)), oo 12 (.mv (tt 70))]
abbrev c_laws_FnMajorities_l0 : GCode := .seq (.seq (.reg c_laws_FnMajorities_10) (.cond (tt 68) (.skip) (.exit 0))) (.seq (.blk 1 (.seq (.reg c_laws_FnMajorities_11) (.cond (tt 77) (.seq (.reg c_laws_FnMajorities_12) (.ret)) (.skip)))) (.reg c_laws_FnMajorities_13))
abbrev c_laws_FnMajorities_15 : List GOp := [oo 79 (.mv (tt 1)), oo 80 (.call (ff 69) [tt 79]), oo 78 (.mv (tt 80)), oo 81 (.ex 0 (tt 78)), oo 82 (.ex 1 (tt 78)), oo 83 (.ex 2 (tt 78)), oo 13 (.al [.int .i64 0, .slice none 0 0]), on (.st 2 (tt 13) (tt 81)), oo 14 (.mv (tt 82)), oo 15 (.mv (tt 83))]
abbrev c_laws_FnMajorities_16 : List GOp := [oo 85 (.ldn 2 (tt 13)), oo 86 (.mv (tt 14)), oo 87 (.mv (tt 15)), oo 88 (.call (ff 41) [tt 85, tt 86, tt 87]), oo 84 (.mv (tt 88)), oo 89 (.ex 0 (tt 84)), oo 90 (.ex 1 (tt 84)), oo 16 (.mv (tt 89)), oo 17 (.mv (tt 90))]
abbrev c_laws_FnMajorities_17 : List GOp := [oo 92 (.ldn 2 (tt 13)), oo 93 (.mv (tt 14)), oo 94 (.call (ff 30) [tt 92, tt 93]), oo 91 (.mv (tt 94)), oo 95 (.ex 0 (tt 91)), oo 96 (.ex 1 (tt 91)), oo 18 (.mv (tt 95)), oo 19 (.mv (tt 96))]
abbrev c_laws_FnMajorities_18 : List GOp := [oo 97 (.mv (tt 17)), oo 98 (.bin .neq (tt 97) (ci 0))]
abbrev c_laws_FnMajorities_19 : List GOp := [oo 99 (.mv (tt 16)), oo 100 (.len (tt 99)), oo 101 (.bin .eql (tt 100) (ci 0)), oo 4 (.mv (tt 101))]
abbrev c_laws_FnMajorities_20 : List GOp := [oo 102 (.mv (tt 19)), oo 103 (.bin .neq (tt 102) (ci 0)), oo 104 (.mv (tt 103)), og 105 104 false (.mv (tt 16)), og 106 104 false (.len (tt 105)), og 107 104 false (.mv (tt 14)), og 108 104 false (.len (tt 107)), og 109 104 false (.bin .neq (tt 106) (tt 108)), oo 110 (.pick (tt 104) (cb  true) (tt 109)), oo 111 (.mv (tt 110)), og 112 111 false (.mv (tt 18)), og 113 111 false (.mv (tt 14)), og 114 111 false (.len (tt 113)), og 115 111 false (.call (ff 70) [tt 112, tt 114]), og 116 111 false (.un .not (tt 115)), oo 117 (.pick (tt 111) (cb  true) (tt 116))]
abbrev c_laws_FnMajorities_21 : List GOp := [oo 4 (.mv (cb  false))]
abbrev c_laws_FnMajorities_22 : List GOp := [oo 20 (.mv (ci 0))]
abbrev c_laws_FnMajorities_23 : List GOp := [oo 118 (.mv (tt 20)), oo 119 (.fa 1 (tt 13)), oo 120 (.ld (tt 119)), oo 121 (.len (tt 120)), oo 122 (.bin .lss (tt 118) (tt 121))]
abbrev c_laws_FnMajorities_24 : List GOp := [oo 125 (.fa 1 (tt 13)), oo 126 (.ld (tt 125)), oo 127 (.mv (tt 20)), oo 128 (.ia 3 (tt 126) (tt 127)), oo 129 (.ldn 3 (tt 128)), oo 21 (.al [.int .i64 0, .int .i64 0, .int .i64 0]), on (.st 3 (tt 21) (tt 129))]
abbrev c_laws_FnMajorities_25 : List GOp := [oo 130 (.fa 0 (tt 21)), oo 131 (.ld (tt 130)), oo 132 (.bin .lss (tt 131) (ci 0)), oo 133 (.mv (tt 132)), og 134 133 false (.fa 0 (tt 21)), og 135 133 false (.ld (tt 134)), og 136 133 false (.mv (tt 14)), og 137 133 false (.len (tt 136)), og 138 133 false (.bin .geq (tt 135) (tt 137)), oo 139 (.pick (tt 133) (cb  true) (tt 138)), oo 140 (.mv (tt 139)), og 141 140 false (.fa 1 (tt 21)), og 142 140 false (.ld (tt 141)), og 143 140 false (.bin .lss (tt 142) (ci 0)), oo 144 (.pick (tt 140) (cb  true) (tt 143)), oo 145 (.mv (tt 144)), og 146 145 false (.fa 1 (tt 21)), og 147 145 false (.ld (tt 146)), og 148 145 false (.mv (tt 14)), og 149 145 false (.len (tt 148)), og 150 145 false (.bin .geq (tt 147) (tt 149)), oo 151 (.pick (tt 145) (cb  true) (tt 150))]
abbrev c_laws_FnMajorities_26 : List GOp := [oo 4 (.mv (cb  false))]
abbrev c_laws_FnMajorities_27 : List DOp := [dl 0 (oo 152 (.mv (tt 14))), dl 1 (oo 153 (.fa 0 (tt 21))), dl 2 (oo 154 (.ld (tt 153))), dl 3 (oo 155 (.ia 1 (tt 152) (tt 154))), dl 4 (oo 156 (.ld (tt 155))), dl 5 (oo 157 (.mv (tt 14))), dl 6 (oo 158 (.fa 1 (tt 21))), dl 7 (oo 159 (.ld (tt 158))), dl 8 (oo 160 (.ia 1 (tt 157) (tt 159))), dl 9 (oo 161 (.ld (tt 160))), dl 10 (oo 162 (.bin .sub (tt 156) (tt 161))), dl 11 (oo 22 (.mv (tt 162)))]
abbrev c_laws_FnMajorities_28 : List DOp := [dl 0 (oo 163 (.mv (tt 22))), dl 1 (oo 164 (.mv (tt 15))), dl 2 (oo 165 (.bin .leq (tt 163) (tt 164))), dl 3 (oo 166 (.mv (tt 165))), dl 4 (og 167 166 true (.mv (tt 22))), dl 5 (og 168 166 true (.un .neg (tt 167))), dl 6 (og 169 166 true (.mv (tt 15))), dl 7 (og 170 166 true (.bin .leq (tt 168) (tt 169))), dl 8 (oo 171 (.pick (tt 166) (tt 170) (cb  false))), dl 9 (oo 172 (.mv (tt 171))), dl 10 (og 173 172 true (.mv (tt 16))), dl 11 (og 174 172 true (.fa 0 (tt 21))), dl 12 (og 175 172 true (.ld (tt 174))), dl 13 (og 176 172 true (.ia 1 (tt 173) (tt 175))), dl 14 (og 177 172 true (.ld (tt 176))), dl 15 (og 178 172 true (.mv (tt 16))), dl 16 (og 179 172 true (.fa 1 (tt 21))), dl 17 (og 180 172 true (.ld (tt 179))), dl 18 (og 181 172 true (.ia 1 (tt 178) (tt 180))), dl 19 (og 182 172 true (.ld (tt 181))), dl 20 (og 183 172 true (.bin .neq (tt 177) (tt 182))), dl 21 (oo 184 (.pick (tt 172) (tt 183) (cb  false))), dl 22 (oo 185 (.mv (tt 184))), dl 23 (og 186 185 false (.mv (tt 18))), dl 24 (og 187 185 false (.fa 0 (tt 21))), dl 25 (og 188 185 false (.ld (tt 187))), dh 26 [19, 17, 14, 12] (og 189 185 false (.call (ff 68) [tt 186, tt 188])), dl 27 (og 190 185 false (.mv (tt 189))), dl 28 (og 191 190 true (.mv (tt 22))), dl 29 (og 192 190 true (.bin .leq (tt 191) (ci 0))), dl 30 (og 193 185 false (.pick (tt 190) (tt 192) (cb  false))), dl 31 (oo 194 (.pick (tt 185) (cb  true) (tt 193))), dl 32 (oo 195 (.mv (tt 194))), dl 33 (og 196 195 false (.mv (tt 18))), dl 34 (og 197 195 false (.fa 1 (tt 21))), dl 35 (og 198 195 false (.ld (tt 197))), dh 36 [25, 19, 17, 14, 12] (og 199 195 false (.call (ff 68) [tt 196, tt 198])), dl 37 (og 200 195 false (.mv (tt 199))), dl 38 (og 201 200 true (.mv (tt 22))), dl 39 (og 202 200 true (.bin .geq (tt 201) (ci 0))), dl 40 (og 203 195 false (.pick (tt 200) (tt 202) (cb  false))), dl 41 (oo 204 (.pick (tt 195) (cb  true) (tt 203)))]
abbrev c_laws_FnMajorities_29 : List GOp := [oo 4 (.mv (cb  false))]
abbrev c_laws_FnMajorities_30 : List GOp := [oo 123 (.mv (tt 20)), oo 124 (.bin .add (tt 123) (ci 1)), oo 20 (.mv (tt 124))]
abbrev c_laws_FnMajorities_l1 : GCode := .seq (.seq (.reg c_laws_FnMajorities_23) (.cond (tt 122) (.skip) (.exit 2))) (.seq (.blk 3 (.seq (.reg c_laws_FnMajorities_24) (.seq (.seq (.reg c_laws_FnMajorities_25) (.cond (tt 151) (.seq (.reg c_laws_FnMajorities_26) (.ret)) (.skip))) (.seq (.dreg c_laws_FnMajorities_27) (.seq (.dreg c_laws_FnMajorities_28) (.cond (tt 204) (.seq (.reg c_laws_FnMajorities_29) (.ret)) (.skip))))))) (.reg c_laws_FnMajorities_30))
abbrev c_laws_FnMajorities_32 : List GOp := [oo 4 (.mv (cb  true))]
abbrev c_laws_FnMajorities : GCode := .seq (.reg c_laws_FnMajorities_0) (.seq (.seq (.reg c_laws_FnMajorities_1) (.cond (tt 28) (.seq (.reg c_laws_FnMajorities_2) (.ret)) (.skip))) (.seq (.reg c_laws_FnMajorities_3) (.seq (.reg c_laws_FnMajorities_4) (.seq (.seq (.reg c_laws_FnMajorities_5) (.cond (tt 42) (.seq (.reg c_laws_FnMajorities_6) (.seq (.seq (.reg c_laws_FnMajorities_7) (.cond (tt 64) (.seq (.reg c_laws_FnMajorities_8) (.ret)) (.skip))) (.seq (.reg c_laws_FnMajorities_9) (.blk 0 (.loop c_laws_FnMajorities_l0))))) (.skip))) (.seq (.reg c_laws_FnMajorities_15) (.seq (.reg c_laws_FnMajorities_16) (.seq (.reg c_laws_FnMajorities_17) (.seq (.seq (.reg c_laws_FnMajorities_18) (.cond (tt 98) (.seq (.reg c_laws_FnMajorities_19) (.ret)) (.skip))) (.seq (.seq (.reg c_laws_FnMajorities_20) (.cond (tt 117) (.seq (.reg c_laws_FnMajorities_21) (.ret)) (.skip))) (.seq (.seq (.reg c_laws_FnMajorities_22) (.blk 2 (.loop c_laws_FnMajorities_l1))) (.seq (.reg c_laws_FnMajorities_32) (.ret))))))))))))
theorem c_laws_FnMajorities_d : decFn Try.prog Try.f15 = some (205, [.t 4], c_laws_FnMajorities) := by kernel_rfl
theorem c_laws_FnMajorities_i {args : List Value} {G : GH} {K : Value → GH → Prop} (hn : args.length ≤ 205) (h : gW Try.prog c_laws_FnMajorities (RetK [.t 4] K) (T0 args) G) : GC Try.prog 15 args G K := GC_intro mixed Try.func15 c_laws_FnMajorities_d hn h
abbrev c_laws_b10Has_0 : List GOp := [oo 4 (.mv (cb  false))]
abbrev c_laws_b10Has_1 : List GOp := [oo 5 (.mv (ci 0))]
abbrev c_laws_b10Has_2 : List GOp := [oo 6 (.mv (tt 5)), oo 7 (.mv (tt 0)), oo 8 (.len (tt 7)), oo 9 (.bin .lss (tt 6) (tt 8))]
abbrev c_laws_b10Has_3 : List GOp := [oo 12 (.mv (tt 0)), oo 13 (.mv (tt 5)), oo 14 (.ia 1 (tt 12) (tt 13)), oo 15 (.ld (tt 14)), oo 16 (.mv (tt 1)), oo 17 (.bin .eql (tt 15) (tt 16))]
abbrev c_laws_b10Has_4 : List GOp := [oo 4 (.mv (cb  true))]
abbrev c_laws_b10Has_5 : List GOp := [oo 10 (.mv (tt 5)), oo 11 (.bin .add (tt 10) (ci 1)), oo 5 (.mv (tt 11))]
abbrev c_laws_b10Has_l0 : GCode := .seq (.seq (.reg c_laws_b10Has_2) (.cond (tt 9) (.skip) (.exit 0))) (.seq (.blk 1 (.seq (.reg c_laws_b10Has_3) (.cond (tt 17) (.seq (.reg c_laws_b10Has_4) (.ret)) (.skip)))) (.reg c_laws_b10Has_5))
abbrev c_laws_b10Has_7 : List GOp := [oo 4 (.mv (cb  false))]
abbrev c_laws_b10Has : GCode := .seq (.reg c_laws_b10Has_0) (.seq (.seq (.reg c_laws_b10Has_1) (.blk 0 (.loop c_laws_b10Has_l0))) (.seq (.reg c_laws_b10Has_7) (.ret)))
theorem c_laws_b10Has_d : decFn Try.prog Try.f68 = some (18, [.t 4], c_laws_b10Has) := by kernel_rfl
theorem c_laws_b10Has_i {args : List Value} {G : GH} {K : Value → GH → Prop} (hn : args.length ≤ 18) (h : gW Try.prog c_laws_b10Has (RetK [.t 4] K) (T0 args) G) : GC Try.prog 68 args G K := GC_intro mixed Try.func68 c_laws_b10Has_d hn h
abbrev c_laws_b10Long_0 : List GOp := [oo 2 (.mv (cb  false))]
abbrev c_laws_b10Long_1 : List GOp := [oo 3 (.mv (tt 0)), oo 4 (.len (tt 3)), oo 5 (.bin .gtr (tt 4) (ci 1048576)), oo 2 (.mv (tt 5))]
abbrev c_laws_b10Long : GCode := .seq (.reg c_laws_b10Long_0) (.seq (.reg c_laws_b10Long_1) (.ret))
theorem c_laws_b10Long_d : decFn Try.prog Try.f56 = some (6, [.t 2], c_laws_b10Long) := by kernel_rfl
theorem c_laws_b10Long_i {args : List Value} {G : GH} {K : Value → GH → Prop} (hn : args.length ≤ 6) (h : gW Try.prog c_laws_b10Long (RetK [.t 2] K) (T0 args) G) : GC Try.prog 56 args G K := GC_intro mixed Try.func56 c_laws_b10Long_d hn h
abbrev c_laws_b10Nums_0 : List GOp := [oo 4 (.mv (cb  false))]
abbrev c_laws_b10Nums_1 : List GOp := [oo 6 (.mv (tt 0)), oo 7 (.len (tt 6)), oo 8 (.mv (tt 1)), oo 9 (.len (tt 8)), oo 10 (.bin .neq (tt 7) (tt 9))]
abbrev c_laws_b10Nums_2 : List GOp := [oo 4 (.mv (cb  false))]
abbrev c_laws_b10Nums_3 : List GOp := [oo 5 (.mv (ci 0))]
abbrev c_laws_b10Nums_4 : List GOp := [oo 11 (.mv (tt 5)), oo 12 (.mv (tt 0)), oo 13 (.len (tt 12)), oo 14 (.bin .lss (tt 11) (tt 13))]
abbrev c_laws_b10Nums_5 : List DOp := [dl 0 (oo 17 (.mv (tt 0))), dl 1 (oo 18 (.mv (tt 5))), dl 2 (oo 19 (.ia 1 (tt 17) (tt 18))), dl 3 (oo 20 (.ld (tt 19))), dl 4 (oo 21 (.mv (tt 1))), dl 5 (oo 22 (.mv (tt 5))), dl 6 (oo 23 (.ia 1 (tt 21) (tt 22))), dl 7 (oo 24 (.ld (tt 23))), dl 8 (oo 25 (.bin .neq (tt 20) (tt 24)))]
abbrev c_laws_b10Nums_6 : List GOp := [oo 4 (.mv (cb  false))]
abbrev c_laws_b10Nums_7 : List GOp := [oo 15 (.mv (tt 5)), oo 16 (.bin .add (tt 15) (ci 1)), oo 5 (.mv (tt 16))]
abbrev c_laws_b10Nums_l0 : GCode := .seq (.seq (.reg c_laws_b10Nums_4) (.cond (tt 14) (.skip) (.exit 0))) (.seq (.blk 1 (.seq (.dreg c_laws_b10Nums_5) (.cond (tt 25) (.seq (.reg c_laws_b10Nums_6) (.ret)) (.skip)))) (.reg c_laws_b10Nums_7))
abbrev c_laws_b10Nums_9 : List GOp := [oo 4 (.mv (cb  true))]
abbrev c_laws_b10Nums : GCode := .seq (.reg c_laws_b10Nums_0) (.seq (.seq (.reg c_laws_b10Nums_1) (.cond (tt 10) (.seq (.reg c_laws_b10Nums_2) (.ret)) (.skip))) (.seq (.seq (.reg c_laws_b10Nums_3) (.blk 0 (.loop c_laws_b10Nums_l0))) (.seq (.reg c_laws_b10Nums_9) (.ret))))
theorem c_laws_b10Nums_d : decFn Try.prog Try.f67 = some (26, [.t 4], c_laws_b10Nums) := by kernel_rfl
theorem c_laws_b10Nums_i {args : List Value} {G : GH} {K : Value → GH → Prop} (hn : args.length ≤ 26) (h : gW Try.prog c_laws_b10Nums (RetK [.t 4] K) (T0 args) G) : GC Try.prog 67 args G K := GC_intro mixed Try.func67 c_laws_b10Nums_d hn h
abbrev c_laws_b10Rises_0 : List GOp := [oo 4 (.mv (cb  false))]
abbrev c_laws_b10Rises_1 : List GOp := [oo 5 (.mv (ci 0))]
abbrev c_laws_b10Rises_2 : List GOp := [oo 6 (.mv (tt 5)), oo 7 (.mv (tt 0)), oo 8 (.len (tt 7)), oo 9 (.bin .lss (tt 6) (tt 8))]
abbrev c_laws_b10Rises_3 : List DOp := [dl 0 (oo 12 (.mv (tt 0))), dl 1 (oo 13 (.mv (tt 5))), dl 2 (oo 14 (.ia 1 (tt 12) (tt 13))), dl 3 (oo 15 (.ld (tt 14))), dl 4 (oo 16 (.bin .lss (tt 15) (ci 0))), dl 5 (oo 17 (.mv (tt 16))), dl 6 (og 18 17 false (.mv (tt 0))), dl 7 (og 19 17 false (.mv (tt 5))), dl 8 (og 20 17 false (.ia 1 (tt 18) (tt 19))), dl 9 (og 21 17 false (.ld (tt 20))), dl 10 (og 22 17 false (.mv (tt 1))), dl 11 (og 23 17 false (.bin .geq (tt 21) (tt 22))), dl 12 (oo 24 (.pick (tt 17) (cb  true) (tt 23))), dl 13 (oo 25 (.mv (tt 24))), dl 14 (og 26 25 false (.mv (tt 5))), dl 15 (og 27 25 false (.bin .gtr (tt 26) (ci 0))), dl 16 (og 28 25 false (.mv (tt 27))), dl 17 (og 29 28 true (.mv (tt 0))), dl 18 (og 30 28 true (.mv (tt 5))), dl 19 (og 31 28 true (.bin .sub (tt 30) (ci 1))), dl 20 (og 32 28 true (.ia 1 (tt 29) (tt 31))), dl 21 (og 33 28 true (.ld (tt 32))), dl 22 (og 34 28 true (.mv (tt 0))), dl 23 (og 35 28 true (.mv (tt 5))), dl 24 (og 36 28 true (.ia 1 (tt 34) (tt 35))), dl 25 (og 37 28 true (.ld (tt 36))), dl 26 (og 38 28 true (.bin .geq (tt 33) (tt 37))), dl 27 (og 39 25 false (.pick (tt 28) (tt 38) (cb  false))), dl 28 (oo 40 (.pick (tt 25) (cb  true) (tt 39)))]
abbrev c_laws_b10Rises_4 : List GOp := [oo 4 (.mv (cb  false))]
abbrev c_laws_b10Rises_5 : List GOp := [oo 10 (.mv (tt 5)), oo 11 (.bin .add (tt 10) (ci 1)), oo 5 (.mv (tt 11))]
abbrev c_laws_b10Rises_l0 : GCode := .seq (.seq (.reg c_laws_b10Rises_2) (.cond (tt 9) (.skip) (.exit 0))) (.seq (.blk 1 (.seq (.dreg c_laws_b10Rises_3) (.cond (tt 40) (.seq (.reg c_laws_b10Rises_4) (.ret)) (.skip)))) (.reg c_laws_b10Rises_5))
abbrev c_laws_b10Rises_7 : List GOp := [oo 4 (.mv (cb  true))]
abbrev c_laws_b10Rises : GCode := .seq (.reg c_laws_b10Rises_0) (.seq (.seq (.reg c_laws_b10Rises_1) (.blk 0 (.loop c_laws_b10Rises_l0))) (.seq (.reg c_laws_b10Rises_7) (.ret)))
theorem c_laws_b10Rises_d : decFn Try.prog Try.f70 = some (41, [.t 4], c_laws_b10Rises) := by kernel_rfl
theorem c_laws_b10Rises_i {args : List Value} {G : GH} {K : Value → GH → Prop} (hn : args.length ≤ 41) (h : gW Try.prog c_laws_b10Rises (RetK [.t 4] K) (T0 args) G) : GC Try.prog 70 args G K := GC_intro mixed Try.func70 c_laws_b10Rises_d hn h
abbrev c_slices_Clone_int64_int64_0 : List GOp := [oo 2 (.mv (.const (.slice none 0 0)))]
abbrev c_slices_Clone_int64_int64_1 : List GOp := [oo 3 (.mv (tt 0)), oo 4 (.eqs false (tt 3) (.const (.slice none 0 0)))]
abbrev c_slices_Clone_int64_int64_2 : List GOp := [oo 2 (.mv (.const (.slice none 0 0)))]
abbrev c_slices_Clone_int64_int64_3 : List GOp := [oo 5 (.bs 1 []), oo 6 (.mv (tt 0)), oo 7 (.ap 1 8 [.int .i64 0] (tt 5) (tt 6)), oo 2 (.mv (tt 7))]
abbrev c_slices_Clone_int64_int64 : GCode := .seq (.reg c_slices_Clone_int64_int64_0) (.seq (.seq (.reg c_slices_Clone_int64_int64_1) (.cond (tt 4) (.seq (.reg c_slices_Clone_int64_int64_2) (.ret)) (.skip))) (.seq (.reg c_slices_Clone_int64_int64_3) (.ret)))
theorem c_slices_Clone_int64_int64_d : decFn Try.prog Try.f123 = some (8, [.t 2], c_slices_Clone_int64_int64) := by kernel_rfl
theorem c_slices_Clone_int64_int64_i {args : List Value} {G : GH} {K : Value → GH → Prop} (hn : args.length ≤ 8) (h : gW Try.prog c_slices_Clone_int64_int64 (RetK [.t 2] K) (T0 args) G) : GC Try.prog 123 args G K := GC_intro mixed Try.func123 c_slices_Clone_int64_int64_d hn h
abbrev c_slices_ContainsFunc_impl_Edge_impl_Edge_0 : List GOp := [oo 4 (.mv (cb  false))]
abbrev c_slices_ContainsFunc_impl_Edge_impl_Edge_1 : List GOp := [oo 5 (.mv (tt 0)), oo 6 (.mv (tt 1)), oo 7 (.call (ff 202) [tt 5, tt 6]), oo 8 (.bin .geq (tt 7) (ci 0)), oo 4 (.mv (tt 8))]
abbrev c_slices_ContainsFunc_impl_Edge_impl_Edge : GCode := .seq (.reg c_slices_ContainsFunc_impl_Edge_impl_Edge_0) (.seq (.reg c_slices_ContainsFunc_impl_Edge_impl_Edge_1) (.ret))
theorem c_slices_ContainsFunc_impl_Edge_impl_Edge_d : decFn Try.prog Try.f103 = some (9, [.t 4], c_slices_ContainsFunc_impl_Edge_impl_Edge) := by kernel_rfl
theorem c_slices_ContainsFunc_impl_Edge_impl_Edge_i {args : List Value} {G : GH} {K : Value → GH → Prop} (hn : args.length ≤ 9) (h : gW Try.prog c_slices_ContainsFunc_impl_Edge_impl_Edge (RetK [.t 4] K) (T0 args) G) : GC Try.prog 103 args G K := GC_intro mixed Try.func103 c_slices_ContainsFunc_impl_Edge_impl_Edge_d hn h
abbrev c_slices_ContainsFunc_int64_int64_0 : List GOp := [oo 4 (.mv (cb  false))]
abbrev c_slices_ContainsFunc_int64_int64_1 : List GOp := [oo 5 (.mv (tt 0)), oo 6 (.mv (tt 1)), oo 7 (.call (ff 222) [tt 5, tt 6]), oo 8 (.bin .geq (tt 7) (ci 0)), oo 4 (.mv (tt 8))]
abbrev c_slices_ContainsFunc_int64_int64 : GCode := .seq (.reg c_slices_ContainsFunc_int64_int64_0) (.seq (.reg c_slices_ContainsFunc_int64_int64_1) (.ret))
theorem c_slices_ContainsFunc_int64_int64_d : decFn Try.prog Try.f152 = some (9, [.t 4], c_slices_ContainsFunc_int64_int64) := by kernel_rfl
theorem c_slices_ContainsFunc_int64_int64_i {args : List Value} {G : GH} {K : Value → GH → Prop} (hn : args.length ≤ 9) (h : gW Try.prog c_slices_ContainsFunc_int64_int64 (RetK [.t 4] K) (T0 args) G) : GC Try.prog 152 args G K := GC_intro mixed Try.func152 c_slices_ContainsFunc_int64_int64_d hn h
abbrev c_slices_Equal_int64_int64_0 : List GOp := [oo 4 (.mv (cb  false))]
abbrev c_slices_Equal_int64_int64_1 : List GOp := [oo 6 (.mv (tt 0)), oo 7 (.len (tt 6)), oo 8 (.mv (tt 1)), oo 9 (.len (tt 8)), oo 10 (.bin .neq (tt 7) (tt 9))]
abbrev c_slices_Equal_int64_int64_2 : List GOp := [oo 4 (.mv (cb  false))]
abbrev c_slices_Equal_int64_int64_3 : List GOp := [oo 11 (.mv (tt 0)), oo 12 (.len (tt 11)), oo 13 (.mv (ci 0))]
abbrev c_slices_Equal_int64_int64_4 : List GOp := [oo 14 (.bin .lss (tt 13) (tt 12))]
abbrev c_slices_Equal_int64_int64_5 : List GOp := [oo 15 (.mv (tt 13)), oo 5 (.mv (tt 15))]
abbrev c_slices_Equal_int64_int64_6 : List DOp := [dl 0 (oo 16 (.mv (tt 0))), dl 1 (oo 17 (.mv (tt 5))), dl 2 (oo 18 (.ia 1 (tt 16) (tt 17))), dl 3 (oo 19 (.ld (tt 18))), dl 4 (oo 20 (.mv (tt 1))), dl 5 (oo 21 (.mv (tt 5))), dl 6 (oo 22 (.ia 1 (tt 20) (tt 21))), dl 7 (oo 23 (.ld (tt 22))), dl 8 (oo 24 (.bin .neq (tt 19) (tt 23)))]
abbrev c_slices_Equal_int64_int64_7 : List GOp := [oo 4 (.mv (cb  false))]
abbrev c_slices_Equal_int64_int64_8 : List GOp := [oo 25 (.bin .add (tt 13) (ci 1)), oo 13 (.mv (tt 25))]
abbrev c_slices_Equal_int64_int64_l0 : GCode := .seq (.reg c_slices_Equal_int64_int64_4) (.seq (.cond (tt 14) (.skip) (.exit 0)) (.seq (.blk 1 (.seq (.reg c_slices_Equal_int64_int64_5) (.seq (.dreg c_slices_Equal_int64_int64_6) (.cond (tt 24) (.seq (.reg c_slices_Equal_int64_int64_7) (.ret)) (.skip))))) (.reg c_slices_Equal_int64_int64_8)))
abbrev c_slices_Equal_int64_int64_10 : List GOp := [oo 4 (.mv (cb  true))]
abbrev c_slices_Equal_int64_int64 : GCode := .seq (.reg c_slices_Equal_int64_int64_0) (.seq (.seq (.reg c_slices_Equal_int64_int64_1) (.cond (tt 10) (.seq (.reg c_slices_Equal_int64_int64_2) (.ret)) (.skip))) (.seq (.seq (.reg c_slices_Equal_int64_int64_3) (.blk 0 (.loop c_slices_Equal_int64_int64_l0))) (.seq (.reg c_slices_Equal_int64_int64_10) (.ret))))
theorem c_slices_Equal_int64_int64_d : decFn Try.prog Try.f205 = some (26, [.t 4], c_slices_Equal_int64_int64) := by kernel_rfl
theorem c_slices_Equal_int64_int64_i {args : List Value} {G : GH} {K : Value → GH → Prop} (hn : args.length ≤ 26) (h : gW Try.prog c_slices_Equal_int64_int64 (RetK [.t 4] K) (T0 args) G) : GC Try.prog 205 args G K := GC_intro mixed Try.func205 c_slices_Equal_int64_int64_d hn h
abbrev c_slices_IndexFunc_impl_Edge_impl_Edge_0 : List GOp := [oo 4 (.mv (ci 0))]
abbrev c_slices_IndexFunc_impl_Edge_impl_Edge_1 : List GOp := [oo 6 (.mv (tt 0)), oo 7 (.len (tt 6)), oo 8 (.mv (ci 0))]
abbrev c_slices_IndexFunc_impl_Edge_impl_Edge_2 : List GOp := [oo 9 (.bin .lss (tt 8) (tt 7))]
abbrev c_slices_IndexFunc_impl_Edge_impl_Edge_3 : List GOp := [oo 10 (.mv (tt 8)), oo 5 (.mv (tt 10))]
abbrev c_slices_IndexFunc_impl_Edge_impl_Edge_4 : List GOp := [oo 11 (.mv (tt 1)), oo 12 (.mv (tt 0)), oo 13 (.mv (tt 5)), oo 14 (.ia 3 (tt 12) (tt 13)), oo 15 (.ldn 3 (tt 14)), oo 16 (.call (tt 11) [tt 15])]
abbrev c_slices_IndexFunc_impl_Edge_impl_Edge_5 : List GOp := [oo 17 (.mv (tt 5)), oo 4 (.mv (tt 17))]
abbrev c_slices_IndexFunc_impl_Edge_impl_Edge_6 : List GOp := [oo 18 (.bin .add (tt 8) (ci 1)), oo 8 (.mv (tt 18))]
abbrev c_slices_IndexFunc_impl_Edge_impl_Edge_l0 : GCode := .seq (.reg c_slices_IndexFunc_impl_Edge_impl_Edge_2) (.seq (.cond (tt 9) (.skip) (.exit 0)) (.seq (.blk 1 (.seq (.reg c_slices_IndexFunc_impl_Edge_impl_Edge_3) (.seq (.reg c_slices_IndexFunc_impl_Edge_impl_Edge_4) (.cond (tt 16) (.seq (.reg c_slices_IndexFunc_impl_Edge_impl_Edge_5) (.ret)) (.skip))))) (.reg c_slices_IndexFunc_impl_Edge_impl_Edge_6)))
abbrev c_slices_IndexFunc_impl_Edge_impl_Edge_8 : List GOp := [oo 4 (.mv (ci (-1)))]
abbrev c_slices_IndexFunc_impl_Edge_impl_Edge : GCode := .seq (.reg c_slices_IndexFunc_impl_Edge_impl_Edge_0) (.seq (.seq (.reg c_slices_IndexFunc_impl_Edge_impl_Edge_1) (.blk 0 (.loop c_slices_IndexFunc_impl_Edge_impl_Edge_l0))) (.seq (.reg c_slices_IndexFunc_impl_Edge_impl_Edge_8) (.ret)))
theorem c_slices_IndexFunc_impl_Edge_impl_Edge_d : decFn Try.prog Try.f202 = some (19, [.t 4], c_slices_IndexFunc_impl_Edge_impl_Edge) := by kernel_rfl
theorem c_slices_IndexFunc_impl_Edge_impl_Edge_i {args : List Value} {G : GH} {K : Value → GH → Prop} (hn : args.length ≤ 19) (h : gW Try.prog c_slices_IndexFunc_impl_Edge_impl_Edge (RetK [.t 4] K) (T0 args) G) : GC Try.prog 202 args G K := GC_intro mixed Try.func202 c_slices_IndexFunc_impl_Edge_impl_Edge_d hn h
abbrev c_slices_IndexFunc_int64_int64_0 : List GOp := [oo 4 (.mv (ci 0))]
abbrev c_slices_IndexFunc_int64_int64_1 : List GOp := [oo 6 (.mv (tt 0)), oo 7 (.len (tt 6)), oo 8 (.mv (ci 0))]
abbrev c_slices_IndexFunc_int64_int64_2 : List GOp := [oo 9 (.bin .lss (tt 8) (tt 7))]
abbrev c_slices_IndexFunc_int64_int64_3 : List GOp := [oo 10 (.mv (tt 8)), oo 5 (.mv (tt 10))]
abbrev c_slices_IndexFunc_int64_int64_4 : List GOp := [oo 11 (.mv (tt 1)), oo 12 (.mv (tt 0)), oo 13 (.mv (tt 5)), oo 14 (.ia 1 (tt 12) (tt 13)), oo 15 (.ld (tt 14)), oo 16 (.call (tt 11) [tt 15])]
abbrev c_slices_IndexFunc_int64_int64_5 : List GOp := [oo 17 (.mv (tt 5)), oo 4 (.mv (tt 17))]
abbrev c_slices_IndexFunc_int64_int64_6 : List GOp := [oo 18 (.bin .add (tt 8) (ci 1)), oo 8 (.mv (tt 18))]
abbrev c_slices_IndexFunc_int64_int64_l0 : GCode := .seq (.reg c_slices_IndexFunc_int64_int64_2) (.seq (.cond (tt 9) (.skip) (.exit 0)) (.seq (.blk 1 (.seq (.reg c_slices_IndexFunc_int64_int64_3) (.seq (.reg c_slices_IndexFunc_int64_int64_4) (.cond (tt 16) (.seq (.reg c_slices_IndexFunc_int64_int64_5) (.ret)) (.skip))))) (.reg c_slices_IndexFunc_int64_int64_6)))
abbrev c_slices_IndexFunc_int64_int64_8 : List GOp := [oo 4 (.mv (ci (-1)))]
abbrev c_slices_IndexFunc_int64_int64 : GCode := .seq (.reg c_slices_IndexFunc_int64_int64_0) (.seq (.seq (.reg c_slices_IndexFunc_int64_int64_1) (.blk 0 (.loop c_slices_IndexFunc_int64_int64_l0))) (.seq (.reg c_slices_IndexFunc_int64_int64_8) (.ret)))
theorem c_slices_IndexFunc_int64_int64_d : decFn Try.prog Try.f222 = some (19, [.t 4], c_slices_IndexFunc_int64_int64) := by kernel_rfl
theorem c_slices_IndexFunc_int64_int64_i {args : List Value} {G : GH} {K : Value → GH → Prop} (hn : args.length ≤ 19) (h : gW Try.prog c_slices_IndexFunc_int64_int64 (RetK [.t 4] K) (T0 args) G) : GC Try.prog 222 args G K := GC_intro mixed Try.func222 c_slices_IndexFunc_int64_int64_d hn h
abbrev c_spec_DrawCampsOf_0 : List GOp := [oo 2 (.al [.int .i64 0, .slice none 0 0]), oo 3 (.mv (.const (.slice none 0 0))), oo 4 (.mv (ci 0))]
abbrev c_spec_DrawCampsOf_1 : List GOp := [oo 8 (.mv (tt 0)), oo 9 (.call (ff 145) [tt 8]), oo 5 (.mv (tt 9))]
abbrev c_spec_DrawCampsOf_2 : List GOp := [oo 10 (.mv (tt 5)), oo 11 (.call (ff 146) [tt 10]), oo 6 (.al [.int .i64 0, .slice none 0 0]), on (.st 2 (tt 6) (tt 11))]
abbrev c_spec_DrawCampsOf_3 : List GOp := [oo 12 (.mv (tt 5)), oo 13 (.call (ff 149) [tt 12, tt 6]), oo 7 (.mv (tt 13))]
abbrev c_spec_DrawCampsOf_4 : List DOp := [dl 0 (oo 14 (.ldn 2 (tt 6))), dl 1 (oo 15 (.mv (tt 7))), dl 2 (oo 16 (.mv (tt 5))), dh 3 [0] (oo 17 (.call (ff 150) [tt 16])), dh 4 [] (on (.st 2 (tt 2) (tt 14))), dl 5 (oo 3 (.mv (tt 15))), dl 6 (oo 4 (.mv (tt 17)))]
abbrev c_spec_DrawCampsOf : GCode := .seq (.reg c_spec_DrawCampsOf_0) (.seq (.reg c_spec_DrawCampsOf_1) (.seq (.reg c_spec_DrawCampsOf_2) (.seq (.reg c_spec_DrawCampsOf_3) (.seq (.dreg c_spec_DrawCampsOf_4) (.ret)))))
theorem c_spec_DrawCampsOf_d : decFn Try.prog Try.f69 = some (18, [.cn 2 2, .t 3, .t 4], c_spec_DrawCampsOf) := by kernel_rfl
theorem c_spec_DrawCampsOf_i {args : List Value} {G : GH} {K : Value → GH → Prop} (hn : args.length ≤ 18) (h : gW Try.prog c_spec_DrawCampsOf (RetK [.cn 2 2, .t 3, .t 4] K) (T0 args) G) : GC Try.prog 69 args G K := GC_intro mixed Try.func69 c_spec_DrawCampsOf_d hn h
abbrev c_spec_DrawMajorityRest_0 : List GOp := [oo 2 (.al [.int .i64 0, .slice none 0 0]), oo 3 (.mv (.const (.slice none 0 0)))]
abbrev c_spec_DrawMajorityRest_1 : List GOp := [oo 6 (.mv (tt 0)), oo 7 (.call (ff 145) [tt 6]), oo 4 (.mv (tt 7))]
abbrev c_spec_DrawMajorityRest_2 : List GOp := [oo 8 (.mv (tt 4)), oo 9 (.call (ff 146) [tt 8]), oo 5 (.al [.int .i64 0, .slice none 0 0]), on (.st 2 (tt 5) (tt 9))]
abbrev c_spec_DrawMajorityRest_3 : List DOp := [dl 0 (oo 10 (.ldn 2 (tt 5))), dl 1 (oo 11 (.mv (tt 4))), dh 2 [0] (oo 12 (.call (ff 149) [tt 11, tt 5])), dh 3 [] (on (.st 2 (tt 2) (tt 10))), dl 4 (oo 3 (.mv (tt 12)))]
abbrev c_spec_DrawMajorityRest : GCode := .seq (.reg c_spec_DrawMajorityRest_0) (.seq (.reg c_spec_DrawMajorityRest_1) (.seq (.reg c_spec_DrawMajorityRest_2) (.seq (.dreg c_spec_DrawMajorityRest_3) (.ret))))
theorem c_spec_DrawMajorityRest_d : decFn Try.prog Try.f66 = some (13, [.cn 2 2, .t 3], c_spec_DrawMajorityRest) := by kernel_rfl
theorem c_spec_DrawMajorityRest_i {args : List Value} {G : GH} {K : Value → GH → Prop} (hn : args.length ≤ 13) (h : gW Try.prog c_spec_DrawMajorityRest (RetK [.cn 2 2, .t 3] K) (T0 args) G) : GC Try.prog 66 args G K := GC_intro mixed Try.func66 c_spec_DrawMajorityRest_d hn h
abbrev c_spec_l00From_0 : List GOp := [oo 2 (.mv (.const (.pointer none)))]
abbrev c_spec_l00From_1 : List GOp := [oo 3 (.mv (tt 0)), oo 4 (.bld [.slice none 0 0, .int .i64 0, .int .u64 0] [(0, 1, (tt 3))]), oo 5 (.bx (tt 4)), oo 2 (.mv (tt 5))]
abbrev c_spec_l00From : GCode := .seq (.reg c_spec_l00From_0) (.seq (.reg c_spec_l00From_1) (.ret))
theorem c_spec_l00From_d : decFn Try.prog Try.f145 = some (6, [.t 2], c_spec_l00From) := by kernel_rfl
theorem c_spec_l00From_i {args : List Value} {G : GH} {K : Value → GH → Prop} (hn : args.length ≤ 6) (h : gW Try.prog c_spec_l00From (RetK [.t 2] K) (T0 args) G) : GC Try.prog 145 args G K := GC_intro mixed Try.func145 c_spec_l00From_d hn h
abbrev c_spec_l00Src_among_0 : List GOp := [oo 4 (.mv (ci 0))]
abbrev c_spec_l00Src_among_1 : List GOp := [oo 5 (.mv (tt 1)), oo 6 (.mv (tt 0)), oo 7 (.mv (tt 1)), oo 8 (.len (tt 7)), oo 9 (.call (ff 220) [tt 6, tt 8]), oo 10 (.ia 1 (tt 5) (tt 9)), oo 11 (.ld (tt 10)), oo 4 (.mv (tt 11))]
abbrev c_spec_l00Src_among : GCode := .seq (.reg c_spec_l00Src_among_0) (.seq (.reg c_spec_l00Src_among_1) (.ret))
theorem c_spec_l00Src_among_d : decFn Try.prog Try.f157 = some (12, [.t 4], c_spec_l00Src_among) := by kernel_rfl
theorem c_spec_l00Src_among_i {args : List Value} {G : GH} {K : Value → GH → Prop} (hn : args.length ≤ 12) (h : gW Try.prog c_spec_l00Src_among (RetK [.t 4] K) (T0 args) G) : GC Try.prog 157 args G K := GC_intro mixed Try.func157 c_spec_l00Src_among_d hn h
abbrev c_spec_l00Src_next_0 : List GOp := [oo 2 (.mv (ci 0))]
abbrev c_spec_l00Src_next_1 : List GOp := [oo 3 (.mv (ci 0))]
abbrev c_spec_l00Src_next_2 : List DOp := [dl 0 (oo 4 (.mv (tt 0))), dl 1 (oo 5 (.nc (tt 4))), dl 2 (oo 6 (.fa 1 (tt 5))), dl 3 (oo 7 (.ld (tt 6))), dl 4 (oo 8 (.mv (tt 0))), dl 5 (oo 9 (.nc (tt 8))), dl 6 (oo 10 (.fa 0 (tt 9))), dl 7 (oo 11 (.ld (tt 10))), dl 8 (oo 12 (.len (tt 11))), dl 9 (oo 13 (.bin .lss (tt 7) (tt 12)))]
abbrev c_spec_l00Src_next_3 : List DOp := [dl 0 (oo 14 (.mv (tt 0))), dl 1 (oo 15 (.nc (tt 14))), dl 2 (oo 16 (.fa 0 (tt 15))), dl 3 (oo 17 (.ld (tt 16))), dl 4 (oo 18 (.mv (tt 0))), dl 5 (oo 19 (.nc (tt 18))), dl 6 (oo 20 (.fa 1 (tt 19))), dl 7 (oo 21 (.ld (tt 20))), dl 8 (oo 22 (.ia 1 (tt 17) (tt 21))), dl 9 (oo 23 (.ld (tt 22))), dl 10 (oo 24 (.cvi .i64 (tt 23))), dl 11 (oo 3 (.mv (tt 24)))]
abbrev c_spec_l00Src_next_4 : List GOp := [oo 25 (.mv (tt 0)), oo 26 (.nc (tt 25)), oo 27 (.fa 1 (tt 26)), oo 28 (.ld (tt 27)), oo 29 (.bin .add (tt 28) (ci 1)), oo 30 (.nc (tt 25)), oo 31 (.fa 1 (tt 30)), on (.st 1 (tt 31) (tt 29))]
abbrev c_spec_l00Src_next_5 : List GOp := [oo 32 (.mv (tt 0)), oo 33 (.mv (tt 0)), oo 34 (.nc (tt 33)), oo 35 (.fa 2 (tt 34)), oo 36 (.ld (tt 35)), oo 37 (.bin .mul (tt 36) (.const (.int .u64 6364136223846793005))), oo 38 (.mv (tt 3)), oo 39 (.cvi .u64 (tt 38)), oo 40 (.bin .add (tt 37) (tt 39)), oo 41 (.bin .add (tt 40) (.const (.int .u64 1442695040888963407))), oo 42 (.nc (tt 32)), oo 43 (.fa 2 (tt 42)), on (.st 1 (tt 43) (tt 41))]
abbrev c_spec_l00Src_next_6 : List DOp := [dl 0 (oo 44 (.mv (tt 0))), dl 1 (oo 45 (.nc (tt 44))), dl 2 (oo 46 (.fa 1 (tt 45))), dl 3 (oo 47 (.ld (tt 46))), dl 4 (oo 48 (.mv (tt 0))), dl 5 (oo 49 (.nc (tt 48))), dl 6 (oo 50 (.fa 0 (tt 49))), dl 7 (oo 51 (.ld (tt 50))), dl 8 (oo 52 (.len (tt 51))), dl 9 (oo 53 (.bin .leq (tt 47) (tt 52)))]
abbrev c_spec_l00Src_next_7 : List GOp := [oo 54 (.mv (tt 3)), oo 2 (.mv (tt 54))]
abbrev c_spec_l00Src_next_8 : List GOp := [oo 55 (.mv (tt 0)), oo 56 (.nc (tt 55)), oo 57 (.fa 2 (tt 56)), oo 58 (.ld (tt 57)), oo 59 (.bin .shr (tt 58) (.const (.int .u64 40))), oo 60 (.bin .and (tt 59) (.const (.int .u64 255))), oo 61 (.cvi .i64 (tt 60)), oo 2 (.mv (tt 61))]
abbrev c_spec_l00Src_next : GCode := .seq (.reg c_spec_l00Src_next_0) (.seq (.reg c_spec_l00Src_next_1) (.seq (.seq (.dreg c_spec_l00Src_next_2) (.cond (tt 13) (.dreg c_spec_l00Src_next_3) (.skip))) (.seq (.reg c_spec_l00Src_next_4) (.seq (.reg c_spec_l00Src_next_5) (.seq (.seq (.dreg c_spec_l00Src_next_6) (.cond (tt 53) (.seq (.reg c_spec_l00Src_next_7) (.ret)) (.skip))) (.seq (.reg c_spec_l00Src_next_8) (.ret)))))))
theorem c_spec_l00Src_next_d : decFn Try.prog Try.f249 = some (62, [.t 2], c_spec_l00Src_next) := by kernel_rfl
theorem c_spec_l00Src_next_i {args : List Value} {G : GH} {K : Value → GH → Prop} (hn : args.length ≤ 62) (h : gW Try.prog c_spec_l00Src_next (RetK [.t 2] K) (T0 args) G) : GC Try.prog 249 args G K := GC_intro mixed Try.func249 c_spec_l00Src_next_d hn h
abbrev c_spec_l00Src_one_0 : List GOp := [oo 4 (.mv (cb  false))]
abbrev c_spec_l00Src_one_1 : List GOp := [oo 5 (.mv (tt 0)), oo 6 (.mv (tt 1)), oo 7 (.call (ff 220) [tt 5, tt 6]), oo 8 (.bin .eql (tt 7) (ci 0)), oo 4 (.mv (tt 8))]
abbrev c_spec_l00Src_one : GCode := .seq (.reg c_spec_l00Src_one_0) (.seq (.reg c_spec_l00Src_one_1) (.ret))
theorem c_spec_l00Src_one_d : decFn Try.prog Try.f221 = some (9, [.t 4], c_spec_l00Src_one) := by kernel_rfl
theorem c_spec_l00Src_one_i {args : List Value} {G : GH} {K : Value → GH → Prop} (hn : args.length ≤ 9) (h : gW Try.prog c_spec_l00Src_one (RetK [.t 4] K) (T0 args) G) : GC Try.prog 221 args G K := GC_intro mixed Try.func221 c_spec_l00Src_one_d hn h
abbrev c_spec_l00Src_pick_0 : List GOp := [oo 4 (.mv (ci 0))]
abbrev c_spec_l00Src_pick_1 : List GOp := [oo 6 (.mv (tt 1)), oo 7 (.bin .leq (tt 6) (ci 1))]
abbrev c_spec_l00Src_pick_2 : List GOp := [oo 4 (.mv (ci 0))]
abbrev c_spec_l00Src_pick_3 : List GOp := [oo 8 (.mv (tt 0)), oo 9 (.call (ff 249) [tt 8]), oo 5 (.mv (tt 9))]
abbrev c_spec_l00Src_pick_4 : List GOp := [oo 10 (.mv (tt 1)), oo 11 (.bin .gtr (tt 10) (ci 200))]
abbrev c_spec_l00Src_pick_5 : List GOp := [oo 12 (.mv (tt 5)), oo 13 (.bin .mul (tt 12) (ci 256)), oo 14 (.mv (tt 0)), oo 15 (.call (ff 249) [tt 14]), oo 16 (.bin .add (tt 13) (tt 15)), oo 5 (.mv (tt 16))]
abbrev c_spec_l00Src_pick_6 : List GOp := [oo 17 (.mv (tt 5)), oo 18 (.mv (tt 1)), oo 19 (.bin .rem (tt 17) (tt 18)), oo 4 (.mv (tt 19))]
abbrev c_spec_l00Src_pick : GCode := .seq (.reg c_spec_l00Src_pick_0) (.seq (.seq (.reg c_spec_l00Src_pick_1) (.cond (tt 7) (.seq (.reg c_spec_l00Src_pick_2) (.ret)) (.skip))) (.seq (.reg c_spec_l00Src_pick_3) (.seq (.seq (.reg c_spec_l00Src_pick_4) (.cond (tt 11) (.reg c_spec_l00Src_pick_5) (.skip))) (.seq (.reg c_spec_l00Src_pick_6) (.ret)))))
theorem c_spec_l00Src_pick_d : decFn Try.prog Try.f220 = some (20, [.t 4], c_spec_l00Src_pick) := by kernel_rfl
theorem c_spec_l00Src_pick_i {args : List Value} {G : GH} {K : Value → GH → Prop} (hn : args.length ≤ 20) (h : gW Try.prog c_spec_l00Src_pick (RetK [.t 4] K) (T0 args) G) : GC Try.prog 220 args G K := GC_intro mixed Try.func220 c_spec_l00Src_pick_d hn h
abbrev c_spec_l16Draw_0 : List GOp := [oo 2 (.al [.int .i64 0, .slice none 0 0])]
abbrev c_spec_l16Draw_1 : List GOp := [oo 6 (.mv (tt 0)), oo 7 (.call (ff 219) [tt 6]), oo 3 (.al [.int .i64 0, .slice none 0 0]), on (.st 2 (tt 3) (tt 7))]
abbrev c_spec_l16Draw_2 : List GOp := [oo 8 (.mv (tt 0)), oo 9 (.call (ff 220) [tt 8, (ci 20)])]
abbrev c_spec_l16Draw_3 : List GOp := [oo 11 (.bin .eql (tt 9) (ci 0)), oo 10 (.mv (tt 11))]
abbrev c_spec_l16Draw_4 : List GOp := [oo 12 (.mv (tt 0)), oo 13 (.bs 1 [(ci 0), (ci 12), (ci 13)]), oo 14 (.call (ff 157) [tt 12, tt 13]), oo 15 (.fa 0 (tt 3)), on (.st 1 (tt 15) (tt 14))]
abbrev c_spec_l16Draw_5 : List GOp := [oo 17 (.bin .eql (tt 9) (ci 1)), oo 16 (.mv (tt 17))]
abbrev c_spec_l16Draw_6 : List DOp := [dl 0 (oo 18 (.fa 1 (tt 3))), dl 1 (oo 19 (.ld (tt 18))), dl 2 (oo 20 (.mv (tt 0))), dl 4 (oo 22 (.mv (tt 0))), dh 3 [1] (oo 21 (.call (ff 220) [tt 20, (ci 3)])), dh 5 [1] (oo 23 (.call (ff 220) [tt 22, (ci 4)])), dl 6 (oo 24 (.bld [.int .i64 0, .int .i64 0, .int .i64 0] [(0, 1, (tt 21)), (1, 1, (tt 23)), (2, 1, (ci 1))])), dh 7 [1] (oo 25 (.bs 3 [tt 24])), dh 8 [] (oo 26 (.ap 3 24 [.int .i64 0, .int .i64 0, .int .i64 0] (tt 19) (tt 25))), dl 9 (oo 27 (.fa 1 (tt 3))), dh 10 [] (on (.st 1 (tt 27) (tt 26)))]
abbrev c_spec_l16Draw_7 : List GOp := [oo 29 (.bin .eql (tt 9) (ci 2)), oo 28 (.mv (tt 29))]
abbrev c_spec_l16Draw_8 : List GOp := [oo 30 (.fa 1 (tt 3)), oo 31 (.ld (tt 30)), oo 32 (.len (tt 31)), oo 33 (.bin .gtr (tt 32) (ci 0))]
abbrev c_spec_l16Draw_9 : List DOp := [dl 0 (oo 34 (.fa 1 (tt 3))), dl 1 (oo 35 (.ld (tt 34))), dl 2 (oo 36 (.mv (tt 0))), dh 3 [1] (oo 37 (.bs 1 [(ci 0), (ci 9), (ci 10)])), dh 4 [1] (oo 38 (.call (ff 157) [tt 36, tt 37])), dl 5 (oo 39 (.ia 3 (tt 35) (ci 0))), dl 6 (oo 40 (.fa 2 (tt 39))), dh 7 [] (on (.st 1 (tt 40) (tt 38)))]
abbrev c_spec_l16Draw_10 : List GOp := [oo 42 (.bin .eql (tt 9) (ci 3)), oo 41 (.mv (tt 42))]
abbrev c_spec_l16Draw_11 : List GOp := [oo 43 (.mv (tt 0)), oo 44 (.bs 1 [(ci 24), (ci 25)]), oo 45 (.call (ff 157) [tt 43, tt 44]), oo 4 (.mv (tt 45))]
abbrev c_spec_l16Draw_12 : List GOp := [oo 46 (.bld [.int .i64 0, .slice none 0 0] [(0, 1, (ci 12))]), on (.st 2 (tt 3) (tt 46))]
abbrev c_spec_l16Draw_13 : List GOp := [oo 5 (.mv (ci 0))]
abbrev c_spec_l16Draw_14 : List GOp := [oo 47 (.mv (tt 5)), oo 48 (.mv (tt 4)), oo 49 (.bin .lss (tt 47) (tt 48))]
abbrev c_spec_l16Draw_15 : List GOp := [oo 52 (.fa 1 (tt 3)), oo 53 (.ld (tt 52)), oo 54 (.mv (tt 5)), oo 55 (.bin .quo (tt 54) (ci 8)), oo 56 (.mv (tt 5)), oo 57 (.bin .rem (tt 56) (ci 8)), oo 58 (.bin .add (ci 3) (tt 57)), oo 59 (.bld [.int .i64 0, .int .i64 0, .int .i64 0] [(0, 1, (tt 55)), (1, 1, (tt 58)), (2, 1, (ci 1))]), oo 60 (.bs 3 [tt 59]), oo 61 (.ap 3 24 [.int .i64 0, .int .i64 0, .int .i64 0] (tt 53) (tt 60)), oo 62 (.fa 1 (tt 3)), on (.st 1 (tt 62) (tt 61))]
abbrev c_spec_l16Draw_16 : List GOp := [oo 50 (.mv (tt 5)), oo 51 (.bin .add (tt 50) (ci 1)), oo 5 (.mv (tt 51))]
abbrev c_spec_l16Draw_l0 : GCode := .seq (.seq (.reg c_spec_l16Draw_14) (.cond (tt 49) (.skip) (.exit 1))) (.seq (.blk 2 (.reg c_spec_l16Draw_15)) (.reg c_spec_l16Draw_16))
abbrev c_spec_l16Draw_18 : List GOp := [oo 63 (.ldn 2 (tt 3)), on (.st 2 (tt 2) (tt 63))]
abbrev c_spec_l16Draw : GCode := .seq (.reg c_spec_l16Draw_0) (.seq (.reg c_spec_l16Draw_1) (.seq (.seq (.reg c_spec_l16Draw_2) (.blk 0 (.seq (.reg c_spec_l16Draw_3) (.cond (tt 10) (.reg c_spec_l16Draw_4) (.seq (.reg c_spec_l16Draw_5) (.cond (tt 16) (.dreg c_spec_l16Draw_6) (.seq (.reg c_spec_l16Draw_7) (.cond (tt 28) (.seq (.reg c_spec_l16Draw_8) (.cond (tt 33) (.dreg c_spec_l16Draw_9) (.skip))) (.seq (.reg c_spec_l16Draw_10) (.cond (tt 41) (.seq (.reg c_spec_l16Draw_11) (.seq (.reg c_spec_l16Draw_12) (.seq (.reg c_spec_l16Draw_13) (.blk 1 (.loop c_spec_l16Draw_l0))))) (.skip))))))))))) (.seq (.reg c_spec_l16Draw_18) (.ret))))
theorem c_spec_l16Draw_d : decFn Try.prog Try.f146 = some (64, [.cn 2 2], c_spec_l16Draw) := by kernel_rfl
theorem c_spec_l16Draw_i {args : List Value} {G : GH} {K : Value → GH → Prop} (hn : args.length ≤ 64) (h : gW Try.prog c_spec_l16Draw (RetK [.cn 2 2] K) (T0 args) G) : GC Try.prog 146 args G K := GC_intro mixed Try.func146 c_spec_l16Draw_d hn h
abbrev c_spec_l16DrawOk_0 : List GOp := [oo 2 (.al [.int .i64 0, .slice none 0 0])]
abbrev c_spec_l16DrawOk_1 : List GOp := [oo 7 (.mv (tt 0)), oo 8 (.call (ff 220) [tt 7, (ci 6)]), oo 9 (.bin .add (ci 1) (tt 8)), oo 10 (.bld [.int .i64 0, .slice none 0 0] [(0, 1, (tt 9))]), oo 3 (.al [.int .i64 0, .slice none 0 0]), on (.st 2 (tt 3) (tt 10))]
abbrev c_spec_l16DrawOk_2 : List GOp := [oo 11 (.mv (tt 0)), oo 12 (.bs 1 [(ci 2), (ci 2), (ci 3), (ci 9)]), oo 13 (.call (ff 157) [tt 11, tt 12]), oo 4 (.mv (tt 13))]
abbrev c_spec_l16DrawOk_3 : List GOp := [oo 14 (.mv (tt 0)), oo 15 (.call (ff 221) [tt 14, (ci 14)])]
abbrev c_spec_l16DrawOk_4 : List GOp := [oo 16 (.fa 0 (tt 3)), on (.st 1 (tt 16) (ci 12))]
abbrev c_spec_l16DrawOk_5 : List GOp := [oo 4 (.mv (ci 4))]
abbrev c_spec_l16DrawOk_6 : List GOp := [oo 5 (.mv (ci 0))]
abbrev c_spec_l16DrawOk_7 : List GOp := [oo 17 (.mv (tt 5)), oo 18 (.fa 0 (tt 3)), oo 19 (.ld (tt 18)), oo 20 (.bin .lss (tt 17) (tt 19))]
abbrev c_spec_l16DrawOk_8 : List GOp := [oo 23 (.mv (tt 5)), oo 24 (.bin .add (tt 23) (ci 1)), oo 6 (.mv (tt 24))]
abbrev c_spec_l16DrawOk_9 : List GOp := [oo 25 (.mv (tt 6)), oo 26 (.fa 0 (tt 3)), oo 27 (.ld (tt 26)), oo 28 (.bin .lss (tt 25) (tt 27))]
abbrev c_spec_l16DrawOk_10 : List GOp := [oo 31 (.mv (tt 0)), oo 32 (.mv (tt 4)), oo 33 (.call (ff 221) [tt 31, tt 32]), oo 34 (.un .not (tt 33)), oo 35 (.mv (tt 34)), og 36 35 true (.fa 1 (tt 3)), og 37 35 true (.ld (tt 36)), og 38 35 true (.len (tt 37)), og 39 35 true (.bin .lss (tt 38) (ci 24)), oo 40 (.pick (tt 35) (tt 39) (cb  false))]
abbrev c_spec_l16DrawOk_11 : List DOp := [dl 0 (oo 41 (.fa 1 (tt 3))), dl 1 (oo 42 (.ld (tt 41))), dl 2 (oo 43 (.mv (tt 5))), dl 3 (oo 44 (.mv (tt 6))), dl 4 (oo 45 (.mv (tt 0))), dh 5 [1] (oo 46 (.bs 1 [(ci 1), (ci 1), (ci 2), (ci 3), (ci 9)])), dh 6 [1] (oo 47 (.call (ff 157) [tt 45, tt 46])), dl 7 (oo 48 (.bld [.int .i64 0, .int .i64 0, .int .i64 0] [(0, 1, (tt 43)), (1, 1, (tt 44)), (2, 1, (tt 47))])), dh 8 [1] (oo 49 (.bs 3 [tt 48])), dh 9 [] (oo 50 (.ap 3 24 [.int .i64 0, .int .i64 0, .int .i64 0] (tt 42) (tt 49))), dl 10 (oo 51 (.fa 1 (tt 3))), dh 11 [] (on (.st 1 (tt 51) (tt 50)))]
abbrev c_spec_l16DrawOk_12 : List GOp := [oo 29 (.mv (tt 6)), oo 30 (.bin .add (tt 29) (ci 1)), oo 6 (.mv (tt 30))]
abbrev c_spec_l16DrawOk_l0 : GCode := .seq (.seq (.reg c_spec_l16DrawOk_9) (.cond (tt 28) (.skip) (.exit 2))) (.seq (.blk 3 (.seq (.reg c_spec_l16DrawOk_10) (.cond (tt 40) (.dreg c_spec_l16DrawOk_11) (.skip)))) (.reg c_spec_l16DrawOk_12))
abbrev c_spec_l16DrawOk_14 : List GOp := [oo 21 (.mv (tt 5)), oo 22 (.bin .add (tt 21) (ci 1)), oo 5 (.mv (tt 22))]
abbrev c_spec_l16DrawOk_l1 : GCode := .seq (.seq (.reg c_spec_l16DrawOk_7) (.cond (tt 20) (.skip) (.exit 0))) (.seq (.blk 1 (.seq (.reg c_spec_l16DrawOk_8) (.blk 2 (.loop c_spec_l16DrawOk_l0)))) (.reg c_spec_l16DrawOk_14))
abbrev c_spec_l16DrawOk_16 : List GOp := [oo 52 (.ldn 2 (tt 3)), on (.st 2 (tt 2) (tt 52))]
abbrev c_spec_l16DrawOk : GCode := .seq (.reg c_spec_l16DrawOk_0) (.seq (.reg c_spec_l16DrawOk_1) (.seq (.reg c_spec_l16DrawOk_2) (.seq (.seq (.reg c_spec_l16DrawOk_3) (.cond (tt 15) (.seq (.reg c_spec_l16DrawOk_4) (.reg c_spec_l16DrawOk_5)) (.skip))) (.seq (.seq (.reg c_spec_l16DrawOk_6) (.blk 0 (.loop c_spec_l16DrawOk_l1))) (.seq (.reg c_spec_l16DrawOk_16) (.ret))))))
theorem c_spec_l16DrawOk_d : decFn Try.prog Try.f219 = some (53, [.cn 2 2], c_spec_l16DrawOk) := by kernel_rfl
theorem c_spec_l16DrawOk_i {args : List Value} {G : GH} {K : Value → GH → Prop} (hn : args.length ≤ 53) (h : gW Try.prog c_spec_l16DrawOk (RetK [.cn 2 2] K) (T0 args) G) : GC Try.prog 219 args G K := GC_intro mixed Try.func219 c_spec_l16DrawOk_d hn h
abbrev c_spec_l16DrawVector_0 : List GOp := [oo 4 (.mv (.const (.slice none 0 0)))]
abbrev c_spec_l16DrawVector_1 : List GOp := [oo 7 (.bs 1 []), oo 5 (.mv (tt 7))]
abbrev c_spec_l16DrawVector_2 : List GOp := [oo 6 (.mv (ci 0))]
abbrev c_spec_l16DrawVector_3 : List GOp := [oo 8 (.mv (tt 6)), oo 9 (.mv (tt 1)), oo 10 (.nc (tt 9)), oo 11 (.fa 0 (tt 10)), oo 12 (.ld (tt 11)), oo 13 (.bin .lss (tt 8) (tt 12)), oo 14 (.mv (tt 13)), og 15 14 true (.mv (tt 6)), og 16 14 true (.bin .lss (tt 15) (ci 20)), oo 17 (.pick (tt 14) (tt 16) (cb  false))]
abbrev c_spec_l16DrawVector_4 : List GOp := [oo 20 (.mv (tt 5)), oo 21 (.mv (tt 0)), oo 22 (.bs 1 [(ci 0), (ci 1), (ci (-3)), (ci 7), (ci 1000000), (ci (-1000000)), (ci 2)]), oo 23 (.call (ff 157) [tt 21, tt 22]), oo 24 (.bs 1 [tt 23]), oo 25 (.ap 1 8 [.int .i64 0] (tt 20) (tt 24)), oo 5 (.mv (tt 25))]
abbrev c_spec_l16DrawVector_5 : List GOp := [oo 18 (.mv (tt 6)), oo 19 (.bin .add (tt 18) (ci 1)), oo 6 (.mv (tt 19))]
abbrev c_spec_l16DrawVector_l0 : GCode := .seq (.seq (.reg c_spec_l16DrawVector_3) (.cond (tt 17) (.skip) (.exit 0))) (.seq (.blk 1 (.reg c_spec_l16DrawVector_4)) (.reg c_spec_l16DrawVector_5))
abbrev c_spec_l16DrawVector_7 : List GOp := [oo 26 (.mv (tt 0)), oo 27 (.call (ff 220) [tt 26, (ci 16)])]
abbrev c_spec_l16DrawVector_8 : List GOp := [oo 29 (.bin .eql (tt 27) (ci 0)), oo 28 (.mv (tt 29))]
abbrev c_spec_l16DrawVector_9 : List GOp := [oo 30 (.mv (tt 5)), oo 31 (.bs 1 [(ci 0)]), oo 32 (.ap 1 8 [.int .i64 0] (tt 30) (tt 31)), oo 5 (.mv (tt 32))]
abbrev c_spec_l16DrawVector_10 : List GOp := [oo 34 (.bin .eql (tt 27) (ci 1)), oo 33 (.mv (tt 34))]
abbrev c_spec_l16DrawVector_11 : List GOp := [oo 35 (.mv (tt 5)), oo 36 (.len (tt 35)), oo 37 (.bin .gtr (tt 36) (ci 0))]
abbrev c_spec_l16DrawVector_12 : List GOp := [oo 38 (.mv (tt 5)), oo 39 (.mv (tt 0)), oo 40 (.bs 1 [(ci (-1000001)), (ci 1000001)]), oo 41 (.call (ff 157) [tt 39, tt 40]), oo 42 (.ia 1 (tt 38) (ci 0)), on (.st 1 (tt 42) (tt 41))]
abbrev c_spec_l16DrawVector_13 : List GOp := [oo 43 (.mv (tt 5)), oo 4 (.mv (tt 43))]
abbrev c_spec_l16DrawVector : GCode := .seq (.reg c_spec_l16DrawVector_0) (.seq (.reg c_spec_l16DrawVector_1) (.seq (.seq (.reg c_spec_l16DrawVector_2) (.blk 0 (.loop c_spec_l16DrawVector_l0))) (.seq (.seq (.reg c_spec_l16DrawVector_7) (.blk 2 (.seq (.reg c_spec_l16DrawVector_8) (.cond (tt 28) (.reg c_spec_l16DrawVector_9) (.seq (.reg c_spec_l16DrawVector_10) (.cond (tt 33) (.seq (.reg c_spec_l16DrawVector_11) (.cond (tt 37) (.reg c_spec_l16DrawVector_12) (.skip))) (.skip))))))) (.seq (.reg c_spec_l16DrawVector_13) (.ret)))))
theorem c_spec_l16DrawVector_d : decFn Try.prog Try.f147 = some (44, [.t 4], c_spec_l16DrawVector) := by kernel_rfl
theorem c_spec_l16DrawVector_i {args : List Value} {G : GH} {K : Value → GH → Prop} (hn : args.length ≤ 44) (h : gW Try.prog c_spec_l16DrawVector (RetK [.t 4] K) (T0 args) G) : GC Try.prog 147 args G K := GC_intro mixed Try.func147 c_spec_l16DrawVector_d hn h
abbrev c_spec_l18DrawLimit_0 : List GOp := [oo 2 (.mv (ci 0))]
abbrev c_spec_l18DrawLimit_1 : List GOp := [oo 3 (.mv (tt 0)), oo 4 (.bs 1 [(ci 0), (ci 5), (ci 10), (ci 20), (ci 3), (ci (-1)), (ci 2000000)]), oo 5 (.call (ff 157) [tt 3, tt 4]), oo 2 (.mv (tt 5))]
abbrev c_spec_l18DrawLimit : GCode := .seq (.reg c_spec_l18DrawLimit_0) (.seq (.reg c_spec_l18DrawLimit_1) (.ret))
theorem c_spec_l18DrawLimit_d : decFn Try.prog Try.f150 = some (6, [.t 2], c_spec_l18DrawLimit) := by kernel_rfl
theorem c_spec_l18DrawLimit_i {args : List Value} {G : GH} {K : Value → GH → Prop} (hn : args.length ≤ 6) (h : gW Try.prog c_spec_l18DrawLimit (RetK [.t 2] K) (T0 args) G) : GC Try.prog 150 args G K := GC_intro mixed Try.func150 c_spec_l18DrawLimit_d hn h
abbrev c_spec_l18DrawX_0 : List GOp := [oo 4 (.mv (.const (.slice none 0 0)))]
abbrev c_spec_l18DrawX_1 : List GOp := [oo 7 (.mv (tt 0)), oo 8 (.call (ff 221) [tt 7, (ci 8)])]
abbrev c_spec_l18DrawX_2 : List GOp := [oo 9 (.mv (tt 0)), oo 10 (.mv (tt 1)), oo 11 (.call (ff 147) [tt 9, tt 10]), oo 4 (.mv (tt 11))]
abbrev c_spec_l18DrawX_3 : List GOp := [oo 12 (.bs 1 []), oo 5 (.mv (tt 12))]
abbrev c_spec_l18DrawX_4 : List GOp := [oo 6 (.mv (ci 0))]
abbrev c_spec_l18DrawX_5 : List GOp := [oo 13 (.mv (tt 6)), oo 14 (.mv (tt 1)), oo 15 (.nc (tt 14)), oo 16 (.fa 0 (tt 15)), oo 17 (.ld (tt 16)), oo 18 (.bin .lss (tt 13) (tt 17)), oo 19 (.mv (tt 18)), og 20 19 true (.mv (tt 6)), og 21 19 true (.bin .lss (tt 20) (ci 20)), oo 22 (.pick (tt 19) (tt 21) (cb  false))]
abbrev c_spec_l18DrawX_6 : List GOp := [oo 25 (.mv (tt 5)), oo 26 (.mv (tt 0)), oo 27 (.bs 1 [(ci 0), (ci 10), (ci 10), (ci 20), (ci (-5)), (ci 50), (ci 3)]), oo 28 (.call (ff 157) [tt 26, tt 27]), oo 29 (.bs 1 [tt 28]), oo 30 (.ap 1 8 [.int .i64 0] (tt 25) (tt 29)), oo 5 (.mv (tt 30))]
abbrev c_spec_l18DrawX_7 : List GOp := [oo 23 (.mv (tt 6)), oo 24 (.bin .add (tt 23) (ci 1)), oo 6 (.mv (tt 24))]
abbrev c_spec_l18DrawX_l0 : GCode := .seq (.seq (.reg c_spec_l18DrawX_5) (.cond (tt 22) (.skip) (.exit 0))) (.seq (.blk 1 (.reg c_spec_l18DrawX_6)) (.reg c_spec_l18DrawX_7))
abbrev c_spec_l18DrawX_9 : List GOp := [oo 31 (.mv (tt 5)), oo 4 (.mv (tt 31))]
abbrev c_spec_l18DrawX : GCode := .seq (.reg c_spec_l18DrawX_0) (.seq (.seq (.reg c_spec_l18DrawX_1) (.cond (tt 8) (.seq (.reg c_spec_l18DrawX_2) (.ret)) (.skip))) (.seq (.reg c_spec_l18DrawX_3) (.seq (.seq (.reg c_spec_l18DrawX_4) (.blk 0 (.loop c_spec_l18DrawX_l0))) (.seq (.reg c_spec_l18DrawX_9) (.ret)))))
theorem c_spec_l18DrawX_d : decFn Try.prog Try.f149 = some (32, [.t 4], c_spec_l18DrawX) := by kernel_rfl
theorem c_spec_l18DrawX_i {args : List Value} {G : GH} {K : Value → GH → Prop} (hn : args.length ≤ 32) (h : gW Try.prog c_spec_l18DrawX (RetK [.t 4] K) (T0 args) G) : GC Try.prog 149 args G K := GC_intro mixed Try.func149 c_spec_l18DrawX_d hn h

end Go.Proofs.Ytmlkgpoakkgjbaa.Gh
