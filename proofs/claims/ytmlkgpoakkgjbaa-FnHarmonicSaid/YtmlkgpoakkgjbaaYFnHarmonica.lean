/- Code trees that the law FnHarmonic reaches: each is what the decoding gives (checked by the kernel). -/
import Derived.Test.YtmlkgpoakkgjbaaC0
import Derived.Test.YtmlkgpoakkgjbaaFm
import Derived.Test.YtmlkgpoakkgjbaaFn
import Derived.Test.YtmlkgpoakkgjbaaFz
namespace Go.Proofs.Ytmlkgpoakkgjbaa.Gh
open Go Go.RowKit Go.Proofs
set_option linter.unusedVariables false
set_option linter.unusedSimpArgs false
set_option maxHeartbeats 4000000

abbrev c_cmp_Compare_int64_0 : List GOp := [oo 4 (.mv (ci 0))]
abbrev c_cmp_Compare_int64_1 : List GOp := [oo 7 (.mv (tt 0)), oo 8 (.call (ff 248) [tt 7]), oo 5 (.mv (tt 8))]
abbrev c_cmp_Compare_int64_2 : List GOp := [oo 9 (.mv (tt 1)), oo 10 (.call (ff 248) [tt 9]), oo 6 (.mv (tt 10))]
abbrev c_cmp_Compare_int64_3 : List GOp := [oo 11 (.mv (tt 5))]
abbrev c_cmp_Compare_int64_4 : List GOp := [oo 12 (.mv (tt 6))]
abbrev c_cmp_Compare_int64_5 : List GOp := [oo 4 (.mv (ci 0))]
abbrev c_cmp_Compare_int64_6 : List GOp := [oo 4 (.mv (ci (-1)))]
abbrev c_cmp_Compare_int64_7 : List GOp := [oo 13 (.mv (tt 6))]
abbrev c_cmp_Compare_int64_8 : List GOp := [oo 4 (.mv (ci 1))]
abbrev c_cmp_Compare_int64_9 : List GOp := [oo 14 (.mv (tt 0)), oo 15 (.mv (tt 1)), oo 16 (.bin .lss (tt 14) (tt 15))]
abbrev c_cmp_Compare_int64_10 : List GOp := [oo 4 (.mv (ci (-1)))]
abbrev c_cmp_Compare_int64_11 : List GOp := [oo 17 (.mv (tt 0)), oo 18 (.mv (tt 1)), oo 19 (.bin .gtr (tt 17) (tt 18))]
abbrev c_cmp_Compare_int64_12 : List GOp := [oo 4 (.mv (ci 1))]
abbrev c_cmp_Compare_int64_13 : List GOp := [oo 4 (.mv (ci 0))]
abbrev c_cmp_Compare_int64 : GCode := .seq (.reg c_cmp_Compare_int64_0) (.seq (.reg c_cmp_Compare_int64_1) (.seq (.reg c_cmp_Compare_int64_2) (.seq (.seq (.reg c_cmp_Compare_int64_3) (.cond (tt 11) (.seq (.seq (.reg c_cmp_Compare_int64_4) (.cond (tt 12) (.seq (.reg c_cmp_Compare_int64_5) (.ret)) (.skip))) (.seq (.reg c_cmp_Compare_int64_6) (.ret))) (.skip))) (.seq (.seq (.reg c_cmp_Compare_int64_7) (.cond (tt 13) (.seq (.reg c_cmp_Compare_int64_8) (.ret)) (.skip))) (.seq (.seq (.reg c_cmp_Compare_int64_9) (.cond (tt 16) (.seq (.reg c_cmp_Compare_int64_10) (.ret)) (.skip))) (.seq (.seq (.reg c_cmp_Compare_int64_11) (.cond (tt 19) (.seq (.reg c_cmp_Compare_int64_12) (.ret)) (.skip))) (.seq (.reg c_cmp_Compare_int64_13) (.ret))))))))
theorem c_cmp_Compare_int64_d : decFn Try.prog Try.f218 = some (20, [.t 4], c_cmp_Compare_int64) := by kernel_rfl
theorem c_cmp_Compare_int64_i {args : List Value} {G : GH} {K : Value → GH → Prop} (hn : args.length ≤ 20) (h : gW Try.prog c_cmp_Compare_int64 (RetK [.t 4] K) (T0 args) G) : GC Try.prog 218 args G K := GC_intro mixed Try.func218 c_cmp_Compare_int64_d hn h
abbrev c_cmp_Or_int_0 : List GOp := [oo 2 (.mv (ci 0))]
abbrev c_cmp_Or_int_1 : List GOp := [oo 3 (.mv (ci 0))]
abbrev c_cmp_Or_int_2 : List GOp := [oo 6 (.mv (tt 0)), oo 7 (.len (tt 6)), oo 8 (.mv (ci 0))]
abbrev c_cmp_Or_int_3 : List GOp := [oo 9 (.bin .lss (tt 8) (tt 7))]
abbrev c_cmp_Or_int_4 : List GOp := [oo 10 (.ia 1 (tt 6) (tt 8)), oo 11 (.ld (tt 10)), oo 5 (.mv (tt 11))]
abbrev c_cmp_Or_int_5 : List GOp := [oo 12 (.mv (tt 5)), oo 13 (.mv (tt 3)), oo 14 (.bin .neq (tt 12) (tt 13))]
abbrev c_cmp_Or_int_6 : List GOp := [oo 15 (.mv (tt 5)), oo 2 (.mv (tt 15))]
abbrev c_cmp_Or_int_7 : List GOp := [oo 16 (.bin .add (tt 8) (ci 1)), oo 8 (.mv (tt 16))]
abbrev c_cmp_Or_int_l0 : GCode := .seq (.reg c_cmp_Or_int_3) (.seq (.cond (tt 9) (.skip) (.exit 0)) (.seq (.blk 1 (.seq (.reg c_cmp_Or_int_4) (.seq (.reg c_cmp_Or_int_5) (.cond (tt 14) (.seq (.reg c_cmp_Or_int_6) (.ret)) (.skip))))) (.reg c_cmp_Or_int_7)))
abbrev c_cmp_Or_int_9 : List GOp := [oo 17 (.mv (tt 3)), oo 2 (.mv (tt 17))]
abbrev c_cmp_Or_int : GCode := .seq (.reg c_cmp_Or_int_0) (.seq (.reg c_cmp_Or_int_1) (.seq (.seq (.reg c_cmp_Or_int_2) (.blk 0 (.loop c_cmp_Or_int_l0))) (.seq (.reg c_cmp_Or_int_9) (.ret))))
theorem c_cmp_Or_int_d : decFn Try.prog Try.f241 = some (18, [.t 2], c_cmp_Or_int) := by kernel_rfl
theorem c_cmp_Or_int_i {args : List Value} {G : GH} {K : Value → GH → Prop} (hn : args.length ≤ 18) (h : gW Try.prog c_cmp_Or_int (RetK [.t 2] K) (T0 args) G) : GC Try.prog 241 args G K := GC_intro mixed Try.func241 c_cmp_Or_int_d hn h
abbrev c_cmp_isNaN_int64_0 : List GOp := [oo 2 (.mv (cb  false))]
abbrev c_cmp_isNaN_int64_1 : List GOp := [oo 3 (.mv (tt 0)), oo 4 (.mv (tt 0)), oo 5 (.bin .neq (tt 3) (tt 4)), oo 2 (.mv (tt 5))]
abbrev c_cmp_isNaN_int64 : GCode := .seq (.reg c_cmp_isNaN_int64_0) (.seq (.reg c_cmp_isNaN_int64_1) (.ret))
theorem c_cmp_isNaN_int64_d : decFn Try.prog Try.f248 = some (6, [.t 2], c_cmp_isNaN_int64) := by kernel_rfl
theorem c_cmp_isNaN_int64_i {args : List Value} {G : GH} {K : Value → GH → Prop} (hn : args.length ≤ 6) (h : gW Try.prog c_cmp_isNaN_int64 (RetK [.t 2] K) (T0 args) G) : GC Try.prog 248 args G K := GC_intro mixed Try.func248 c_cmp_isNaN_int64_d hn h
abbrev c_impl_CutWeight_0 : List GOp := [oo 2 (.bx (tt 0)), oo 4 (.mv (ci 0)), oo 5 (.mv (ci 0))]
abbrev c_impl_CutWeight_1 : List GOp := [oo 6 (.ldn 2 (tt 2)), oo 7 (.call (ff 141) [tt 6]), oo 8 (.un .not (tt 7))]
abbrev c_impl_CutWeight_2 : List GOp := [oo 4 (.mv (ci 0)), oo 5 (.mv (ci 1))]
abbrev c_impl_CutWeight_3 : List GOp := [oo 9 (.ldn 2 (tt 2)), oo 10 (.mv (tt 1)), oo 11 (.call (ff 135) [tt 9, tt 10]), oo 12 (.un .not (tt 11))]
abbrev c_impl_CutWeight_4 : List GOp := [oo 4 (.mv (ci 0)), oo 5 (.mv (ci 2))]
abbrev c_impl_CutWeight_5 : List GOp := [oo 13 (.ldn 2 (tt 2)), oo 14 (.mv (tt 1)), oo 15 (.call (ff 143) [tt 13, tt 14]), oo 4 (.mv (tt 15)), oo 5 (.mv (ci 0))]
abbrev c_impl_CutWeight : GCode := .seq (.reg c_impl_CutWeight_0) (.seq (.seq (.reg c_impl_CutWeight_1) (.cond (tt 8) (.seq (.reg c_impl_CutWeight_2) (.ret)) (.skip))) (.seq (.seq (.reg c_impl_CutWeight_3) (.cond (tt 12) (.seq (.reg c_impl_CutWeight_4) (.ret)) (.skip))) (.seq (.reg c_impl_CutWeight_5) (.ret))))
theorem c_impl_CutWeight_d : decFn Try.prog Try.f80 = some (16, [.t 4, .t 5], c_impl_CutWeight) := by kernel_rfl
theorem c_impl_CutWeight_i {args : List Value} {G : GH} {K : Value → GH → Prop} (hn : args.length ≤ 16) (h : gW Try.prog c_impl_CutWeight (RetK [.t 4, .t 5] K) (T0 args) G) : GC Try.prog 80 args G K := GC_intro mixed Try.func80 c_impl_CutWeight_d hn h
abbrev c_impl_HarmonicModulo_0 : List GOp := [oo 4 (.bx (tt 0)), oo 8 (.mv (.const (.slice none 0 0))), oo 9 (.mv (ci 0))]
abbrev c_impl_HarmonicModulo_1 : List GOp := [oo 21 (.ldn 2 (tt 4)), oo 22 (.call (ff 141) [tt 21]), oo 23 (.un .not (tt 22)), oo 24 (.mv (tt 23)), og 25 24 false (.mv (tt 3)), og 26 24 false (.mv (tt 1)), og 27 24 false (.call (ff 164) [tt 25, tt 26]), og 28 24 false (.un .not (tt 27)), oo 29 (.pick (tt 24) (cb  true) (tt 28)), oo 20 (.mv (tt 29))]
abbrev c_impl_HarmonicModulo_2 : List GOp := [oo 8 (.mv (.const (.slice none 0 0))), oo 9 (.mv (ci 1))]
abbrev c_impl_HarmonicModulo_3 : List GOp := [oo 31 (.ldn 2 (tt 4)), oo 32 (.mv (tt 2)), oo 33 (.call (ff 135) [tt 31, tt 32]), oo 34 (.un .not (tt 33)), oo 30 (.mv (tt 34))]
abbrev c_impl_HarmonicModulo_4 : List GOp := [oo 8 (.mv (.const (.slice none 0 0))), oo 9 (.mv (ci 2))]
abbrev c_impl_HarmonicModulo_5 : List GOp := [oo 36 (.mv (tt 2)), oo 37 (.len (tt 36)), oo 38 (.mv (tt 3)), oo 39 (.len (tt 38)), oo 40 (.bin .neq (tt 37) (tt 39)), oo 35 (.mv (tt 40))]
abbrev c_impl_HarmonicModulo_6 : List GOp := [oo 8 (.mv (.const (.slice none 0 0))), oo 9 (.mv (ci 6))]
abbrev c_impl_HarmonicModulo_7 : List GOp := [oo 41 (.ldn 2 (tt 4)), oo 42 (.call (ff 148) [tt 41]), oo 10 (.mv (tt 42))]
abbrev c_impl_HarmonicModulo_8 : List GOp := [oo 43 (.fa 0 (tt 4)), oo 44 (.ld (tt 43)), oo 45 (.mk 1 8 [.int .i64 0] (tt 44) (tt 44)), oo 11 (.mv (tt 45))]
abbrev c_impl_HarmonicModulo_9 : List GOp := [oo 46 (.mv (tt 10)), oo 47 (.len (tt 46)), oo 48 (.mv (ci 0))]
abbrev c_impl_HarmonicModulo_10 : List GOp := [oo 49 (.bin .lss (tt 48) (tt 47))]
abbrev c_impl_HarmonicModulo_11 : List GOp := [oo 50 (.mv (tt 48)), oo 51 (.ia 1 (tt 46) (tt 48)), oo 52 (.ld (tt 51)), oo 12 (.mv (tt 50)), oo 13 (.mv (tt 52))]
abbrev c_impl_HarmonicModulo_12 : List GOp := [oo 53 (.mv (tt 13)), oo 54 (.len (tt 53)), oo 55 (.mv (ci 0))]
abbrev c_impl_HarmonicModulo_13 : List GOp := [oo 56 (.bin .lss (tt 55) (tt 54))]
abbrev c_impl_HarmonicModulo_14 : List GOp := [oo 57 (.mv (tt 55)), oo 58 (.ia 1 (tt 53) (tt 55)), oo 59 (.ld (tt 58)), oo 14 (.mv (tt 57)), oo 15 (.mv (tt 59))]
abbrev c_impl_HarmonicModulo_15 : List GOp := [oo 60 (.mv (tt 13)), oo 61 (.mv (tt 14)), oo 62 (.mv (tt 15)), oo 63 (.mv (tt 1)), oo 64 (.call (ff 165) [tt 62, tt 63]), oo 65 (.ia 1 (tt 60) (tt 61)), on (.st 1 (tt 65) (tt 64))]
abbrev c_impl_HarmonicModulo_16 : List GOp := [oo 66 (.bin .add (tt 55) (ci 1)), oo 55 (.mv (tt 66))]
abbrev c_impl_HarmonicModulo_l0 : GCode := .seq (.reg c_impl_HarmonicModulo_13) (.seq (.cond (tt 56) (.skip) (.exit 3)) (.seq (.blk 4 (.seq (.reg c_impl_HarmonicModulo_14) (.reg c_impl_HarmonicModulo_15))) (.reg c_impl_HarmonicModulo_16)))
abbrev c_impl_HarmonicModulo_18 : List GOp := [oo 67 (.mv (tt 2)), oo 68 (.mv (tt 12)), oo 69 (.call (ff 166) [tt 67, tt 68]), oo 16 (.mv (tt 69))]
abbrev c_impl_HarmonicModulo_19 : List GOp := [oo 70 (.mv (tt 16)), oo 71 (.bin .geq (tt 70) (ci 0))]
abbrev c_impl_HarmonicModulo_20 : List GOp := [oo 72 (.mv (tt 10)), oo 73 (.mv (tt 12)), oo 74 (.mv (tt 1)), oo 75 (.fa 0 (tt 4)), oo 76 (.ld (tt 75)), oo 77 (.call (ff 167) [tt 74, tt 76]), oo 78 (.mv (tt 12)), oo 79 (.call (ff 168) [tt 77, tt 78]), oo 80 (.ia 1 (tt 72) (tt 73)), on (.st 1 (tt 80) (tt 79))]
abbrev c_impl_HarmonicModulo_21 : List GOp := [oo 81 (.mv (tt 11)), oo 82 (.mv (tt 12)), oo 83 (.mv (tt 3)), oo 84 (.mv (tt 16)), oo 85 (.ia 1 (tt 83) (tt 84)), oo 86 (.ld (tt 85)), oo 87 (.ia 1 (tt 81) (tt 82)), on (.st 1 (tt 87) (tt 86))]
abbrev c_impl_HarmonicModulo_22 : List GOp := [oo 88 (.bin .add (tt 48) (ci 1)), oo 48 (.mv (tt 88))]
abbrev c_impl_HarmonicModulo_l1 : GCode := .seq (.reg c_impl_HarmonicModulo_10) (.seq (.cond (tt 49) (.skip) (.exit 1)) (.seq (.blk 2 (.seq (.reg c_impl_HarmonicModulo_11) (.seq (.seq (.reg c_impl_HarmonicModulo_12) (.blk 3 (.loop c_impl_HarmonicModulo_l0))) (.seq (.reg c_impl_HarmonicModulo_18) (.seq (.reg c_impl_HarmonicModulo_19) (.cond (tt 71) (.seq (.reg c_impl_HarmonicModulo_20) (.reg c_impl_HarmonicModulo_21)) (.skip))))))) (.reg c_impl_HarmonicModulo_22)))
abbrev c_impl_HarmonicModulo_24 : List GOp := [oo 89 (.mv (tt 1)), oo 90 (.fa 0 (tt 4)), oo 91 (.ld (tt 90)), oo 92 (.mv (tt 10)), oo 93 (.call (ff 169) [tt 89, tt 91, tt 92]), oo 17 (.al [.int .i64 0, .int .i64 0, .int .i64 0, .slice none 0 0]), on (.st 4 (tt 17) (tt 93))]
abbrev c_impl_HarmonicModulo_25 : List GOp := [oo 95 (.ldn 4 (tt 17)), oo 96 (.mv (tt 11)), oo 97 (.call (ff 170) [tt 95, tt 96]), oo 94 (.mv (tt 97)), oo 98 (.ex 0 (tt 94)), oo 99 (.ex 1 (tt 94)), oo 18 (.mv (tt 98)), oo 19 (.mv (tt 99))]
abbrev c_impl_HarmonicModulo_26 : List DOp := [dl 0 (oo 100 (.mv (tt 19))), dl 1 (oo 101 (.un .not (tt 100))), dl 2 (oo 102 (.mv (tt 101))), dl 3 (og 103 102 false (.ldn 4 (tt 17))), dl 5 (og 105 102 false (.fa 0 (tt 4))), dl 6 (og 106 102 false (.ld (tt 105))), dh 4 [6] (og 104 102 false (.call (ff 171) [tt 103])), dl 7 (og 107 102 false (.bin .lss (tt 104) (tt 106))), dl 8 (oo 108 (.pick (tt 102) (cb  true) (tt 107)))]
abbrev c_impl_HarmonicModulo_27 : List GOp := [oo 8 (.mv (.const (.slice none 0 0))), oo 9 (.mv (ci 6))]
abbrev c_impl_HarmonicModulo_28 : List GOp := [oo 109 (.mv (tt 18)), oo 8 (.mv (tt 109)), oo 9 (.mv (ci 0))]
abbrev c_impl_HarmonicModulo : GCode := .seq (.reg c_impl_HarmonicModulo_0) (.seq (.blk 0 (.seq (.reg c_impl_HarmonicModulo_1) (.cond (tt 20) (.seq (.reg c_impl_HarmonicModulo_2) (.ret)) (.seq (.reg c_impl_HarmonicModulo_3) (.cond (tt 30) (.seq (.reg c_impl_HarmonicModulo_4) (.ret)) (.seq (.reg c_impl_HarmonicModulo_5) (.cond (tt 35) (.seq (.reg c_impl_HarmonicModulo_6) (.ret)) (.skip)))))))) (.seq (.reg c_impl_HarmonicModulo_7) (.seq (.reg c_impl_HarmonicModulo_8) (.seq (.seq (.reg c_impl_HarmonicModulo_9) (.blk 1 (.loop c_impl_HarmonicModulo_l1))) (.seq (.reg c_impl_HarmonicModulo_24) (.seq (.reg c_impl_HarmonicModulo_25) (.seq (.seq (.dreg c_impl_HarmonicModulo_26) (.cond (tt 108) (.seq (.reg c_impl_HarmonicModulo_27) (.ret)) (.skip))) (.seq (.reg c_impl_HarmonicModulo_28) (.ret)))))))))
theorem c_impl_HarmonicModulo_d : decFn Try.prog Try.f75 = some (110, [.t 8, .t 9], c_impl_HarmonicModulo) := by kernel_rfl
theorem c_impl_HarmonicModulo_i {args : List Value} {G : GH} {K : Value → GH → Prop} (hn : args.length ≤ 110) (h : gW Try.prog c_impl_HarmonicModulo (RetK [.t 8, .t 9] K) (T0 args) G) : GC Try.prog 75 args G K := GC_intro mixed Try.func75 c_impl_HarmonicModulo_d hn h
abbrev c_impl_LightestCut_0 : List GOp := [oo 1 (.bx (tt 0)), oo 2 (.mv (.const (.slice none 0 0))), oo 3 (.mv (ci 0)), oo 4 (.mv (ci 0))]
abbrev c_impl_LightestCut_1 : List GOp := [oo 10 (.ldn 2 (tt 1)), oo 11 (.call (ff 141) [tt 10]), oo 12 (.un .not (tt 11))]
abbrev c_impl_LightestCut_2 : List GOp := [oo 2 (.mv (.const (.slice none 0 0))), oo 3 (.mv (ci 0)), oo 4 (.mv (ci 1))]
abbrev c_impl_LightestCut_3 : List GOp := [oo 13 (.fa 0 (tt 1)), oo 14 (.ld (tt 13)), oo 15 (.bin .eql (tt 14) (ci 1))]
abbrev c_impl_LightestCut_4 : List GOp := [oo 2 (.mv (.const (.slice none 0 0))), oo 3 (.mv (ci 0)), oo 4 (.mv (ci 6))]
abbrev c_impl_LightestCut_5 : List GOp := [oo 5 (.mv (.const (.slice none 0 0)))]
abbrev c_impl_LightestCut_6 : List GOp := [oo 6 (.mv (ci 0))]
abbrev c_impl_LightestCut_7 : List GOp := [oo 7 (.mv (ci 1))]
abbrev c_impl_LightestCut_8 : List GOp := [oo 16 (.mv (tt 7)), oo 17 (.fa 0 (tt 1)), oo 18 (.ld (tt 17)), oo 19 (.bin .shl (ci 1) (tt 18)), oo 20 (.bin .sub (tt 19) (ci 1)), oo 21 (.bin .lss (tt 16) (tt 20))]
abbrev c_impl_LightestCut_9 : List GOp := [oo 24 (.mv (tt 7)), oo 25 (.call (ff 142) [tt 24]), oo 8 (.mv (tt 25))]
abbrev c_impl_LightestCut_10 : List GOp := [oo 26 (.ldn 2 (tt 1)), oo 27 (.mv (tt 8)), oo 28 (.call (ff 143) [tt 26, tt 27]), oo 9 (.mv (tt 28))]
abbrev c_impl_LightestCut_11 : List GOp := [oo 29 (.mv (tt 5)), oo 30 (.eqs false (tt 29) (.const (.slice none 0 0))), oo 31 (.mv (tt 30)), og 32 31 false (.mv (tt 9)), og 33 31 false (.mv (tt 6)), og 34 31 false (.bin .lss (tt 32) (tt 33)), oo 35 (.pick (tt 31) (cb  true) (tt 34)), oo 36 (.mv (tt 35)), og 37 36 false (.mv (tt 9)), og 38 36 false (.mv (tt 6)), og 39 36 false (.bin .eql (tt 37) (tt 38)), og 40 36 false (.mv (tt 39)), og 41 40 true (.mv (tt 8)), og 42 40 true (.mv (tt 5)), og 43 40 true (.call (ff 144) [tt 41, tt 42]), og 44 40 true (.bin .lss (tt 43) (ci 0)), og 45 36 false (.pick (tt 40) (tt 44) (cb  false)), oo 46 (.pick (tt 36) (cb  true) (tt 45))]
abbrev c_impl_LightestCut_12 : List GOp := [oo 47 (.mv (tt 8)), oo 48 (.mv (tt 9)), oo 5 (.mv (tt 47)), oo 6 (.mv (tt 48))]
abbrev c_impl_LightestCut_13 : List GOp := [oo 22 (.mv (tt 7)), oo 23 (.bin .add (tt 22) (ci 2)), oo 7 (.mv (tt 23))]
abbrev c_impl_LightestCut_l0 : GCode := .seq (.seq (.reg c_impl_LightestCut_8) (.cond (tt 21) (.skip) (.exit 0))) (.seq (.blk 1 (.seq (.reg c_impl_LightestCut_9) (.seq (.reg c_impl_LightestCut_10) (.seq (.reg c_impl_LightestCut_11) (.cond (tt 46) (.reg c_impl_LightestCut_12) (.skip)))))) (.reg c_impl_LightestCut_13))
abbrev c_impl_LightestCut_15 : List GOp := [oo 49 (.mv (tt 5)), oo 50 (.mv (tt 6)), oo 2 (.mv (tt 49)), oo 3 (.mv (tt 50)), oo 4 (.mv (ci 0))]
abbrev c_impl_LightestCut : GCode := .seq (.reg c_impl_LightestCut_0) (.seq (.seq (.reg c_impl_LightestCut_1) (.cond (tt 12) (.seq (.reg c_impl_LightestCut_2) (.ret)) (.skip))) (.seq (.seq (.reg c_impl_LightestCut_3) (.cond (tt 15) (.seq (.reg c_impl_LightestCut_4) (.ret)) (.skip))) (.seq (.reg c_impl_LightestCut_5) (.seq (.reg c_impl_LightestCut_6) (.seq (.seq (.reg c_impl_LightestCut_7) (.blk 0 (.loop c_impl_LightestCut_l0))) (.seq (.reg c_impl_LightestCut_15) (.ret)))))))
theorem c_impl_LightestCut_d : decFn Try.prog Try.f55 = some (51, [.t 2, .t 3, .t 4], c_impl_LightestCut) := by kernel_rfl
theorem c_impl_LightestCut_i {args : List Value} {G : GH} {K : Value → GH → Prop} (hn : args.length ≤ 51) (h : gW Try.prog c_impl_LightestCut (RetK [.t 2, .t 3, .t 4] K) (T0 args) G) : GC Try.prog 55 args G K := GC_intro mixed Try.func55 c_impl_LightestCut_d hn h
abbrev c_impl_Matrix_row_0 : List GOp := [oo 2 (.bx (tt 0)), oo 4 (.mv (.const (.slice none 0 0)))]
abbrev c_impl_Matrix_row_1 : List GOp := [oo 5 (.fa 3 (tt 2)), oo 6 (.ld (tt 5)), oo 7 (.mv (tt 1)), oo 8 (.fa 2 (tt 2)), oo 9 (.ld (tt 8)), oo 10 (.bin .mul (tt 7) (tt 9)), oo 11 (.mv (tt 1)), oo 12 (.bin .add (tt 11) (ci 1)), oo 13 (.fa 2 (tt 2)), oo 14 (.ld (tt 13)), oo 15 (.bin .mul (tt 12) (tt 14)), oo 16 (.sl 1 (tt 6) (some (tt 10)) (some (tt 15))), oo 4 (.mv (tt 16))]
abbrev c_impl_Matrix_row : GCode := .seq (.reg c_impl_Matrix_row_0) (.seq (.reg c_impl_Matrix_row_1) (.ret))
theorem c_impl_Matrix_row_d : decFn Try.prog Try.f168 = some (17, [.t 4], c_impl_Matrix_row) := by kernel_rfl
theorem c_impl_Matrix_row_i {args : List Value} {G : GH} {K : Value → GH → Prop} (hn : args.length ≤ 17) (h : gW Try.prog c_impl_Matrix_row (RetK [.t 4] K) (T0 args) G) : GC Try.prog 168 args G K := GC_intro mixed Try.func168 c_impl_Matrix_row_d hn h
abbrev c_impl_ValidGraph_0 : List GOp := [oo 1 (.bx (tt 0)), oo 2 (.mv (cb  false))]
abbrev c_impl_ValidGraph_1 : List GOp := [oo 5 (.fa 1 (tt 1)), oo 6 (.ld (tt 5)), oo 7 (.len (tt 6)), oo 8 (.mv (ci 0))]
abbrev c_impl_ValidGraph_2 : List GOp := [oo 9 (.bin .lss (tt 8) (tt 7))]
abbrev c_impl_ValidGraph_3 : List GOp := [oo 10 (.mv (tt 8)), oo 11 (.ia 3 (tt 6) (tt 8)), oo 12 (.ldn 3 (tt 11)), oo 4 (.al [.int .i64 0, .int .i64 0, .int .i64 0]), oo 3 (.mv (tt 10)), on (.st 3 (tt 4) (tt 12))]
abbrev c_impl_ValidGraph_4 : List DOp := [dl 0 (oo 13 (.fa 0 (tt 4))), dl 1 (oo 14 (.ld (tt 13))), dl 2 (oo 15 (.bin .lss (tt 14) (ci 0))), dl 3 (oo 16 (.mv (tt 15))), dl 4 (og 17 16 false (.fa 0 (tt 4))), dl 5 (og 18 16 false (.ld (tt 17))), dl 6 (og 19 16 false (.fa 1 (tt 4))), dl 7 (og 20 16 false (.ld (tt 19))), dl 8 (og 21 16 false (.bin .geq (tt 18) (tt 20))), dl 9 (oo 22 (.pick (tt 16) (cb  true) (tt 21))), dl 10 (oo 23 (.mv (tt 22))), dl 11 (og 24 23 false (.fa 1 (tt 4))), dl 12 (og 25 23 false (.ld (tt 24))), dl 13 (og 26 23 false (.fa 0 (tt 1))), dl 14 (og 27 23 false (.ld (tt 26))), dl 15 (og 28 23 false (.bin .geq (tt 25) (tt 27))), dl 16 (oo 29 (.pick (tt 23) (cb  true) (tt 28))), dl 17 (oo 30 (.mv (tt 29))), dl 18 (og 31 30 false (.fa 2 (tt 4))), dl 19 (og 32 30 false (.ld (tt 31))), dh 20 [14, 12, 7, 5, 1] (og 33 30 false (.call (ff 122) [tt 32, (ci 1), (ci 9)])), dl 21 (og 34 30 false (.un .not (tt 33))), dl 22 (oo 35 (.pick (tt 30) (cb  true) (tt 34))), dl 23 (oo 36 (.mv (tt 35))), dl 24 (og 37 36 false (.mv (tt 3))), dl 25 (og 38 36 false (.bin .gtr (tt 37) (ci 0))), dl 26 (og 39 36 false (.mv (tt 38))), dl 27 (og 40 39 true (.fa 1 (tt 1))), dl 28 (og 41 39 true (.ld (tt 40))), dl 29 (og 42 39 true (.mv (tt 3))), dl 30 (og 43 39 true (.bin .sub (tt 42) (ci 1))), dl 31 (og 44 39 true (.ia 3 (tt 41) (tt 43))), dl 32 (og 45 39 true (.ldn 3 (tt 44))), dl 33 (og 46 39 true (.ldn 3 (tt 4))), dh 34 [28, 19, 14, 12, 7, 5, 1] (og 47 39 true (.call (ff 217) [tt 45, tt 46])), dl 35 (og 48 39 true (.bin .geq (tt 47) (ci 0))), dl 36 (og 49 36 false (.pick (tt 39) (tt 48) (cb  false))), dl 37 (oo 50 (.pick (tt 36) (cb  true) (tt 49)))]
abbrev c_impl_ValidGraph_5 : List GOp := [oo 2 (.mv (cb  false))]
abbrev c_impl_ValidGraph_6 : List GOp := [oo 51 (.bin .add (tt 8) (ci 1)), oo 8 (.mv (tt 51))]
abbrev c_impl_ValidGraph_l0 : GCode := .seq (.reg c_impl_ValidGraph_2) (.seq (.cond (tt 9) (.skip) (.exit 0)) (.seq (.blk 1 (.seq (.reg c_impl_ValidGraph_3) (.seq (.dreg c_impl_ValidGraph_4) (.cond (tt 50) (.seq (.reg c_impl_ValidGraph_5) (.ret)) (.skip))))) (.reg c_impl_ValidGraph_6)))
abbrev c_impl_ValidGraph_8 : List GOp := [oo 52 (.fa 0 (tt 1)), oo 53 (.ld (tt 52)), oo 54 (.call (ff 122) [tt 53, (ci 1), (ci 12)]), oo 55 (.mv (tt 54)), og 56 55 true (.fa 1 (tt 1)), og 57 55 true (.ld (tt 56)), og 58 55 true (.len (tt 57)), og 59 55 true (.bin .leq (tt 58) (ci 24)), oo 60 (.pick (tt 55) (tt 59) (cb  false)), oo 2 (.mv (tt 60))]
abbrev c_impl_ValidGraph : GCode := .seq (.reg c_impl_ValidGraph_0) (.seq (.seq (.reg c_impl_ValidGraph_1) (.blk 0 (.loop c_impl_ValidGraph_l0))) (.seq (.reg c_impl_ValidGraph_8) (.ret)))
theorem c_impl_ValidGraph_d : decFn Try.prog Try.f141 = some (61, [.t 2], c_impl_ValidGraph) := by kernel_rfl
theorem c_impl_ValidGraph_i {args : List Value} {G : GH} {K : Value → GH → Prop} (hn : args.length ≤ 61) (h : gW Try.prog c_impl_ValidGraph (RetK [.t 2] K) (T0 args) G) : GC Try.prog 141 args G K := GC_intro mixed Try.func141 c_impl_ValidGraph_d hn h
abbrev c_impl_ValidPrime_0 : List GOp := [oo 2 (.mv (cb  false))]
abbrev c_impl_ValidPrime_1 : List GOp := [oo 4 (.mv (tt 0)), oo 5 (.call (ff 122) [tt 4, (ci 2), (ci 251)]), oo 6 (.un .not (tt 5))]
abbrev c_impl_ValidPrime_2 : List GOp := [oo 2 (.mv (cb  false))]
abbrev c_impl_ValidPrime_3 : List GOp := [oo 3 (.mv (ci 2))]
abbrev c_impl_ValidPrime_4 : List GOp := [oo 7 (.mv (tt 3)), oo 8 (.mv (tt 3)), oo 9 (.bin .mul (tt 7) (tt 8)), oo 10 (.mv (tt 0)), oo 11 (.bin .leq (tt 9) (tt 10))]
abbrev c_impl_ValidPrime_5 : List GOp := [oo 14 (.mv (tt 0)), oo 15 (.mv (tt 3)), oo 16 (.bin .rem (tt 14) (tt 15)), oo 17 (.bin .eql (tt 16) (ci 0))]
abbrev c_impl_ValidPrime_6 : List GOp := [oo 2 (.mv (cb  false))]
abbrev c_impl_ValidPrime_7 : List GOp := [oo 12 (.mv (tt 3)), oo 13 (.bin .add (tt 12) (ci 1)), oo 3 (.mv (tt 13))]
abbrev c_impl_ValidPrime_l0 : GCode := .seq (.seq (.reg c_impl_ValidPrime_4) (.cond (tt 11) (.skip) (.exit 0))) (.seq (.blk 1 (.seq (.reg c_impl_ValidPrime_5) (.cond (tt 17) (.seq (.reg c_impl_ValidPrime_6) (.ret)) (.skip)))) (.reg c_impl_ValidPrime_7))
abbrev c_impl_ValidPrime_9 : List GOp := [oo 2 (.mv (cb  true))]
abbrev c_impl_ValidPrime : GCode := .seq (.reg c_impl_ValidPrime_0) (.seq (.seq (.reg c_impl_ValidPrime_1) (.cond (tt 6) (.seq (.reg c_impl_ValidPrime_2) (.ret)) (.skip))) (.seq (.seq (.reg c_impl_ValidPrime_3) (.blk 0 (.loop c_impl_ValidPrime_l0))) (.seq (.reg c_impl_ValidPrime_9) (.ret))))
theorem c_impl_ValidPrime_d : decFn Try.prog Try.f225 = some (18, [.t 2], c_impl_ValidPrime) := by kernel_rfl
theorem c_impl_ValidPrime_i {args : List Value} {G : GH} {K : Value → GH → Prop} (hn : args.length ≤ 18) (h : gW Try.prog c_impl_ValidPrime (RetK [.t 2] K) (T0 args) G) : GC Try.prog 225 args G K := GC_intro mixed Try.func225 c_impl_ValidPrime_d hn h
abbrev c_impl_ValidVector_0 : List GOp := [oo 4 (.mv (cb  false))]
abbrev c_impl_ValidVector_1 : List GOp := [oo 5 (.mv (tt 1)), oo 6 (.call (ff 225) [tt 5]), oo 7 (.mv (tt 6)), og 8 7 true (.mv (tt 0)), og 9 7 true (.len (tt 8)), og 10 7 true (.bin .leq (tt 9) (ci 64)), oo 11 (.pick (tt 7) (tt 10) (cb  false)), oo 12 (.mv (tt 11)), og 13 12 true (.mv (tt 0)), og 14 12 true (.mv (tt 1)), og 15 12 true (.call (ff 216) [tt 13, tt 14]), oo 16 (.pick (tt 12) (tt 15) (cb  false)), oo 4 (.mv (tt 16))]
abbrev c_impl_ValidVector : GCode := .seq (.reg c_impl_ValidVector_0) (.seq (.reg c_impl_ValidVector_1) (.ret))
theorem c_impl_ValidVector_d : decFn Try.prog Try.f164 = some (17, [.t 4], c_impl_ValidVector) := by kernel_rfl
theorem c_impl_ValidVector_i {args : List Value} {G : GH} {K : Value → GH → Prop} (hn : args.length ≤ 17) (h : gW Try.prog c_impl_ValidVector (RetK [.t 4] K) (T0 args) G) : GC Try.prog 164 args G K := GC_intro mixed Try.func164 c_impl_ValidVector_d hn h
abbrev c_impl_addTimes_0 : List GOp := [oo 8 (.mv (.const (.slice none 0 0)))]
abbrev c_impl_addTimes_1 : List GOp := [oo 9 (.mv (.const (.slice none 0 0)))]
abbrev c_impl_addTimes_2 : List GOp := [oo 11 (.mv (tt 0)), oo 12 (.len (tt 11)), oo 13 (.mv (ci 0))]
abbrev c_impl_addTimes_3 : List GOp := [oo 14 (.bin .lss (tt 13) (tt 12))]
abbrev c_impl_addTimes_4 : List GOp := [oo 15 (.mv (tt 13)), oo 10 (.mv (tt 15))]
abbrev c_impl_addTimes_5 : List DOp := [dl 0 (oo 16 (.mv (tt 9))), dl 1 (oo 17 (.mv (tt 0))), dl 2 (oo 18 (.mv (tt 10))), dl 3 (oo 19 (.ia 1 (tt 17) (tt 18))), dl 4 (oo 20 (.ld (tt 19))), dl 5 (oo 21 (.mv (tt 2))), dl 6 (oo 22 (.mv (tt 1))), dl 7 (oo 23 (.mv (tt 10))), dl 8 (oo 24 (.ia 1 (tt 22) (tt 23))), dl 9 (oo 25 (.ld (tt 24))), dl 10 (oo 26 (.bin .mul (tt 21) (tt 25))), dl 11 (oo 27 (.bin .add (tt 20) (tt 26))), dl 12 (oo 28 (.mv (tt 3))), dl 13 (oo 29 (.bin .rem (tt 27) (tt 28))), dh 14 [9, 4] (oo 30 (.bs 1 [tt 29])), dh 15 [9, 4] (oo 31 (.ap 1 8 [.int .i64 0] (tt 16) (tt 30))), dl 16 (oo 9 (.mv (tt 31)))]
abbrev c_impl_addTimes_6 : List GOp := [oo 32 (.bin .add (tt 13) (ci 1)), oo 13 (.mv (tt 32))]
abbrev c_impl_addTimes_l0 : GCode := .seq (.reg c_impl_addTimes_3) (.seq (.cond (tt 14) (.skip) (.exit 0)) (.seq (.blk 1 (.seq (.reg c_impl_addTimes_4) (.dreg c_impl_addTimes_5))) (.reg c_impl_addTimes_6)))
abbrev c_impl_addTimes_8 : List GOp := [oo 33 (.mv (tt 9)), oo 8 (.mv (tt 33))]
abbrev c_impl_addTimes : GCode := .seq (.reg c_impl_addTimes_0) (.seq (.reg c_impl_addTimes_1) (.seq (.seq (.reg c_impl_addTimes_2) (.blk 0 (.loop c_impl_addTimes_l0))) (.seq (.reg c_impl_addTimes_8) (.ret))))
theorem c_impl_addTimes_d : decFn Try.prog Try.f255 = some (34, [.t 8], c_impl_addTimes) := by kernel_rfl
theorem c_impl_addTimes_i {args : List Value} {G : GH} {K : Value → GH → Prop} (hn : args.length ≤ 34) (h : gW Try.prog c_impl_addTimes (RetK [.t 8] K) (T0 args) G) : GC Try.prog 255 args G K := GC_intro mixed Try.func255 c_impl_addTimes_d hn h
abbrev c_impl_areElements_0 : List GOp := [oo 3 (.bx (tt 1)), oo 4 (.mv (cb  false))]
abbrev c_impl_areElements_1 : List GOp := [oo 5 (.mv (tt 0)), oo 6 (.mf (.func 247) [] [tt 3]), oo 7 (.call (ff 152) [tt 5, tt 6]), oo 8 (.un .not (tt 7)), oo 4 (.mv (tt 8))]
abbrev c_impl_areElements : GCode := .seq (.reg c_impl_areElements_0) (.seq (.reg c_impl_areElements_1) (.ret))
theorem c_impl_areElements_d : decFn Try.prog Try.f216 = some (9, [.t 4], c_impl_areElements) := by kernel_rfl
theorem c_impl_areElements_i {args : List Value} {G : GH} {K : Value → GH → Prop} (hn : args.length ≤ 9) (h : gW Try.prog c_impl_areElements (RetK [.t 4] K) (T0 args) G) : GC Try.prog 216 args G K := GC_intro mixed Try.func216 c_impl_areElements_d hn h
abbrev c_impl_areElements_fn1_0 : List GOp := [oo 3 (.mv (cb  false))]
abbrev c_impl_areElements_fn1_1 : List GOp := [oo 4 (.mv (tt 0)), oo 5 (.ld (tt 1)), oo 6 (.call (ff 180) [tt 4, tt 5]), oo 7 (.un .not (tt 6)), oo 3 (.mv (tt 7))]
abbrev c_impl_areElements_fn1 : GCode := .seq (.reg c_impl_areElements_fn1_0) (.seq (.reg c_impl_areElements_fn1_1) (.ret))
theorem c_impl_areElements_fn1_d : decFn Try.prog Try.f247 = some (8, [.t 3], c_impl_areElements_fn1) := by kernel_rfl
theorem c_impl_areElements_fn1_i {args : List Value} {G : GH} {K : Value → GH → Prop} (hn : args.length ≤ 8) (h : gW Try.prog c_impl_areElements_fn1 (RetK [.t 3] K) (T0 args) G) : GC Try.prog 247 args G K := GC_intro mixed Try.func247 c_impl_areElements_fn1_d hn h
abbrev c_impl_compareEdges_0 : List GOp := [oo 2 (.bx (tt 0)), oo 3 (.bx (tt 1)), oo 4 (.mv (ci 0))]
abbrev c_impl_compareEdges_1 : List DOp := [dl 0 (oo 5 (.fa 0 (tt 2))), dl 1 (oo 6 (.ld (tt 5))), dl 2 (oo 7 (.fa 0 (tt 3))), dl 3 (oo 8 (.ld (tt 7))), dl 5 (oo 10 (.fa 1 (tt 2))), dl 6 (oo 11 (.ld (tt 10))), dl 7 (oo 12 (.fa 1 (tt 3))), dl 8 (oo 13 (.ld (tt 12))), dh 4 [8, 6] (oo 9 (.call (ff 218) [tt 6, tt 8])), dh 9 [3, 1] (oo 14 (.call (ff 218) [tt 11, tt 13])), dh 10 [8, 6, 3, 1] (oo 15 (.bs 1 [tt 9, tt 14])), dh 11 [8, 6, 3, 1] (oo 16 (.call (ff 241) [tt 15])), dl 12 (oo 4 (.mv (tt 16)))]
abbrev c_impl_compareEdges : GCode := .seq (.reg c_impl_compareEdges_0) (.seq (.dreg c_impl_compareEdges_1) (.ret))
theorem c_impl_compareEdges_d : decFn Try.prog Try.f217 = some (17, [.t 4], c_impl_compareEdges) := by kernel_rfl
theorem c_impl_compareEdges_i {args : List Value} {G : GH} {K : Value → GH → Prop} (hn : args.length ≤ 17) (h : gW Try.prog c_impl_compareEdges (RetK [.t 4] K) (T0 args) G) : GC Try.prog 217 args G K := GC_intro mixed Try.func217 c_impl_compareEdges_d hn h
abbrev c_impl_cutWeight_0 : List GOp := [oo 2 (.bx (tt 0)), oo 4 (.mv (ci 0))]
abbrev c_impl_cutWeight_1 : List GOp := [oo 5 (.mv (ci 0))]
abbrev c_impl_cutWeight_2 : List GOp := [oo 8 (.fa 1 (tt 2)), oo 9 (.ld (tt 8)), oo 10 (.len (tt 9)), oo 11 (.mv (ci 0))]
abbrev c_impl_cutWeight_3 : List GOp := [oo 12 (.bin .lss (tt 11) (tt 10))]
abbrev c_impl_cutWeight_4 : List GOp := [oo 13 (.ia 3 (tt 9) (tt 11)), oo 14 (.ldn 3 (tt 13)), oo 7 (.al [.int .i64 0, .int .i64 0, .int .i64 0]), on (.st 3 (tt 7) (tt 14))]
abbrev c_impl_cutWeight_5 : List DOp := [dl 0 (oo 15 (.mv (tt 1))), dl 1 (oo 16 (.fa 0 (tt 7))), dl 2 (oo 17 (.ld (tt 16))), dl 4 (oo 19 (.mv (tt 1))), dl 5 (oo 20 (.fa 1 (tt 7))), dl 6 (oo 21 (.ld (tt 20))), dh 3 [6] (oo 18 (.call (ff 137) [tt 15, tt 17])), dh 7 [2] (oo 22 (.call (ff 137) [tt 19, tt 21])), dl 8 (oo 23 (.eqb true (tt 18) (tt 22)))]
abbrev c_impl_cutWeight_6 : List GOp := [oo 24 (.mv (tt 5)), oo 25 (.fa 2 (tt 7)), oo 26 (.ld (tt 25)), oo 27 (.bin .add (tt 24) (tt 26)), oo 5 (.mv (tt 27))]
abbrev c_impl_cutWeight_7 : List GOp := [oo 28 (.bin .add (tt 11) (ci 1)), oo 11 (.mv (tt 28))]
abbrev c_impl_cutWeight_l0 : GCode := .seq (.reg c_impl_cutWeight_3) (.seq (.cond (tt 12) (.skip) (.exit 0)) (.seq (.blk 1 (.seq (.reg c_impl_cutWeight_4) (.seq (.dreg c_impl_cutWeight_5) (.cond (tt 23) (.reg c_impl_cutWeight_6) (.skip))))) (.reg c_impl_cutWeight_7)))
abbrev c_impl_cutWeight_9 : List GOp := [oo 29 (.mv (tt 5)), oo 4 (.mv (tt 29))]
abbrev c_impl_cutWeight : GCode := .seq (.reg c_impl_cutWeight_0) (.seq (.reg c_impl_cutWeight_1) (.seq (.seq (.reg c_impl_cutWeight_2) (.blk 0 (.loop c_impl_cutWeight_l0))) (.seq (.reg c_impl_cutWeight_9) (.ret))))
theorem c_impl_cutWeight_d : decFn Try.prog Try.f143 = some (30, [.t 4], c_impl_cutWeight) := by kernel_rfl
theorem c_impl_cutWeight_i {args : List Value} {G : GH} {K : Value → GH → Prop} (hn : args.length ≤ 30) (h : gW Try.prog c_impl_cutWeight (RetK [.t 4] K) (T0 args) G) : GC Try.prog 143 args G K := GC_intro mixed Try.func143 c_impl_cutWeight_d hn h
abbrev c_impl_eliminate_0 : List GOp := [oo 6 (.mv (.const (.slice none 0 0))), oo 7 (.mv (ci 0))]
abbrev c_impl_eliminate_1 : List GOp := [oo 8 (.mv (.const (.slice none 0 0)))]
abbrev c_impl_eliminate_2 : List GOp := [oo 9 (.mv (ci 1))]
abbrev c_impl_eliminate_3 : List GOp := [oo 16 (.mv (tt 1)), oo 17 (.mv (ci 0))]
abbrev c_impl_eliminate_4 : List GOp := [oo 18 (.bin .lss (tt 17) (tt 16))]
abbrev c_impl_eliminate_5 : List GOp := [oo 19 (.mv (tt 17)), oo 10 (.al [.int .i64 0]), on (.st 1 (tt 10) (tt 19))]
abbrev c_impl_eliminate_6 : List GOp := [oo 20 (.mv (tt 8)), oo 21 (.len (tt 20)), oo 11 (.mv (tt 21))]
abbrev c_impl_eliminate_7 : List GOp := [oo 22 (.mv (tt 0)), oo 23 (.mv (tt 11)), oo 24 (.sl 1 (tt 22) (some (tt 23)) none), oo 25 (.mf (.func 254) [] [tt 10]), oo 26 (.call (ff 253) [tt 24, tt 25]), oo 12 (.mv (tt 26))]
abbrev c_impl_eliminate_8 : List GOp := [oo 27 (.mv (tt 12)), oo 28 (.bin .lss (tt 27) (ci 0))]
abbrev c_impl_eliminate_9 : List GOp := [oo 9 (.mv (ci 0))]
abbrev c_impl_eliminate_10 : List GOp := [oo 29 (.mv (tt 12)), oo 30 (.bin .gtr (tt 29) (ci 0))]
abbrev c_impl_eliminate_11 : List DOp := [dl 0 (oo 31 (.mv (tt 0))), dl 1 (oo 32 (.mv (tt 11))), dl 2 (oo 33 (.mv (tt 0))), dl 3 (oo 34 (.mv (tt 11))), dl 4 (oo 35 (.mv (tt 12))), dl 5 (oo 36 (.bin .add (tt 34) (tt 35))), dl 6 (oo 37 (.mv (tt 0))), dl 7 (oo 38 (.mv (tt 11))), dl 8 (oo 39 (.mv (tt 12))), dl 9 (oo 40 (.bin .add (tt 38) (tt 39))), dl 10 (oo 41 (.ia 1 (tt 37) (tt 40))), dl 11 (oo 42 (.ld (tt 41))), dl 12 (oo 43 (.mv (tt 0))), dl 13 (oo 44 (.mv (tt 11))), dl 14 (oo 45 (.ia 1 (tt 43) (tt 44))), dl 15 (oo 46 (.ld (tt 45))), dl 16 (oo 47 (.ia 1 (tt 31) (tt 32))), dh 17 [] (on (.st 1 (tt 47) (tt 42))), dl 18 (oo 48 (.ia 1 (tt 33) (tt 36))), dh 19 [] (on (.st 1 (tt 48) (tt 46)))]
abbrev c_impl_eliminate_12 : List GOp := [oo 49 (.mv (tt 9)), oo 50 (.un .neg (tt 49)), oo 51 (.mv (tt 2)), oo 52 (.call (ff 165) [tt 50, tt 51]), oo 9 (.mv (tt 52))]
abbrev c_impl_eliminate_13 : List DOp := [dl 0 (oo 53 (.mv (tt 0))), dl 1 (oo 54 (.mv (tt 11))), dl 2 (oo 55 (.ia 1 (tt 53) (tt 54))), dl 3 (oo 56 (.ld (tt 55))), dl 4 (oo 57 (.ld (tt 10))), dl 5 (oo 58 (.ia 1 (tt 56) (tt 57))), dl 6 (oo 59 (.ld (tt 58))), dl 7 (oo 13 (.mv (tt 59)))]
abbrev c_impl_eliminate_14 : List GOp := [oo 60 (.mv (tt 9)), oo 61 (.mv (tt 13)), oo 62 (.bin .mul (tt 60) (tt 61)), oo 63 (.mv (tt 2)), oo 64 (.bin .rem (tt 62) (tt 63)), oo 9 (.mv (tt 64))]
abbrev c_impl_eliminate_15 : DT := (.path [dl 0 (oo 65 (.mv (tt 0)))] (.path [dl 1 (oo 66 (.mv (tt 11)))] (.path [dl 2 (oo 67 (.mv (tt 1)))] (.path [dl 4 (oo 69 (.mv (tt 0)))] (.path [dl 5 (oo 70 (.mv (tt 11)))] (.path [dl 6 (oo 71 (.ia 1 (tt 69) (tt 70)))] (.path [dl 7 (oo 72 (.ld (tt 71)))] (.path [dl 8 (oo 73 (.mv (tt 13)))] (.path [dl 9 (oo 74 (.mv (tt 2)))] (.path [dl 11 (oo 76 (.mv (tt 2)))] (.both (.path [dh 3 [7] (oo 68 (.mk 1 8 [.int .i64 0] (tt 67) (tt 67)))] (.path [dh 10 [7] (oo 75 (.call (ff 236) [tt 73, tt 74]))] (.path [dh 12 [] (oo 77 (.call (ff 255) [tt 68, tt 72, tt 75, tt 76]))] (.path [dl 13 (oo 78 (.ia 1 (tt 65) (tt 66)))] (.path [dh 14 [] (on (.st 1 (tt 78) (tt 77)))] .fin))))) (.path [dh 10 [7] (oo 75 (.call (ff 236) [tt 73, tt 74]))] (.path [dh 3 [7] (oo 68 (.mk 1 8 [.int .i64 0] (tt 67) (tt 67)))] (.path [dh 12 [] (oo 77 (.call (ff 255) [tt 68, tt 72, tt 75, tt 76]))] (.path [dl 13 (oo 78 (.ia 1 (tt 65) (tt 66)))] (.path [dh 14 [] (on (.st 1 (tt 78) (tt 77)))] .fin))))))))))))))))
abbrev c_impl_eliminate_16 : List GOp := [oo 79 (.mv (tt 0)), oo 80 (.len (tt 79)), oo 81 (.mv (ci 0))]
abbrev c_impl_eliminate_17 : List GOp := [oo 82 (.bin .lss (tt 81) (tt 80))]
abbrev c_impl_eliminate_18 : List GOp := [oo 83 (.mv (tt 81)), oo 84 (.ia 1 (tt 79) (tt 81)), oo 85 (.ld (tt 84)), oo 14 (.mv (tt 83)), oo 15 (.mv (tt 85))]
abbrev c_impl_eliminate_19 : List GOp := [oo 86 (.mv (tt 14)), oo 87 (.mv (tt 11)), oo 88 (.bin .neq (tt 86) (tt 87)), oo 89 (.mv (tt 88)), og 90 89 true (.mv (tt 15)), og 91 89 true (.ld (tt 10)), og 92 89 true (.ia 1 (tt 90) (tt 91)), og 93 89 true (.ld (tt 92)), og 94 89 true (.bin .neq (tt 93) (ci 0)), oo 95 (.pick (tt 89) (tt 94) (cb  false))]
abbrev c_impl_eliminate_20 : List DOp := [dl 0 (oo 96 (.mv (tt 0))), dl 1 (oo 97 (.mv (tt 14))), dl 2 (oo 98 (.mv (tt 15))), dl 3 (oo 99 (.mv (tt 0))), dl 4 (oo 100 (.mv (tt 11))), dl 5 (oo 101 (.ia 1 (tt 99) (tt 100))), dl 6 (oo 102 (.ld (tt 101))), dl 7 (oo 103 (.mv (tt 2))), dl 8 (oo 104 (.mv (tt 15))), dl 9 (oo 105 (.ld (tt 10))), dl 10 (oo 106 (.ia 1 (tt 104) (tt 105))), dl 11 (oo 107 (.ld (tt 106))), dl 12 (oo 108 (.bin .sub (tt 103) (tt 107))), dl 13 (oo 109 (.mv (tt 2))), dh 14 [11, 9] (oo 110 (.call (ff 255) [tt 98, tt 102, tt 108, tt 109])), dl 15 (oo 111 (.ia 1 (tt 96) (tt 97))), dh 16 [] (on (.st 1 (tt 111) (tt 110)))]
abbrev c_impl_eliminate_21 : List GOp := [oo 112 (.bin .add (tt 81) (ci 1)), oo 81 (.mv (tt 112))]
abbrev c_impl_eliminate_l0 : GCode := .seq (.reg c_impl_eliminate_17) (.seq (.cond (tt 82) (.skip) (.exit 2)) (.seq (.blk 3 (.seq (.reg c_impl_eliminate_18) (.seq (.reg c_impl_eliminate_19) (.cond (tt 95) (.dreg c_impl_eliminate_20) (.skip))))) (.reg c_impl_eliminate_21)))
abbrev c_impl_eliminate_23 : List GOp := [oo 113 (.mv (tt 8)), oo 114 (.ld (tt 10)), oo 115 (.bs 1 [tt 114]), oo 116 (.ap 1 8 [.int .i64 0] (tt 113) (tt 115)), oo 8 (.mv (tt 116))]
abbrev c_impl_eliminate_24 : List GOp := [oo 117 (.bin .add (tt 17) (ci 1)), oo 17 (.mv (tt 117))]
abbrev c_impl_eliminate_l1 : GCode := .seq (.reg c_impl_eliminate_4) (.seq (.cond (tt 18) (.skip) (.exit 0)) (.seq (.blk 1 (.seq (.reg c_impl_eliminate_5) (.seq (.reg c_impl_eliminate_6) (.seq (.reg c_impl_eliminate_7) (.seq (.seq (.reg c_impl_eliminate_8) (.cond (tt 28) (.seq (.reg c_impl_eliminate_9) (.exit 1)) (.skip))) (.seq (.seq (.reg c_impl_eliminate_10) (.cond (tt 30) (.seq (.dreg c_impl_eliminate_11) (.reg c_impl_eliminate_12)) (.skip))) (.seq (.dreg c_impl_eliminate_13) (.seq (.reg c_impl_eliminate_14) (.seq (.dtree c_impl_eliminate_15) (.seq (.seq (.reg c_impl_eliminate_16) (.blk 2 (.loop c_impl_eliminate_l0))) (.reg c_impl_eliminate_23))))))))))) (.reg c_impl_eliminate_24)))
abbrev c_impl_eliminate_26 : List GOp := [oo 118 (.mv (tt 8)), oo 119 (.mv (tt 9)), oo 6 (.mv (tt 118)), oo 7 (.mv (tt 119))]
abbrev c_impl_eliminate : GCode := .seq (.reg c_impl_eliminate_0) (.seq (.reg c_impl_eliminate_1) (.seq (.reg c_impl_eliminate_2) (.seq (.seq (.reg c_impl_eliminate_3) (.blk 0 (.loop c_impl_eliminate_l1))) (.seq (.reg c_impl_eliminate_26) (.ret)))))
theorem c_impl_eliminate_d : decFn Try.prog Try.f231 = some (120, [.t 6, .t 7], c_impl_eliminate) := by kernel_rfl
theorem c_impl_eliminate_i {args : List Value} {G : GH} {K : Value → GH → Prop} (hn : args.length ≤ 120) (h : gW Try.prog c_impl_eliminate (RetK [.t 6, .t 7] K) (T0 args) G) : GC Try.prog 231 args G K := GC_intro mixed Try.func231 c_impl_eliminate_d hn h
abbrev c_impl_eliminate_fn1_0 : List GOp := [oo 3 (.mv (cb  false))]
abbrev c_impl_eliminate_fn1_1 : List GOp := [oo 4 (.mv (tt 0)), oo 5 (.ld (tt 1)), oo 6 (.ia 1 (tt 4) (tt 5)), oo 7 (.ld (tt 6)), oo 8 (.bin .neq (tt 7) (ci 0)), oo 3 (.mv (tt 8))]
abbrev c_impl_eliminate_fn1 : GCode := .seq (.reg c_impl_eliminate_fn1_0) (.seq (.reg c_impl_eliminate_fn1_1) (.ret))
theorem c_impl_eliminate_fn1_d : decFn Try.prog Try.f254 = some (9, [.t 3], c_impl_eliminate_fn1) := by kernel_rfl
theorem c_impl_eliminate_fn1_i {args : List Value} {G : GH} {K : Value → GH → Prop} (hn : args.length ≤ 9) (h : gW Try.prog c_impl_eliminate_fn1 (RetK [.t 3] K) (T0 args) G) : GC Try.prog 254 args G K := GC_intro mixed Try.func254 c_impl_eliminate_fn1_d hn h
abbrev c_impl_filled_0 : List GOp := [oo 8 (.al [.int .i64 0, .int .i64 0, .int .i64 0, .slice none 0 0])]
abbrev c_impl_filled_1 : List GOp := [oo 12 (.mv (tt 0)), oo 13 (.mv (tt 1)), oo 14 (.mv (tt 2)), oo 15 (.bld [.int .i64 0, .int .i64 0, .int .i64 0, .slice none 0 0] [(0, 1, (tt 12)), (1, 1, (tt 13)), (2, 1, (tt 14))]), oo 9 (.al [.int .i64 0, .int .i64 0, .int .i64 0, .slice none 0 0]), on (.st 4 (tt 9) (tt 15))]
abbrev c_impl_filled_2 : List GOp := [oo 16 (.mv (tt 1)), oo 17 (.mv (ci 0))]
abbrev c_impl_filled_3 : List GOp := [oo 18 (.bin .lss (tt 17) (tt 16))]
abbrev c_impl_filled_4 : List GOp := [oo 19 (.mv (tt 17)), oo 10 (.mv (tt 19))]
abbrev c_impl_filled_5 : List GOp := [oo 20 (.mv (tt 2)), oo 21 (.mv (ci 0))]
abbrev c_impl_filled_6 : List GOp := [oo 22 (.bin .lss (tt 21) (tt 20))]
abbrev c_impl_filled_7 : List GOp := [oo 23 (.mv (tt 21)), oo 11 (.mv (tt 23))]
abbrev c_impl_filled_8 : List DOp := [dl 0 (oo 24 (.fa 3 (tt 9))), dl 1 (oo 25 (.ld (tt 24))), dl 2 (oo 26 (.mv (tt 3))), dl 3 (oo 27 (.mv (tt 10))), dl 4 (oo 28 (.mv (tt 11))), dh 5 [1] (oo 29 (.call (tt 26) [tt 27, tt 28])), dh 6 [1] (oo 30 (.bs 1 [tt 29])), dh 7 [] (oo 31 (.ap 1 8 [.int .i64 0] (tt 25) (tt 30))), dl 8 (oo 32 (.fa 3 (tt 9))), dh 9 [] (on (.st 1 (tt 32) (tt 31)))]
abbrev c_impl_filled_9 : List GOp := [oo 33 (.bin .add (tt 21) (ci 1)), oo 21 (.mv (tt 33))]
abbrev c_impl_filled_l0 : GCode := .seq (.reg c_impl_filled_6) (.seq (.cond (tt 22) (.skip) (.exit 2)) (.seq (.blk 3 (.seq (.reg c_impl_filled_7) (.dreg c_impl_filled_8))) (.reg c_impl_filled_9)))
abbrev c_impl_filled_11 : List GOp := [oo 34 (.bin .add (tt 17) (ci 1)), oo 17 (.mv (tt 34))]
abbrev c_impl_filled_l1 : GCode := .seq (.reg c_impl_filled_3) (.seq (.cond (tt 18) (.skip) (.exit 0)) (.seq (.blk 1 (.seq (.reg c_impl_filled_4) (.seq (.reg c_impl_filled_5) (.blk 2 (.loop c_impl_filled_l0))))) (.reg c_impl_filled_11)))
abbrev c_impl_filled_13 : List GOp := [oo 35 (.ldn 4 (tt 9)), on (.st 4 (tt 8) (tt 35))]
abbrev c_impl_filled : GCode := .seq (.reg c_impl_filled_0) (.seq (.reg c_impl_filled_1) (.seq (.seq (.reg c_impl_filled_2) (.blk 0 (.loop c_impl_filled_l1))) (.seq (.reg c_impl_filled_13) (.ret))))
theorem c_impl_filled_d : decFn Try.prog Try.f226 = some (36, [.cn 8 4], c_impl_filled) := by kernel_rfl
theorem c_impl_filled_i {args : List Value} {G : GH} {K : Value → GH → Prop} (hn : args.length ≤ 36) (h : gW Try.prog c_impl_filled (RetK [.cn 8 4] K) (T0 args) G) : GC Try.prog 226 args G K := GC_intro mixed Try.func226 c_impl_filled_d hn h
abbrev c_impl_inverseOf_0 : List GOp := [oo 4 (.mv (ci 0))]
abbrev c_impl_inverseOf_1 : List GOp := [oo 5 (.mv (tt 0)), oo 6 (.mv (tt 1)), oo 7 (.bin .sub (tt 6) (ci 2)), oo 8 (.mv (tt 1)), oo 9 (.call (ff 256) [tt 5, tt 7, tt 8]), oo 4 (.mv (tt 9))]
abbrev c_impl_inverseOf : GCode := .seq (.reg c_impl_inverseOf_0) (.seq (.reg c_impl_inverseOf_1) (.ret))
theorem c_impl_inverseOf_d : decFn Try.prog Try.f236 = some (10, [.t 4], c_impl_inverseOf) := by kernel_rfl
theorem c_impl_inverseOf_i {args : List Value} {G : GH} {K : Value → GH → Prop} (hn : args.length ≤ 10) (h : gW Try.prog c_impl_inverseOf (RetK [.t 4] K) (T0 args) G) : GC Try.prog 236 args G K := GC_intro mixed Try.func236 c_impl_inverseOf_d hn h
abbrev c_impl_isElement_0 : List GOp := [oo 4 (.mv (cb  false))]
abbrev c_impl_isElement_1 : List GOp := [oo 5 (.mv (tt 0)), oo 6 (.mv (tt 1)), oo 7 (.bin .sub (tt 6) (ci 1)), oo 8 (.call (ff 122) [tt 5, (ci 0), tt 7]), oo 4 (.mv (tt 8))]
abbrev c_impl_isElement : GCode := .seq (.reg c_impl_isElement_0) (.seq (.reg c_impl_isElement_1) (.ret))
theorem c_impl_isElement_d : decFn Try.prog Try.f180 = some (9, [.t 4], c_impl_isElement) := by kernel_rfl
theorem c_impl_isElement_i {args : List Value} {G : GH} {K : Value → GH → Prop} (hn : args.length ≤ 9) (h : gW Try.prog c_impl_isElement (RetK [.t 4] K) (T0 args) G) : GC Try.prog 180 args G K := GC_intro mixed Try.func180 c_impl_isElement_d hn h
abbrev c_impl_isRising_0 : List GOp := [oo 2 (.mv (cb  false))]
abbrev c_impl_isRising_1 : List GOp := [oo 3 (.mv (ci 1))]
abbrev c_impl_isRising_2 : List GOp := [oo 4 (.mv (tt 3)), oo 5 (.mv (tt 0)), oo 6 (.len (tt 5)), oo 7 (.bin .lss (tt 4) (tt 6))]
abbrev c_impl_isRising_3 : List DOp := [dl 0 (oo 10 (.mv (tt 0))), dl 1 (oo 11 (.mv (tt 3))), dl 2 (oo 12 (.bin .sub (tt 11) (ci 1))), dl 3 (oo 13 (.ia 1 (tt 10) (tt 12))), dl 4 (oo 14 (.ld (tt 13))), dl 5 (oo 15 (.mv (tt 0))), dl 6 (oo 16 (.mv (tt 3))), dl 7 (oo 17 (.ia 1 (tt 15) (tt 16))), dl 8 (oo 18 (.ld (tt 17))), dl 9 (oo 19 (.bin .geq (tt 14) (tt 18)))]
abbrev c_impl_isRising_4 : List GOp := [oo 2 (.mv (cb  false))]
abbrev c_impl_isRising_5 : List GOp := [oo 8 (.mv (tt 3)), oo 9 (.bin .add (tt 8) (ci 1)), oo 3 (.mv (tt 9))]
abbrev c_impl_isRising_l0 : GCode := .seq (.seq (.reg c_impl_isRising_2) (.cond (tt 7) (.skip) (.exit 0))) (.seq (.blk 1 (.seq (.dreg c_impl_isRising_3) (.cond (tt 19) (.seq (.reg c_impl_isRising_4) (.ret)) (.skip)))) (.reg c_impl_isRising_5))
abbrev c_impl_isRising_7 : List GOp := [oo 2 (.mv (cb  true))]
abbrev c_impl_isRising : GCode := .seq (.reg c_impl_isRising_0) (.seq (.seq (.reg c_impl_isRising_1) (.blk 0 (.loop c_impl_isRising_l0))) (.seq (.reg c_impl_isRising_7) (.ret)))
theorem c_impl_isRising_d : decFn Try.prog Try.f215 = some (20, [.t 2], c_impl_isRising) := by kernel_rfl
theorem c_impl_isRising_i {args : List Value} {G : GH} {K : Value → GH → Prop} (hn : args.length ≤ 20) (h : gW Try.prog c_impl_isRising (RetK [.t 2] K) (T0 args) G) : GC Try.prog 215 args G K := GC_intro mixed Try.func215 c_impl_isRising_d hn h
abbrev c_impl_isSet_0 : List GOp := [oo 2 (.bx (tt 0)), oo 4 (.mv (cb  false))]
abbrev c_impl_isSet_1 : List GOp := [oo 5 (.mv (tt 1)), oo 6 (.call (ff 215) [tt 5]), oo 7 (.mv (tt 6)), og 8 7 true (.mv (tt 1)), og 9 7 true (.fa 0 (tt 2)), og 10 7 true (.ld (tt 9)), og 11 7 true (.call (ff 216) [tt 8, tt 10]), oo 12 (.pick (tt 7) (tt 11) (cb  false)), oo 4 (.mv (tt 12))]
abbrev c_impl_isSet : GCode := .seq (.reg c_impl_isSet_0) (.seq (.reg c_impl_isSet_1) (.ret))
theorem c_impl_isSet_d : decFn Try.prog Try.f135 = some (13, [.t 4], c_impl_isSet) := by kernel_rfl
theorem c_impl_isSet_i {args : List Value} {G : GH} {K : Value → GH → Prop} (hn : args.length ≤ 13) (h : gW Try.prog c_impl_isSet (RetK [.t 4] K) (T0 args) G) : GC Try.prog 135 args G K := GC_intro mixed Try.func135 c_impl_isSet_d hn h
abbrev c_impl_laplacian_0 : List GOp := [oo 1 (.bx (tt 0)), oo 2 (.mv (.const (.slice none 0 0)))]
abbrev c_impl_laplacian_1 : List GOp := [oo 7 (.fa 0 (tt 1)), oo 8 (.ld (tt 7)), oo 9 (.mk 1 24 [.slice none 0 0] (tt 8) (tt 8)), oo 3 (.mv (tt 9))]
abbrev c_impl_laplacian_2 : List GOp := [oo 10 (.mv (tt 3)), oo 11 (.len (tt 10)), oo 12 (.mv (ci 0))]
abbrev c_impl_laplacian_3 : List GOp := [oo 13 (.bin .lss (tt 12) (tt 11))]
abbrev c_impl_laplacian_4 : List GOp := [oo 14 (.mv (tt 12)), oo 4 (.mv (tt 14))]
abbrev c_impl_laplacian_5 : List GOp := [oo 15 (.mv (tt 3)), oo 16 (.mv (tt 4)), oo 17 (.fa 0 (tt 1)), oo 18 (.ld (tt 17)), oo 19 (.mk 1 8 [.int .i64 0] (tt 18) (tt 18)), oo 20 (.ia 1 (tt 15) (tt 16)), on (.st 1 (tt 20) (tt 19))]
abbrev c_impl_laplacian_6 : List GOp := [oo 21 (.bin .add (tt 12) (ci 1)), oo 12 (.mv (tt 21))]
abbrev c_impl_laplacian_l0 : GCode := .seq (.reg c_impl_laplacian_3) (.seq (.cond (tt 13) (.skip) (.exit 0)) (.seq (.blk 1 (.seq (.reg c_impl_laplacian_4) (.reg c_impl_laplacian_5))) (.reg c_impl_laplacian_6)))
abbrev c_impl_laplacian_8 : List GOp := [oo 22 (.fa 1 (tt 1)), oo 23 (.ld (tt 22)), oo 24 (.len (tt 23)), oo 25 (.mv (ci 0))]
abbrev c_impl_laplacian_9 : List GOp := [oo 26 (.bin .lss (tt 25) (tt 24))]
abbrev c_impl_laplacian_10 : List GOp := [oo 27 (.ia 3 (tt 23) (tt 25)), oo 28 (.ldn 3 (tt 27)), oo 6 (.al [.int .i64 0, .int .i64 0, .int .i64 0]), on (.st 3 (tt 6) (tt 28))]
abbrev c_impl_laplacian_11 : List DOp := [dl 0 (oo 29 (.mv (tt 3))), dl 1 (oo 30 (.fa 0 (tt 6))), dl 2 (oo 31 (.ld (tt 30))), dl 3 (oo 32 (.ia 1 (tt 29) (tt 31))), dl 4 (oo 33 (.ld (tt 32))), dl 5 (oo 34 (.fa 0 (tt 6))), dl 6 (oo 35 (.ld (tt 34))), dl 7 (oo 36 (.ia 1 (tt 33) (tt 35))), dl 8 (oo 37 (.ld (tt 36))), dl 9 (oo 38 (.fa 2 (tt 6))), dl 10 (oo 39 (.ld (tt 38))), dl 11 (oo 40 (.bin .add (tt 37) (tt 39))), dl 12 (oo 41 (.ia 1 (tt 33) (tt 35))), dh 13 [] (on (.st 1 (tt 41) (tt 40)))]
abbrev c_impl_laplacian_12 : List DOp := [dl 0 (oo 42 (.mv (tt 3))), dl 1 (oo 43 (.fa 1 (tt 6))), dl 2 (oo 44 (.ld (tt 43))), dl 3 (oo 45 (.ia 1 (tt 42) (tt 44))), dl 4 (oo 46 (.ld (tt 45))), dl 5 (oo 47 (.fa 1 (tt 6))), dl 6 (oo 48 (.ld (tt 47))), dl 7 (oo 49 (.ia 1 (tt 46) (tt 48))), dl 8 (oo 50 (.ld (tt 49))), dl 9 (oo 51 (.fa 2 (tt 6))), dl 10 (oo 52 (.ld (tt 51))), dl 11 (oo 53 (.bin .add (tt 50) (tt 52))), dl 12 (oo 54 (.ia 1 (tt 46) (tt 48))), dh 13 [] (on (.st 1 (tt 54) (tt 53)))]
abbrev c_impl_laplacian_13 : List DOp := [dl 0 (oo 55 (.mv (tt 3))), dl 1 (oo 56 (.fa 0 (tt 6))), dl 2 (oo 57 (.ld (tt 56))), dl 3 (oo 58 (.ia 1 (tt 55) (tt 57))), dl 4 (oo 59 (.ld (tt 58))), dl 5 (oo 60 (.fa 1 (tt 6))), dl 6 (oo 61 (.ld (tt 60))), dl 7 (oo 62 (.fa 2 (tt 6))), dl 8 (oo 63 (.ld (tt 62))), dl 9 (oo 64 (.un .neg (tt 63))), dl 10 (oo 65 (.ia 1 (tt 59) (tt 61))), dh 11 [] (on (.st 1 (tt 65) (tt 64)))]
abbrev c_impl_laplacian_14 : List DOp := [dl 0 (oo 66 (.mv (tt 3))), dl 1 (oo 67 (.fa 1 (tt 6))), dl 2 (oo 68 (.ld (tt 67))), dl 3 (oo 69 (.ia 1 (tt 66) (tt 68))), dl 4 (oo 70 (.ld (tt 69))), dl 5 (oo 71 (.fa 0 (tt 6))), dl 6 (oo 72 (.ld (tt 71))), dl 7 (oo 73 (.fa 2 (tt 6))), dl 8 (oo 74 (.ld (tt 73))), dl 9 (oo 75 (.un .neg (tt 74))), dl 10 (oo 76 (.ia 1 (tt 70) (tt 72))), dh 11 [] (on (.st 1 (tt 76) (tt 75)))]
abbrev c_impl_laplacian_15 : List GOp := [oo 77 (.bin .add (tt 25) (ci 1)), oo 25 (.mv (tt 77))]
abbrev c_impl_laplacian_l1 : GCode := .seq (.reg c_impl_laplacian_9) (.seq (.cond (tt 26) (.skip) (.exit 2)) (.seq (.blk 3 (.seq (.reg c_impl_laplacian_10) (.seq (.dreg c_impl_laplacian_11) (.seq (.dreg c_impl_laplacian_12) (.seq (.dreg c_impl_laplacian_13) (.dreg c_impl_laplacian_14)))))) (.reg c_impl_laplacian_15)))
abbrev c_impl_laplacian_17 : List GOp := [oo 78 (.mv (tt 3)), oo 2 (.mv (tt 78))]
abbrev c_impl_laplacian : GCode := .seq (.reg c_impl_laplacian_0) (.seq (.reg c_impl_laplacian_1) (.seq (.seq (.reg c_impl_laplacian_2) (.blk 0 (.loop c_impl_laplacian_l0))) (.seq (.seq (.reg c_impl_laplacian_8) (.blk 2 (.loop c_impl_laplacian_l1))) (.seq (.reg c_impl_laplacian_17) (.ret)))))
theorem c_impl_laplacian_d : decFn Try.prog Try.f148 = some (79, [.t 2], c_impl_laplacian) := by kernel_rfl
theorem c_impl_laplacian_i {args : List Value} {G : GH} {K : Value → GH → Prop} (hn : args.length ≤ 79) (h : gW Try.prog c_impl_laplacian (RetK [.t 2] K) (T0 args) G) : GC Try.prog 148 args G K := GC_intro mixed Try.func148 c_impl_laplacian_d hn h
abbrev c_impl_matrixOf_0 : List GOp := [oo 6 (.al [.int .i64 0, .int .i64 0, .int .i64 0, .slice none 0 0])]
abbrev c_impl_matrixOf_1 : List GOp := [oo 7 (.mv (tt 0)), oo 8 (.mv (tt 2)), oo 9 (.call (ff 228) [tt 8]), oo 10 (.mv (tt 1)), oo 11 (.mv (tt 2)), oo 12 (.call (ff 229) [tt 11]), oo 13 (.bld [.int .i64 0, .int .i64 0, .int .i64 0, .slice none 0 0] [(0, 1, (tt 7)), (1, 1, (tt 9)), (2, 1, (tt 10)), (3, 1, (tt 12))]), on (.st 4 (tt 6) (tt 13))]
abbrev c_impl_matrixOf : GCode := .seq (.reg c_impl_matrixOf_0) (.seq (.reg c_impl_matrixOf_1) (.ret))
theorem c_impl_matrixOf_d : decFn Try.prog Try.f169 = some (14, [.cn 6 4], c_impl_matrixOf) := by kernel_rfl
theorem c_impl_matrixOf_i {args : List Value} {G : GH} {K : Value → GH → Prop} (hn : args.length ≤ 14) (h : gW Try.prog c_impl_matrixOf (RetK [.cn 6 4] K) (T0 args) G) : GC Try.prog 169 args G K := GC_intro mixed Try.func169 c_impl_matrixOf_d hn h
abbrev c_impl_members_0 : List GOp := [oo 2 (.mv (.const (.slice none 0 0)))]
abbrev c_impl_members_1 : List GOp := [oo 3 (.mv (.const (.slice none 0 0)))]
abbrev c_impl_members_2 : List GOp := [oo 4 (.mv (ci 0))]
abbrev c_impl_members_3 : List GOp := [oo 5 (.mv (tt 0)), oo 6 (.mv (tt 4)), oo 7 (.bin .shr (tt 5) (tt 6)), oo 8 (.bin .gtr (tt 7) (ci 0))]
abbrev c_impl_members_4 : List GOp := [oo 11 (.mv (tt 0)), oo 12 (.mv (tt 4)), oo 13 (.bin .shr (tt 11) (tt 12)), oo 14 (.bin .and (tt 13) (ci 1)), oo 15 (.bin .eql (tt 14) (ci 1))]
abbrev c_impl_members_5 : List GOp := [oo 16 (.mv (tt 3)), oo 17 (.mv (tt 4)), oo 18 (.bs 1 [tt 17]), oo 19 (.ap 1 8 [.int .i64 0] (tt 16) (tt 18)), oo 3 (.mv (tt 19))]
abbrev c_impl_members_6 : List GOp := [oo 9 (.mv (tt 4)), oo 10 (.bin .add (tt 9) (ci 1)), oo 4 (.mv (tt 10))]
abbrev c_impl_members_l0 : GCode := .seq (.seq (.reg c_impl_members_3) (.cond (tt 8) (.skip) (.exit 0))) (.seq (.blk 1 (.seq (.reg c_impl_members_4) (.cond (tt 15) (.reg c_impl_members_5) (.skip)))) (.reg c_impl_members_6))
abbrev c_impl_members_8 : List GOp := [oo 20 (.mv (tt 3)), oo 2 (.mv (tt 20))]
abbrev c_impl_members : GCode := .seq (.reg c_impl_members_0) (.seq (.reg c_impl_members_1) (.seq (.seq (.reg c_impl_members_2) (.blk 0 (.loop c_impl_members_l0))) (.seq (.reg c_impl_members_8) (.ret))))
theorem c_impl_members_d : decFn Try.prog Try.f142 = some (21, [.t 2], c_impl_members) := by kernel_rfl
theorem c_impl_members_i {args : List Value} {G : GH} {K : Value → GH → Prop} (hn : args.length ≤ 21) (h : gW Try.prog c_impl_members (RetK [.t 2] K) (T0 args) G) : GC Try.prog 142 args G K := GC_intro mixed Try.func142 c_impl_members_d hn h
abbrev c_impl_powerOf_0 : List GOp := [oo 6 (.mv (ci 0))]
abbrev c_impl_powerOf_1 : List GOp := [oo 7 (.mv (ci 1))]
abbrev c_impl_powerOf_2 : List GOp := [oo 8 (.mv (tt 1)), oo 9 (.bin .gtr (tt 8) (ci 0))]
abbrev c_impl_powerOf_3 : List GOp := [oo 12 (.mv (tt 1)), oo 13 (.bin .rem (tt 12) (ci 2)), oo 14 (.bin .eql (tt 13) (ci 1))]
abbrev c_impl_powerOf_4 : List GOp := [oo 15 (.mv (tt 7)), oo 16 (.mv (tt 0)), oo 17 (.bin .mul (tt 15) (tt 16)), oo 18 (.mv (tt 2)), oo 19 (.bin .rem (tt 17) (tt 18)), oo 7 (.mv (tt 19))]
abbrev c_impl_powerOf_5 : List GOp := [oo 20 (.mv (tt 0)), oo 21 (.mv (tt 0)), oo 22 (.bin .mul (tt 20) (tt 21)), oo 23 (.mv (tt 2)), oo 24 (.bin .rem (tt 22) (tt 23)), oo 0 (.mv (tt 24))]
abbrev c_impl_powerOf_6 : List GOp := [oo 10 (.mv (tt 1)), oo 11 (.bin .quo (tt 10) (ci 2)), oo 1 (.mv (tt 11))]
abbrev c_impl_powerOf_l0 : GCode := .seq (.seq (.reg c_impl_powerOf_2) (.cond (tt 9) (.skip) (.exit 0))) (.seq (.blk 1 (.seq (.seq (.reg c_impl_powerOf_3) (.cond (tt 14) (.reg c_impl_powerOf_4) (.skip))) (.reg c_impl_powerOf_5))) (.reg c_impl_powerOf_6))
abbrev c_impl_powerOf_8 : List GOp := [oo 25 (.mv (tt 7)), oo 6 (.mv (tt 25))]
abbrev c_impl_powerOf : GCode := .seq (.reg c_impl_powerOf_0) (.seq (.reg c_impl_powerOf_1) (.seq (.blk 0 (.loop c_impl_powerOf_l0)) (.seq (.reg c_impl_powerOf_8) (.ret))))
theorem c_impl_powerOf_d : decFn Try.prog Try.f256 = some (26, [.t 6], c_impl_powerOf) := by kernel_rfl
theorem c_impl_powerOf_i {args : List Value} {G : GH} {K : Value → GH → Prop} (hn : args.length ≤ 26) (h : gW Try.prog c_impl_powerOf (RetK [.t 6] K) (T0 args) G) : GC Try.prog 256 args G K := GC_intro mixed Try.func256 c_impl_powerOf_d hn h
abbrev c_impl_rank_0 : List GOp := [oo 1 (.bx (tt 0)), oo 2 (.mv (ci 0))]
abbrev c_impl_rank_1 : List DOp := [dl 0 (oo 6 (.ldn 4 (tt 1))), dl 2 (oo 8 (.fa 2 (tt 1))), dl 3 (oo 9 (.ld (tt 8))), dl 4 (oo 10 (.fa 0 (tt 1))), dl 5 (oo 11 (.ld (tt 10))), dh 1 [5, 3] (oo 7 (.call (ff 230) [tt 6])), dh 6 [0] (oo 12 (.call (ff 231) [tt 7, tt 9, tt 11])), dl 7 (oo 5 (.mv (tt 12))), dl 8 (oo 13 (.ex 0 (tt 5))), dl 9 (oo 14 (.ex 1 (tt 5))), dl 10 (oo 3 (.mv (tt 13))), dl 11 (oo 4 (.mv (tt 14)))]
abbrev c_impl_rank_2 : List GOp := [oo 15 (.mv (tt 3)), oo 16 (.call (ff 213) [tt 15]), oo 2 (.mv (tt 16))]
abbrev c_impl_rank : GCode := .seq (.reg c_impl_rank_0) (.seq (.dreg c_impl_rank_1) (.seq (.reg c_impl_rank_2) (.ret)))
theorem c_impl_rank_d : decFn Try.prog Try.f171 = some (17, [.t 2], c_impl_rank) := by kernel_rfl
theorem c_impl_rank_i {args : List Value} {G : GH} {K : Value → GH → Prop} (hn : args.length ≤ 17) (h : gW Try.prog c_impl_rank (RetK [.t 2] K) (T0 args) G) : GC Try.prog 171 args G K := GC_intro mixed Try.func171 c_impl_rank_d hn h
abbrev c_impl_reduce_0 : List GOp := [oo 4 (.mv (ci 0))]
abbrev c_impl_reduce_1 : List GOp := [oo 5 (.mv (tt 0)), oo 6 (.mv (tt 1)), oo 7 (.bin .rem (tt 5) (tt 6)), oo 8 (.mv (tt 1)), oo 9 (.bin .add (tt 7) (tt 8)), oo 10 (.mv (tt 1)), oo 11 (.bin .rem (tt 9) (tt 10)), oo 4 (.mv (tt 11))]
abbrev c_impl_reduce : GCode := .seq (.reg c_impl_reduce_0) (.seq (.reg c_impl_reduce_1) (.ret))
theorem c_impl_reduce_d : decFn Try.prog Try.f165 = some (12, [.t 4], c_impl_reduce) := by kernel_rfl
theorem c_impl_reduce_i {args : List Value} {G : GH} {K : Value → GH → Prop} (hn : args.length ≤ 12) (h : gW Try.prog c_impl_reduce (RetK [.t 4] K) (T0 args) G) : GC Try.prog 165 args G K := GC_intro mixed Try.func165 c_impl_reduce_d hn h
abbrev c_impl_rowsOf_0 : List GOp := [oo 1 (.bx (tt 0)), oo 2 (.mv (.const (.slice none 0 0)))]
abbrev c_impl_rowsOf_1 : List GOp := [oo 3 (.mv (.const (.slice none 0 0)))]
abbrev c_impl_rowsOf_2 : List GOp := [oo 5 (.fa 1 (tt 1)), oo 6 (.ld (tt 5)), oo 7 (.mv (ci 0))]
abbrev c_impl_rowsOf_3 : List GOp := [oo 8 (.bin .lss (tt 7) (tt 6))]
abbrev c_impl_rowsOf_4 : List GOp := [oo 9 (.mv (tt 7)), oo 4 (.mv (tt 9))]
abbrev c_impl_rowsOf_5 : List GOp := [oo 10 (.mv (tt 3)), oo 11 (.ldn 4 (tt 1)), oo 12 (.mv (tt 4)), oo 13 (.call (ff 168) [tt 11, tt 12]), oo 14 (.call (ff 123) [tt 13]), oo 15 (.bs 1 [tt 14]), oo 16 (.ap 1 24 [.slice none 0 0] (tt 10) (tt 15)), oo 3 (.mv (tt 16))]
abbrev c_impl_rowsOf_6 : List GOp := [oo 17 (.bin .add (tt 7) (ci 1)), oo 7 (.mv (tt 17))]
abbrev c_impl_rowsOf_l0 : GCode := .seq (.reg c_impl_rowsOf_3) (.seq (.cond (tt 8) (.skip) (.exit 0)) (.seq (.blk 1 (.seq (.reg c_impl_rowsOf_4) (.reg c_impl_rowsOf_5))) (.reg c_impl_rowsOf_6)))
abbrev c_impl_rowsOf_8 : List GOp := [oo 18 (.mv (tt 3)), oo 2 (.mv (tt 18))]
abbrev c_impl_rowsOf : GCode := .seq (.reg c_impl_rowsOf_0) (.seq (.reg c_impl_rowsOf_1) (.seq (.seq (.reg c_impl_rowsOf_2) (.blk 0 (.loop c_impl_rowsOf_l0))) (.seq (.reg c_impl_rowsOf_8) (.ret))))
theorem c_impl_rowsOf_d : decFn Try.prog Try.f230 = some (19, [.t 2], c_impl_rowsOf) := by kernel_rfl
theorem c_impl_rowsOf_i {args : List Value} {G : GH} {K : Value → GH → Prop} (hn : args.length ≤ 19) (h : gW Try.prog c_impl_rowsOf (RetK [.t 2] K) (T0 args) G) : GC Try.prog 230 args G K := GC_intro mixed Try.func230 c_impl_rowsOf_d hn h
abbrev c_impl_size_S_int64_0 : List GOp := [oo 2 (.mv (ci 0))]
abbrev c_impl_size_S_int64_1 : List GOp := [oo 3 (.mv (tt 0)), oo 4 (.len (tt 3)), oo 2 (.mv (tt 4))]
abbrev c_impl_size_S_int64 : GCode := .seq (.reg c_impl_size_S_int64_0) (.seq (.reg c_impl_size_S_int64_1) (.ret))
theorem c_impl_size_S_int64_d : decFn Try.prog Try.f228 = some (5, [.t 2], c_impl_size_S_int64) := by kernel_rfl
theorem c_impl_size_S_int64_i {args : List Value} {G : GH} {K : Value → GH → Prop} (hn : args.length ≤ 5) (h : gW Try.prog c_impl_size_S_int64 (RetK [.t 2] K) (T0 args) G) : GC Try.prog 228 args G K := GC_intro mixed Try.func228 c_impl_size_S_int64_d hn h
abbrev c_impl_size_int64_0 : List GOp := [oo 2 (.mv (ci 0))]
abbrev c_impl_size_int64_1 : List GOp := [oo 3 (.mv (tt 0)), oo 4 (.len (tt 3)), oo 2 (.mv (tt 4))]
abbrev c_impl_size_int64 : GCode := .seq (.reg c_impl_size_int64_0) (.seq (.reg c_impl_size_int64_1) (.ret))
theorem c_impl_size_int64_d : decFn Try.prog Try.f213 = some (5, [.t 2], c_impl_size_int64) := by kernel_rfl
theorem c_impl_size_int64_i {args : List Value} {G : GH} {K : Value → GH → Prop} (hn : args.length ≤ 5) (h : gW Try.prog c_impl_size_int64 (RetK [.t 2] K) (T0 args) G) : GC Try.prog 213 args G K := GC_intro mixed Try.func213 c_impl_size_int64_d hn h
abbrev c_impl_solve_0 : List GOp := [oo 2 (.bx (tt 0)), oo 4 (.mv (.const (.slice none 0 0))), oo 5 (.mv (cb  false))]
abbrev c_impl_solve_1 : List GOp := [oo 13 (.ldn 4 (tt 2)), oo 14 (.call (ff 230) [tt 13]), oo 6 (.mv (tt 14))]
abbrev c_impl_solve_2 : List GOp := [oo 15 (.mv (tt 6)), oo 16 (.len (tt 15)), oo 17 (.mv (ci 0))]
abbrev c_impl_solve_3 : List GOp := [oo 18 (.bin .lss (tt 17) (tt 16))]
abbrev c_impl_solve_4 : List GOp := [oo 19 (.mv (tt 17)), oo 7 (.mv (tt 19))]
abbrev c_impl_solve_5 : List DOp := [dl 0 (oo 20 (.mv (tt 6))), dl 1 (oo 21 (.mv (tt 7))), dl 2 (oo 22 (.mv (tt 6))), dl 3 (oo 23 (.mv (tt 7))), dl 4 (oo 24 (.ia 1 (tt 22) (tt 23))), dl 5 (oo 25 (.ld (tt 24))), dl 6 (oo 26 (.mv (tt 1))), dl 7 (oo 27 (.mv (tt 7))), dl 8 (oo 28 (.ia 1 (tt 26) (tt 27))), dl 9 (oo 29 (.ld (tt 28))), dh 10 [5] (oo 30 (.bs 1 [tt 29])), dh 11 [9] (oo 31 (.ap 1 8 [.int .i64 0] (tt 25) (tt 30))), dl 12 (oo 32 (.ia 1 (tt 20) (tt 21))), dh 13 [] (on (.st 1 (tt 32) (tt 31)))]
abbrev c_impl_solve_6 : List GOp := [oo 33 (.bin .add (tt 17) (ci 1)), oo 17 (.mv (tt 33))]
abbrev c_impl_solve_l0 : GCode := .seq (.reg c_impl_solve_3) (.seq (.cond (tt 18) (.skip) (.exit 0)) (.seq (.blk 1 (.seq (.reg c_impl_solve_4) (.dreg c_impl_solve_5))) (.reg c_impl_solve_6)))
abbrev c_impl_solve_8 : List GOp := [oo 35 (.mv (tt 6)), oo 36 (.fa 2 (tt 2)), oo 37 (.ld (tt 36)), oo 38 (.bin .add (tt 37) (ci 1)), oo 39 (.fa 0 (tt 2)), oo 40 (.ld (tt 39)), oo 41 (.call (ff 231) [tt 35, tt 38, tt 40]), oo 34 (.mv (tt 41)), oo 42 (.ex 0 (tt 34)), oo 43 (.ex 1 (tt 34)), oo 8 (.mv (tt 42)), oo 9 (.mv (tt 43))]
abbrev c_impl_solve_9 : List GOp := [oo 44 (.fa 2 (tt 2)), oo 45 (.ld (tt 44)), oo 46 (.mk 1 8 [.int .i64 0] (tt 45) (tt 45)), oo 10 (.mv (tt 46))]
abbrev c_impl_solve_10 : List GOp := [oo 47 (.mv (tt 8)), oo 48 (.len (tt 47)), oo 49 (.mv (ci 0))]
abbrev c_impl_solve_11 : List GOp := [oo 50 (.bin .lss (tt 49) (tt 48))]
abbrev c_impl_solve_12 : List GOp := [oo 51 (.mv (tt 49)), oo 52 (.ia 1 (tt 47) (tt 49)), oo 53 (.ld (tt 52)), oo 11 (.mv (tt 51)), oo 12 (.mv (tt 53))]
abbrev c_impl_solve_13 : List GOp := [oo 54 (.mv (tt 12)), oo 55 (.fa 2 (tt 2)), oo 56 (.ld (tt 55)), oo 57 (.bin .eql (tt 54) (tt 56))]
abbrev c_impl_solve_14 : List GOp := [oo 4 (.mv (.const (.slice none 0 0))), oo 5 (.mv (cb  false))]
abbrev c_impl_solve_15 : List DOp := [dl 0 (oo 58 (.mv (tt 10))), dl 1 (oo 59 (.mv (tt 12))), dl 2 (oo 60 (.mv (tt 6))), dl 3 (oo 61 (.mv (tt 11))), dl 4 (oo 62 (.ia 1 (tt 60) (tt 61))), dl 5 (oo 63 (.ld (tt 62))), dl 6 (oo 64 (.fa 2 (tt 2))), dl 7 (oo 65 (.ld (tt 64))), dl 8 (oo 66 (.ia 1 (tt 63) (tt 65))), dl 9 (oo 67 (.ld (tt 66))), dl 10 (oo 68 (.ia 1 (tt 58) (tt 59))), dh 11 [] (on (.st 1 (tt 68) (tt 67)))]
abbrev c_impl_solve_16 : List GOp := [oo 69 (.bin .add (tt 49) (ci 1)), oo 49 (.mv (tt 69))]
abbrev c_impl_solve_l1 : GCode := .seq (.reg c_impl_solve_11) (.seq (.cond (tt 50) (.skip) (.exit 2)) (.seq (.blk 3 (.seq (.reg c_impl_solve_12) (.seq (.seq (.reg c_impl_solve_13) (.cond (tt 57) (.seq (.reg c_impl_solve_14) (.ret)) (.skip))) (.dreg c_impl_solve_15)))) (.reg c_impl_solve_16)))
abbrev c_impl_solve_18 : List GOp := [oo 70 (.mv (tt 10)), oo 4 (.mv (tt 70)), oo 5 (.mv (cb  true))]
abbrev c_impl_solve : GCode := .seq (.reg c_impl_solve_0) (.seq (.reg c_impl_solve_1) (.seq (.seq (.reg c_impl_solve_2) (.blk 0 (.loop c_impl_solve_l0))) (.seq (.reg c_impl_solve_8) (.seq (.reg c_impl_solve_9) (.seq (.seq (.reg c_impl_solve_10) (.blk 2 (.loop c_impl_solve_l1))) (.seq (.reg c_impl_solve_18) (.ret)))))))
theorem c_impl_solve_d : decFn Try.prog Try.f170 = some (71, [.t 4, .t 5], c_impl_solve) := by kernel_rfl
theorem c_impl_solve_i {args : List Value} {G : GH} {K : Value → GH → Prop} (hn : args.length ≤ 71) (h : gW Try.prog c_impl_solve (RetK [.t 4, .t 5] K) (T0 args) G) : GC Try.prog 170 args G K := GC_intro mixed Try.func170 c_impl_solve_d hn h
abbrev c_impl_unit_0 : List GOp := [oo 4 (.al [.int .i64 0, .int .i64 0, .int .i64 0, .slice none 0 0])]
abbrev c_impl_unit_1 : List GOp := [oo 5 (.mv (tt 0)), oo 6 (.mv (tt 1)), oo 7 (.mv (tt 1)), oo 8 (.call (ff 226) [tt 5, tt 6, tt 7, (ff 227)]), on (.st 4 (tt 4) (tt 8))]
abbrev c_impl_unit : GCode := .seq (.reg c_impl_unit_0) (.seq (.reg c_impl_unit_1) (.ret))
theorem c_impl_unit_d : decFn Try.prog Try.f167 = some (9, [.cn 4 4], c_impl_unit) := by kernel_rfl
theorem c_impl_unit_i {args : List Value} {G : GH} {K : Value → GH → Prop} (hn : args.length ≤ 9) (h : gW Try.prog c_impl_unit (RetK [.cn 4 4] K) (T0 args) G) : GC Try.prog 167 args G K := GC_intro mixed Try.func167 c_impl_unit_d hn h
abbrev c_impl_unit_fn1_0 : List GOp := [oo 4 (.mv (ci 0))]
abbrev c_impl_unit_fn1_1 : List GOp := [oo 5 (.mv (tt 0)), oo 6 (.mv (tt 1)), oo 7 (.bin .eql (tt 5) (tt 6))]
abbrev c_impl_unit_fn1_2 : List GOp := [oo 4 (.mv (ci 1))]
abbrev c_impl_unit_fn1_3 : List GOp := [oo 4 (.mv (ci 0))]
abbrev c_impl_unit_fn1 : GCode := .seq (.reg c_impl_unit_fn1_0) (.seq (.seq (.reg c_impl_unit_fn1_1) (.cond (tt 7) (.seq (.reg c_impl_unit_fn1_2) (.ret)) (.skip))) (.seq (.reg c_impl_unit_fn1_3) (.ret)))
theorem c_impl_unit_fn1_d : decFn Try.prog Try.f227 = some (8, [.t 4], c_impl_unit_fn1) := by kernel_rfl
theorem c_impl_unit_fn1_i {args : List Value} {G : GH} {K : Value → GH → Prop} (hn : args.length ≤ 8) (h : gW Try.prog c_impl_unit_fn1 (RetK [.t 4] K) (T0 args) G) : GC Try.prog 227 args G K := GC_intro mixed Try.func227 c_impl_unit_fn1_d hn h
abbrev c_impl_within_0 : List GOp := [oo 6 (.mv (cb  false))]
abbrev c_impl_within_1 : List GOp := [oo 7 (.mv (tt 0)), oo 8 (.mv (tt 1)), oo 9 (.bin .geq (tt 7) (tt 8)), oo 10 (.mv (tt 9)), og 11 10 true (.mv (tt 0)), og 12 10 true (.mv (tt 2)), og 13 10 true (.bin .leq (tt 11) (tt 12)), oo 14 (.pick (tt 10) (tt 13) (cb  false)), oo 6 (.mv (tt 14))]
abbrev c_impl_within : GCode := .seq (.reg c_impl_within_0) (.seq (.reg c_impl_within_1) (.ret))
theorem c_impl_within_d : decFn Try.prog Try.f122 = some (15, [.t 6], c_impl_within) := by kernel_rfl
theorem c_impl_within_i {args : List Value} {G : GH} {K : Value → GH → Prop} (hn : args.length ≤ 15) (h : gW Try.prog c_impl_within (RetK [.t 6] K) (T0 args) G) : GC Try.prog 122 args G K := GC_intro mixed Try.func122 c_impl_within_d hn h
abbrev c_laws_FnHarmonic_0 : List GOp := [oo 4 (.mv (cb  false))]
abbrev c_laws_FnHarmonic_1 : List GOp := [oo 24 (.mv (tt 0)), oo 25 (.call (ff 56) [tt 24]), oo 26 (.mv (tt 25)), og 27 26 false (.mv (tt 1)), og 28 26 false (.call (ff 56) [tt 27]), oo 29 (.pick (tt 26) (cb  true) (tt 28))]
abbrev c_laws_FnHarmonic_2 : List GOp := [oo 4 (.mv (cb  true))]
abbrev c_laws_FnHarmonic_3 : List GOp := [oo 31 (.mv (tt 0)), oo 32 (.call (ff 76) [tt 31]), oo 30 (.mv (tt 32)), oo 33 (.ex 0 (tt 30)), oo 34 (.ex 1 (tt 30)), oo 35 (.ex 2 (tt 30)), oo 36 (.ex 3 (tt 30)), oo 5 (.al [.int .i64 0, .slice none 0 0]), on (.st 2 (tt 5) (tt 33)), oo 6 (.mv (tt 34)), oo 7 (.mv (tt 35)), oo 8 (.mv (tt 36))]
abbrev c_laws_FnHarmonic_4 : List GOp := [oo 38 (.ldn 2 (tt 5)), oo 39 (.mv (tt 6)), oo 40 (.mv (tt 7)), oo 41 (.mv (tt 8)), oo 42 (.call (ff 75) [tt 38, tt 39, tt 40, tt 41]), oo 37 (.mv (tt 42)), oo 43 (.ex 0 (tt 37)), oo 44 (.ex 1 (tt 37)), oo 9 (.mv (tt 43)), oo 10 (.mv (tt 44))]
abbrev c_laws_FnHarmonic_5 : List GOp := [oo 45 (.mv (tt 10)), oo 46 (.bin .eql (tt 45) (ci 0))]
abbrev c_laws_FnHarmonic_6 : List GOp := [oo 47 (.mv (tt 9)), oo 48 (.mv (tt 6)), oo 49 (.call (ff 77) [tt 47, tt 48]), oo 50 (.un .not (tt 49)), oo 51 (.mv (tt 50)), og 52 51 false (.mv (tt 9)), og 53 51 false (.len (tt 52)), og 54 51 false (.fa 0 (tt 5)), og 55 51 false (.ld (tt 54)), og 56 51 false (.bin .neq (tt 53) (tt 55)), oo 57 (.pick (tt 51) (cb  true) (tt 56)), oo 58 (.mv (tt 57)), og 59 58 false (.mv (tt 7)), og 60 58 false (.len (tt 59)), og 61 58 false (.mv (tt 8)), og 62 58 false (.len (tt 61)), og 63 58 false (.bin .neq (tt 60) (tt 62)), oo 64 (.pick (tt 58) (cb  true) (tt 63)), oo 65 (.mv (tt 64)), og 66 65 false (.mv (tt 7)), og 67 65 false (.mv (tt 9)), og 68 65 false (.len (tt 67)), og 69 65 false (.call (ff 70) [tt 66, tt 68]), og 70 65 false (.un .not (tt 69)), oo 71 (.pick (tt 65) (cb  true) (tt 70))]
abbrev c_laws_FnHarmonic_7 : List GOp := [oo 4 (.mv (cb  false))]
abbrev c_laws_FnHarmonic_8 : List GOp := [oo 11 (.mv (ci 0))]
abbrev c_laws_FnHarmonic_9 : List GOp := [oo 72 (.mv (tt 11)), oo 73 (.mv (tt 7)), oo 74 (.len (tt 73)), oo 75 (.bin .lss (tt 72) (tt 74))]
abbrev c_laws_FnHarmonic_10 : List DOp := [dl 0 (oo 78 (.mv (tt 9))), dl 1 (oo 79 (.mv (tt 7))), dl 2 (oo 80 (.mv (tt 11))), dl 3 (oo 81 (.ia 1 (tt 79) (tt 80))), dl 4 (oo 82 (.ld (tt 81))), dl 5 (oo 83 (.ia 1 (tt 78) (tt 82))), dl 6 (oo 84 (.ld (tt 83))), dl 7 (oo 85 (.mv (tt 8))), dl 8 (oo 86 (.mv (tt 11))), dl 9 (oo 87 (.ia 1 (tt 85) (tt 86))), dl 10 (oo 88 (.ld (tt 87))), dl 11 (oo 89 (.bin .neq (tt 84) (tt 88)))]
abbrev c_laws_FnHarmonic_11 : List GOp := [oo 4 (.mv (cb  false))]
abbrev c_laws_FnHarmonic_12 : List GOp := [oo 76 (.mv (tt 11)), oo 77 (.bin .add (tt 76) (ci 1)), oo 11 (.mv (tt 77))]
abbrev c_laws_FnHarmonic_l0 : GCode := .seq (.seq (.reg c_laws_FnHarmonic_9) (.cond (tt 75) (.skip) (.exit 0))) (.seq (.blk 1 (.seq (.dreg c_laws_FnHarmonic_10) (.cond (tt 89) (.seq (.reg c_laws_FnHarmonic_11) (.ret)) (.skip)))) (.reg c_laws_FnHarmonic_12))
abbrev c_laws_FnHarmonic_14 : List GOp := [oo 91 (.ldn 2 (tt 5)), oo 92 (.mv (tt 9)), oo 93 (.call (ff 78) [tt 91, tt 92]), oo 90 (.mv (tt 93)), oo 94 (.ex 0 (tt 90)), oo 95 (.ex 1 (tt 90)), oo 12 (.mv (tt 94)), oo 13 (.mv (tt 95))]
abbrev c_laws_FnHarmonic_15 : List GOp := [oo 96 (.mv (tt 13)), oo 97 (.bin .neq (tt 96) (ci 0))]
abbrev c_laws_FnHarmonic_16 : List GOp := [oo 4 (.mv (cb  false))]
abbrev c_laws_FnHarmonic_17 : List GOp := [oo 14 (.mv (ci 0))]
abbrev c_laws_FnHarmonic_18 : List GOp := [oo 98 (.mv (tt 14)), oo 99 (.mv (tt 12)), oo 100 (.len (tt 99)), oo 101 (.bin .lss (tt 98) (tt 100))]
abbrev c_laws_FnHarmonic_19 : List GOp := [oo 104 (.mv (tt 12)), oo 105 (.mv (tt 14)), oo 106 (.ia 1 (tt 104) (tt 105)), oo 107 (.ld (tt 106)), oo 108 (.mv (tt 6)), oo 109 (.bin .rem (tt 107) (tt 108)), oo 110 (.bin .neq (tt 109) (ci 0)), oo 111 (.mv (tt 110)), og 112 111 true (.mv (tt 7)), og 113 111 true (.mv (tt 14)), og 114 111 true (.call (ff 68) [tt 112, tt 113]), og 115 111 true (.un .not (tt 114)), oo 116 (.pick (tt 111) (tt 115) (cb  false))]
abbrev c_laws_FnHarmonic_20 : List GOp := [oo 4 (.mv (cb  false))]
abbrev c_laws_FnHarmonic_21 : List GOp := [oo 102 (.mv (tt 14)), oo 103 (.bin .add (tt 102) (ci 1)), oo 14 (.mv (tt 103))]
abbrev c_laws_FnHarmonic_l1 : GCode := .seq (.seq (.reg c_laws_FnHarmonic_18) (.cond (tt 101) (.skip) (.exit 2))) (.seq (.blk 3 (.seq (.reg c_laws_FnHarmonic_19) (.cond (tt 116) (.seq (.reg c_laws_FnHarmonic_20) (.ret)) (.skip)))) (.reg c_laws_FnHarmonic_21))
abbrev c_laws_FnHarmonic_23 : List GOp := [oo 118 (.mv (tt 1)), oo 119 (.call (ff 79) [tt 118]), oo 117 (.mv (tt 119)), oo 120 (.ex 0 (tt 117)), oo 121 (.ex 1 (tt 117)), oo 15 (.al [.int .i64 0, .slice none 0 0]), on (.st 2 (tt 15) (tt 120)), oo 16 (.mv (tt 121))]
abbrev c_laws_FnHarmonic_24 : List GOp := [oo 123 (.ldn 2 (tt 15)), oo 124 (.mv (tt 16)), oo 125 (.call (ff 80) [tt 123, tt 124]), oo 122 (.mv (tt 125)), oo 126 (.ex 0 (tt 122)), oo 127 (.ex 1 (tt 122)), oo 17 (.mv (tt 126)), oo 18 (.mv (tt 127))]
abbrev c_laws_FnHarmonic_25 : List GOp := [oo 129 (.ldn 2 (tt 15)), oo 130 (.call (ff 55) [tt 129]), oo 128 (.mv (tt 130)), oo 131 (.ex 0 (tt 128)), oo 132 (.ex 1 (tt 128)), oo 133 (.ex 2 (tt 128)), oo 19 (.mv (tt 131)), oo 20 (.mv (tt 132)), oo 21 (.mv (tt 133))]
abbrev c_laws_FnHarmonic_26 : List GOp := [oo 134 (.mv (tt 18)), oo 135 (.bin .neq (tt 134) (ci 0)), oo 136 (.mv (tt 135)), og 137 136 false (.mv (tt 21)), og 138 136 false (.bin .neq (tt 137) (ci 0)), oo 139 (.pick (tt 136) (cb  true) (tt 138))]
abbrev c_laws_FnHarmonic_27 : List GOp := [oo 140 (.mv (tt 18)), oo 141 (.bin .eql (tt 140) (ci 0)), oo 142 (.mv (tt 141)), og 143 142 false (.mv (tt 17)), og 144 142 false (.bin .eql (tt 143) (ci 0)), oo 145 (.pick (tt 142) (cb  true) (tt 144)), oo 146 (.mv (tt 145)), og 147 146 true (.mv (tt 21)), og 148 146 true (.bin .eql (tt 147) (ci 0)), og 149 146 true (.mv (tt 148)), og 150 149 false (.mv (tt 19)), og 151 149 false (.len (tt 150)), og 152 149 false (.bin .eql (tt 151) (ci 0)), og 153 146 true (.pick (tt 149) (cb  true) (tt 152)), oo 154 (.pick (tt 146) (tt 153) (cb  false)), oo 4 (.mv (tt 154))]
abbrev c_laws_FnHarmonic_28 : List GOp := [oo 156 (.ldn 2 (tt 15)), oo 157 (.mv (tt 19)), oo 158 (.call (ff 80) [tt 156, tt 157]), oo 155 (.mv (tt 158)), oo 159 (.ex 0 (tt 155)), oo 160 (.ex 1 (tt 155)), oo 22 (.mv (tt 159)), oo 23 (.mv (tt 160))]
abbrev c_laws_FnHarmonic_29 : List GOp := [oo 161 (.mv (tt 23)), oo 162 (.bin .eql (tt 161) (ci 0)), oo 163 (.mv (tt 162)), og 164 163 true (.mv (tt 22)), og 165 163 true (.mv (tt 20)), og 166 163 true (.bin .eql (tt 164) (tt 165)), oo 167 (.pick (tt 163) (tt 166) (cb  false)), oo 168 (.mv (tt 167)), og 169 168 true (.mv (tt 19)), og 170 168 true (.len (tt 169)), og 171 168 true (.bin .gtr (tt 170) (ci 0)), oo 172 (.pick (tt 168) (tt 171) (cb  false)), oo 173 (.mv (tt 172)), og 174 173 true (.mv (tt 19)), og 175 173 true (.len (tt 174)), og 176 173 true (.fa 0 (tt 15)), og 177 173 true (.ld (tt 176)), og 178 173 true (.bin .lss (tt 175) (tt 177)), oo 179 (.pick (tt 173) (tt 178) (cb  false)), oo 180 (.mv (tt 179)), og 181 180 true (.mv (tt 19)), og 182 180 true (.ia 1 (tt 181) (ci 0)), og 183 180 true (.ld (tt 182)), og 184 180 true (.bin .eql (tt 183) (ci 0)), oo 185 (.pick (tt 180) (tt 184) (cb  false)), oo 186 (.mv (tt 185)), og 187 186 true (.mv (tt 16)), og 188 186 true (.len (tt 187)), og 189 186 true (.bin .eql (tt 188) (ci 0)), og 190 186 true (.mv (tt 189)), og 191 190 false (.mv (tt 16)), og 192 190 false (.len (tt 191)), og 193 190 false (.fa 0 (tt 15)), og 194 190 false (.ld (tt 193)), og 195 190 false (.bin .eql (tt 192) (tt 194)), og 196 186 true (.pick (tt 190) (cb  true) (tt 195)), og 197 186 true (.mv (tt 196)), og 198 197 false (.mv (tt 17)), og 199 197 false (.mv (tt 20)), og 200 197 false (.bin .geq (tt 198) (tt 199)), og 201 186 true (.pick (tt 197) (cb  true) (tt 200)), oo 202 (.pick (tt 186) (tt 201) (cb  false)), oo 4 (.mv (tt 202))]
abbrev c_laws_FnHarmonic : GCode := .seq (.reg c_laws_FnHarmonic_0) (.seq (.seq (.reg c_laws_FnHarmonic_1) (.cond (tt 29) (.seq (.reg c_laws_FnHarmonic_2) (.ret)) (.skip))) (.seq (.reg c_laws_FnHarmonic_3) (.seq (.reg c_laws_FnHarmonic_4) (.seq (.seq (.reg c_laws_FnHarmonic_5) (.cond (tt 46) (.seq (.seq (.reg c_laws_FnHarmonic_6) (.cond (tt 71) (.seq (.reg c_laws_FnHarmonic_7) (.ret)) (.skip))) (.seq (.seq (.reg c_laws_FnHarmonic_8) (.blk 0 (.loop c_laws_FnHarmonic_l0))) (.seq (.reg c_laws_FnHarmonic_14) (.seq (.seq (.reg c_laws_FnHarmonic_15) (.cond (tt 97) (.seq (.reg c_laws_FnHarmonic_16) (.ret)) (.skip))) (.seq (.reg c_laws_FnHarmonic_17) (.blk 2 (.loop c_laws_FnHarmonic_l1))))))) (.skip))) (.seq (.reg c_laws_FnHarmonic_23) (.seq (.reg c_laws_FnHarmonic_24) (.seq (.reg c_laws_FnHarmonic_25) (.seq (.seq (.reg c_laws_FnHarmonic_26) (.cond (tt 139) (.seq (.reg c_laws_FnHarmonic_27) (.ret)) (.skip))) (.seq (.reg c_laws_FnHarmonic_28) (.seq (.reg c_laws_FnHarmonic_29) (.ret)))))))))))
theorem c_laws_FnHarmonic_d : decFn Try.prog Try.f18 = some (203, [.t 4], c_laws_FnHarmonic) := by kernel_rfl
theorem c_laws_FnHarmonic_i {args : List Value} {G : GH} {K : Value → GH → Prop} (hn : args.length ≤ 203) (h : gW Try.prog c_laws_FnHarmonic (RetK [.t 4] K) (T0 args) G) : GC Try.prog 18 args G K := GC_intro mixed Try.func18 c_laws_FnHarmonic_d hn h
abbrev c_laws_b10Has_0 : List GOp := [oo 4 (.mv (cb  false))]
abbrev c_laws_b10Has_1 : List GOp := [oo 5 (.mv (ci 0))]
abbrev c_laws_b10Has_2 : List GOp := [oo 6 (.mv (tt 5)), oo 7 (.mv (tt 0)), oo 8 (.len (tt 7)), oo 9 (.bin .lss (tt 6) (tt 8))]
abbrev c_laws_b10Has_3 : List GOp := [oo 12 (.mv (tt 0)), oo 13 (.mv (tt 5)), oo 14 (.ia 1 (tt 12) (tt 13)), oo 15 (.ld (tt 14)), oo 16 (.mv (tt 1)), oo 17 (.bin .eql (tt 15) (tt 16))]
abbrev c_laws_b10Has_4 : List GOp := [oo 4 (.mv (cb  true))]
abbrev c_laws_b10Has_5 : List GOp := [oo 10 (.mv (tt 5)), oo 11 (.bin .add (tt 10) (ci 1)), oo 5 (.mv (tt 11))]
abbrev c_laws_b10Has_l0 : GCode := .seq (.seq (.reg c_laws_b10Has_2) (.cond (tt 9) (.skip) (.exit 0))) (.seq (.blk 1 (.seq (.reg c_laws_b10Has_3) (.cond (tt 17) (.seq (.reg c_laws_b10Has_4) (.ret)) (.skip)))) (.reg c_laws_b10Has_5))
abbrev c_laws_b10Has_7 : List GOp := [oo 4 (.mv (cb  false))]
abbrev c_laws_b10Has : GCode := .seq (.reg c_laws_b10Has_0) (.seq (.seq (.reg c_laws_b10Has_1) (.blk 0 (.loop c_laws_b10Has_l0))) (.seq (.reg c_laws_b10Has_7) (.ret)))
theorem c_laws_b10Has_d : decFn Try.prog Try.f68 = some (18, [.t 4], c_laws_b10Has) := by kernel_rfl
theorem c_laws_b10Has_i {args : List Value} {G : GH} {K : Value → GH → Prop} (hn : args.length ≤ 18) (h : gW Try.prog c_laws_b10Has (RetK [.t 4] K) (T0 args) G) : GC Try.prog 68 args G K := GC_intro mixed Try.func68 c_laws_b10Has_d hn h
abbrev c_laws_b10Long_0 : List GOp := [oo 2 (.mv (cb  false))]
abbrev c_laws_b10Long_1 : List GOp := [oo 3 (.mv (tt 0)), oo 4 (.len (tt 3)), oo 5 (.bin .gtr (tt 4) (ci 1048576)), oo 2 (.mv (tt 5))]
abbrev c_laws_b10Long : GCode := .seq (.reg c_laws_b10Long_0) (.seq (.reg c_laws_b10Long_1) (.ret))
theorem c_laws_b10Long_d : decFn Try.prog Try.f56 = some (6, [.t 2], c_laws_b10Long) := by kernel_rfl
theorem c_laws_b10Long_i {args : List Value} {G : GH} {K : Value → GH → Prop} (hn : args.length ≤ 6) (h : gW Try.prog c_laws_b10Long (RetK [.t 2] K) (T0 args) G) : GC Try.prog 56 args G K := GC_intro mixed Try.func56 c_laws_b10Long_d hn h
abbrev c_laws_b10Rises_0 : List GOp := [oo 4 (.mv (cb  false))]
abbrev c_laws_b10Rises_1 : List GOp := [oo 5 (.mv (ci 0))]
abbrev c_laws_b10Rises_2 : List GOp := [oo 6 (.mv (tt 5)), oo 7 (.mv (tt 0)), oo 8 (.len (tt 7)), oo 9 (.bin .lss (tt 6) (tt 8))]
abbrev c_laws_b10Rises_3 : List DOp := [dl 0 (oo 12 (.mv (tt 0))), dl 1 (oo 13 (.mv (tt 5))), dl 2 (oo 14 (.ia 1 (tt 12) (tt 13))), dl 3 (oo 15 (.ld (tt 14))), dl 4 (oo 16 (.bin .lss (tt 15) (ci 0))), dl 5 (oo 17 (.mv (tt 16))), dl 6 (og 18 17 false (.mv (tt 0))), dl 7 (og 19 17 false (.mv (tt 5))), dl 8 (og 20 17 false (.ia 1 (tt 18) (tt 19))), dl 9 (og 21 17 false (.ld (tt 20))), dl 10 (og 22 17 false (.mv (tt 1))), dl 11 (og 23 17 false (.bin .geq (tt 21) (tt 22))), dl 12 (oo 24 (.pick (tt 17) (cb  true) (tt 23))), dl 13 (oo 25 (.mv (tt 24))), dl 14 (og 26 25 false (.mv (tt 5))), dl 15 (og 27 25 false (.bin .gtr (tt 26) (ci 0))), dl 16 (og 28 25 false (.mv (tt 27))), dl 17 (og 29 28 true (.mv (tt 0))), dl 18 (og 30 28 true (.mv (tt 5))), dl 19 (og 31 28 true (.bin .sub (tt 30) (ci 1))), dl 20 (og 32 28 true (.ia 1 (tt 29) (tt 31))), dl 21 (og 33 28 true (.ld (tt 32))), dl 22 (og 34 28 true (.mv (tt 0))), dl 23 (og 35 28 true (.mv (tt 5))), dl 24 (og 36 28 true (.ia 1 (tt 34) (tt 35))), dl 25 (og 37 28 true (.ld (tt 36))), dl 26 (og 38 28 true (.bin .geq (tt 33) (tt 37))), dl 27 (og 39 25 false (.pick (tt 28) (tt 38) (cb  false))), dl 28 (oo 40 (.pick (tt 25) (cb  true) (tt 39)))]
abbrev c_laws_b10Rises_4 : List GOp := [oo 4 (.mv (cb  false))]
abbrev c_laws_b10Rises_5 : List GOp := [oo 10 (.mv (tt 5)), oo 11 (.bin .add (tt 10) (ci 1)), oo 5 (.mv (tt 11))]
abbrev c_laws_b10Rises_l0 : GCode := .seq (.seq (.reg c_laws_b10Rises_2) (.cond (tt 9) (.skip) (.exit 0))) (.seq (.blk 1 (.seq (.dreg c_laws_b10Rises_3) (.cond (tt 40) (.seq (.reg c_laws_b10Rises_4) (.ret)) (.skip)))) (.reg c_laws_b10Rises_5))
abbrev c_laws_b10Rises_7 : List GOp := [oo 4 (.mv (cb  true))]
abbrev c_laws_b10Rises : GCode := .seq (.reg c_laws_b10Rises_0) (.seq (.seq (.reg c_laws_b10Rises_1) (.blk 0 (.loop c_laws_b10Rises_l0))) (.seq (.reg c_laws_b10Rises_7) (.ret)))
theorem c_laws_b10Rises_d : decFn Try.prog Try.f70 = some (41, [.t 4], c_laws_b10Rises) := by kernel_rfl
theorem c_laws_b10Rises_i {args : List Value} {G : GH} {K : Value → GH → Prop} (hn : args.length ≤ 41) (h : gW Try.prog c_laws_b10Rises (RetK [.t 4] K) (T0 args) G) : GC Try.prog 70 args G K := GC_intro mixed Try.func70 c_laws_b10Rises_d hn h
abbrev c_slices_Clone_int64_int64_0 : List GOp := [oo 2 (.mv (.const (.slice none 0 0)))]
abbrev c_slices_Clone_int64_int64_1 : List GOp := [oo 3 (.mv (tt 0)), oo 4 (.eqs false (tt 3) (.const (.slice none 0 0)))]
abbrev c_slices_Clone_int64_int64_2 : List GOp := [oo 2 (.mv (.const (.slice none 0 0)))]
abbrev c_slices_Clone_int64_int64_3 : List GOp := [oo 5 (.bs 1 []), oo 6 (.mv (tt 0)), oo 7 (.ap 1 8 [.int .i64 0] (tt 5) (tt 6)), oo 2 (.mv (tt 7))]
abbrev c_slices_Clone_int64_int64 : GCode := .seq (.reg c_slices_Clone_int64_int64_0) (.seq (.seq (.reg c_slices_Clone_int64_int64_1) (.cond (tt 4) (.seq (.reg c_slices_Clone_int64_int64_2) (.ret)) (.skip))) (.seq (.reg c_slices_Clone_int64_int64_3) (.ret)))
theorem c_slices_Clone_int64_int64_d : decFn Try.prog Try.f123 = some (8, [.t 2], c_slices_Clone_int64_int64) := by kernel_rfl
theorem c_slices_Clone_int64_int64_i {args : List Value} {G : GH} {K : Value → GH → Prop} (hn : args.length ≤ 8) (h : gW Try.prog c_slices_Clone_int64_int64 (RetK [.t 2] K) (T0 args) G) : GC Try.prog 123 args G K := GC_intro mixed Try.func123 c_slices_Clone_int64_int64_d hn h
abbrev c_slices_Compare_int64_int64_0 : List GOp := [oo 4 (.mv (ci 0))]
abbrev c_slices_Compare_int64_int64_1 : List GOp := [oo 9 (.mv (tt 0)), oo 10 (.len (tt 9)), oo 11 (.mv (ci 0))]
abbrev c_slices_Compare_int64_int64_2 : List GOp := [oo 12 (.bin .lss (tt 11) (tt 10))]
abbrev c_slices_Compare_int64_int64_3 : List GOp := [oo 13 (.mv (tt 11)), oo 14 (.ia 1 (tt 9) (tt 11)), oo 15 (.ld (tt 14)), oo 5 (.mv (tt 13)), oo 6 (.mv (tt 15))]
abbrev c_slices_Compare_int64_int64_4 : List GOp := [oo 16 (.mv (tt 5)), oo 17 (.mv (tt 1)), oo 18 (.len (tt 17)), oo 19 (.bin .geq (tt 16) (tt 18))]
abbrev c_slices_Compare_int64_int64_5 : List GOp := [oo 4 (.mv (ci 1))]
abbrev c_slices_Compare_int64_int64_6 : List GOp := [oo 20 (.mv (tt 1)), oo 21 (.mv (tt 5)), oo 22 (.ia 1 (tt 20) (tt 21)), oo 23 (.ld (tt 22)), oo 7 (.mv (tt 23))]
abbrev c_slices_Compare_int64_int64_7 : List GOp := [oo 24 (.mv (tt 6)), oo 25 (.mv (tt 7)), oo 26 (.call (ff 218) [tt 24, tt 25]), oo 8 (.mv (tt 26))]
abbrev c_slices_Compare_int64_int64_8 : List GOp := [oo 27 (.mv (tt 8)), oo 28 (.bin .neq (tt 27) (ci 0))]
abbrev c_slices_Compare_int64_int64_9 : List GOp := [oo 29 (.mv (tt 8)), oo 4 (.mv (tt 29))]
abbrev c_slices_Compare_int64_int64_10 : List GOp := [oo 30 (.bin .add (tt 11) (ci 1)), oo 11 (.mv (tt 30))]
abbrev c_slices_Compare_int64_int64_l0 : GCode := .seq (.reg c_slices_Compare_int64_int64_2) (.seq (.cond (tt 12) (.skip) (.exit 0)) (.seq (.blk 1 (.seq (.reg c_slices_Compare_int64_int64_3) (.seq (.seq (.reg c_slices_Compare_int64_int64_4) (.cond (tt 19) (.seq (.reg c_slices_Compare_int64_int64_5) (.ret)) (.skip))) (.seq (.reg c_slices_Compare_int64_int64_6) (.seq (.reg c_slices_Compare_int64_int64_7) (.seq (.reg c_slices_Compare_int64_int64_8) (.cond (tt 28) (.seq (.reg c_slices_Compare_int64_int64_9) (.ret)) (.skip)))))))) (.reg c_slices_Compare_int64_int64_10)))
abbrev c_slices_Compare_int64_int64_12 : List GOp := [oo 31 (.mv (tt 0)), oo 32 (.len (tt 31)), oo 33 (.mv (tt 1)), oo 34 (.len (tt 33)), oo 35 (.bin .lss (tt 32) (tt 34))]
abbrev c_slices_Compare_int64_int64_13 : List GOp := [oo 4 (.mv (ci (-1)))]
abbrev c_slices_Compare_int64_int64_14 : List GOp := [oo 4 (.mv (ci 0))]
abbrev c_slices_Compare_int64_int64 : GCode := .seq (.reg c_slices_Compare_int64_int64_0) (.seq (.seq (.reg c_slices_Compare_int64_int64_1) (.blk 0 (.loop c_slices_Compare_int64_int64_l0))) (.seq (.seq (.reg c_slices_Compare_int64_int64_12) (.cond (tt 35) (.seq (.reg c_slices_Compare_int64_int64_13) (.ret)) (.skip))) (.seq (.reg c_slices_Compare_int64_int64_14) (.ret))))
theorem c_slices_Compare_int64_int64_d : decFn Try.prog Try.f144 = some (36, [.t 4], c_slices_Compare_int64_int64) := by kernel_rfl
theorem c_slices_Compare_int64_int64_i {args : List Value} {G : GH} {K : Value → GH → Prop} (hn : args.length ≤ 36) (h : gW Try.prog c_slices_Compare_int64_int64 (RetK [.t 4] K) (T0 args) G) : GC Try.prog 144 args G K := GC_intro mixed Try.func144 c_slices_Compare_int64_int64_d hn h
abbrev c_slices_Concat_int64_int64_0 : List GOp := [oo 2 (.mv (.const (.slice none 0 0)))]
abbrev c_slices_Concat_int64_int64_1 : List GOp := [oo 3 (.mv (ci 0))]
abbrev c_slices_Concat_int64_int64_2 : List GOp := [oo 9 (.mv (tt 0)), oo 10 (.len (tt 9)), oo 11 (.mv (ci 0))]
abbrev c_slices_Concat_int64_int64_3 : List GOp := [oo 12 (.bin .lss (tt 11) (tt 10))]
abbrev c_slices_Concat_int64_int64_4 : List GOp := [oo 13 (.ia 1 (tt 9) (tt 11)), oo 14 (.ld (tt 13)), oo 5 (.mv (tt 14))]
abbrev c_slices_Concat_int64_int64_5 : List GOp := [oo 15 (.mv (tt 3)), oo 16 (.mv (tt 5)), oo 17 (.len (tt 16)), oo 18 (.bin .add (tt 15) (tt 17)), oo 3 (.mv (tt 18))]
abbrev c_slices_Concat_int64_int64_6 : List GOp := [oo 19 (.mv (tt 3)), oo 20 (.bin .lss (tt 19) (ci 0))]
abbrev c_slices_Concat_int64_int64_7 : List GOp := [oo 21 (.mi 9 (.const (.string ⟨#[108, 101, 110, 32, 111, 117, 116, 32, 111, 102, 32, 114, 97, 110, 103, 101]⟩))), on (.bad)]
abbrev c_slices_Concat_int64_int64_8 : List GOp := [oo 22 (.bin .add (tt 11) (ci 1)), oo 11 (.mv (tt 22))]
abbrev c_slices_Concat_int64_int64_l0 : GCode := .seq (.reg c_slices_Concat_int64_int64_3) (.seq (.cond (tt 12) (.skip) (.exit 0)) (.seq (.blk 1 (.seq (.reg c_slices_Concat_int64_int64_4) (.seq (.reg c_slices_Concat_int64_int64_5) (.seq (.reg c_slices_Concat_int64_int64_6) (.cond (tt 20) (.reg c_slices_Concat_int64_int64_7) (.skip)))))) (.reg c_slices_Concat_int64_int64_8)))
abbrev c_slices_Concat_int64_int64_10 : List GOp := [oo 23 (.mv (tt 3)), oo 24 (.call (ff 252) [(.const (.slice none 0 0)), tt 23]), oo 6 (.mv (tt 24))]
abbrev c_slices_Concat_int64_int64_11 : List GOp := [oo 25 (.mv (tt 0)), oo 26 (.len (tt 25)), oo 27 (.mv (ci 0))]
abbrev c_slices_Concat_int64_int64_12 : List GOp := [oo 28 (.bin .lss (tt 27) (tt 26))]
abbrev c_slices_Concat_int64_int64_13 : List GOp := [oo 29 (.ia 1 (tt 25) (tt 27)), oo 30 (.ld (tt 29)), oo 8 (.mv (tt 30))]
abbrev c_slices_Concat_int64_int64_14 : List GOp := [oo 31 (.mv (tt 6)), oo 32 (.mv (tt 8)), oo 33 (.ap 1 8 [.int .i64 0] (tt 31) (tt 32)), oo 6 (.mv (tt 33))]
abbrev c_slices_Concat_int64_int64_15 : List GOp := [oo 34 (.bin .add (tt 27) (ci 1)), oo 27 (.mv (tt 34))]
abbrev c_slices_Concat_int64_int64_l1 : GCode := .seq (.reg c_slices_Concat_int64_int64_12) (.seq (.cond (tt 28) (.skip) (.exit 2)) (.seq (.blk 3 (.seq (.reg c_slices_Concat_int64_int64_13) (.reg c_slices_Concat_int64_int64_14))) (.reg c_slices_Concat_int64_int64_15)))
abbrev c_slices_Concat_int64_int64_17 : List GOp := [oo 35 (.mv (tt 6)), oo 2 (.mv (tt 35))]
abbrev c_slices_Concat_int64_int64 : GCode := .seq (.reg c_slices_Concat_int64_int64_0) (.seq (.reg c_slices_Concat_int64_int64_1) (.seq (.seq (.reg c_slices_Concat_int64_int64_2) (.blk 0 (.loop c_slices_Concat_int64_int64_l0))) (.seq (.reg c_slices_Concat_int64_int64_10) (.seq (.seq (.reg c_slices_Concat_int64_int64_11) (.blk 2 (.loop c_slices_Concat_int64_int64_l1))) (.seq (.reg c_slices_Concat_int64_int64_17) (.ret))))))
theorem c_slices_Concat_int64_int64_d : decFn Try.prog Try.f229 = some (36, [.t 2], c_slices_Concat_int64_int64) := by kernel_rfl
theorem c_slices_Concat_int64_int64_i {args : List Value} {G : GH} {K : Value → GH → Prop} (hn : args.length ≤ 36) (h : gW Try.prog c_slices_Concat_int64_int64 (RetK [.t 2] K) (T0 args) G) : GC Try.prog 229 args G K := GC_intro mixed Try.func229 c_slices_Concat_int64_int64_d hn h
abbrev c_slices_ContainsFunc_int64_int64_0 : List GOp := [oo 4 (.mv (cb  false))]
abbrev c_slices_ContainsFunc_int64_int64_1 : List GOp := [oo 5 (.mv (tt 0)), oo 6 (.mv (tt 1)), oo 7 (.call (ff 222) [tt 5, tt 6]), oo 8 (.bin .geq (tt 7) (ci 0)), oo 4 (.mv (tt 8))]
abbrev c_slices_ContainsFunc_int64_int64 : GCode := .seq (.reg c_slices_ContainsFunc_int64_int64_0) (.seq (.reg c_slices_ContainsFunc_int64_int64_1) (.ret))
theorem c_slices_ContainsFunc_int64_int64_d : decFn Try.prog Try.f152 = some (9, [.t 4], c_slices_ContainsFunc_int64_int64) := by kernel_rfl
theorem c_slices_ContainsFunc_int64_int64_i {args : List Value} {G : GH} {K : Value → GH → Prop} (hn : args.length ≤ 9) (h : gW Try.prog c_slices_ContainsFunc_int64_int64 (RetK [.t 4] K) (T0 args) G) : GC Try.prog 152 args G K := GC_intro mixed Try.func152 c_slices_ContainsFunc_int64_int64_d hn h
abbrev c_slices_Contains_int64_int64_0 : List GOp := [oo 4 (.mv (cb  false))]
abbrev c_slices_Contains_int64_int64_1 : List GOp := [oo 5 (.mv (tt 0)), oo 6 (.mv (tt 1)), oo 7 (.call (ff 166) [tt 5, tt 6]), oo 8 (.bin .geq (tt 7) (ci 0)), oo 4 (.mv (tt 8))]
abbrev c_slices_Contains_int64_int64 : GCode := .seq (.reg c_slices_Contains_int64_int64_0) (.seq (.reg c_slices_Contains_int64_int64_1) (.ret))
theorem c_slices_Contains_int64_int64_d : decFn Try.prog Try.f137 = some (9, [.t 4], c_slices_Contains_int64_int64) := by kernel_rfl
theorem c_slices_Contains_int64_int64_i {args : List Value} {G : GH} {K : Value → GH → Prop} (hn : args.length ≤ 9) (h : gW Try.prog c_slices_Contains_int64_int64 (RetK [.t 4] K) (T0 args) G) : GC Try.prog 137 args G K := GC_intro mixed Try.func137 c_slices_Contains_int64_int64_d hn h
abbrev c_slices_Grow_int64_int64_0 : List GOp := [oo 4 (.mv (.const (.slice none 0 0)))]
abbrev c_slices_Grow_int64_int64_1 : List GOp := [oo 5 (.mv (tt 1)), oo 6 (.bin .lss (tt 5) (ci 0))]
abbrev c_slices_Grow_int64_int64_2 : List GOp := [oo 7 (.mi 9 (.const (.string ⟨#[99, 97, 110, 110, 111, 116, 32, 98, 101, 32, 110, 101, 103, 97, 116, 105, 118, 101]⟩))), on (.bad)]
abbrev c_slices_Grow_int64_int64_3 : List GOp := [oo 8 (.mv (tt 1)), oo 9 (.mv (tt 0)), oo 10 (.cap (tt 9)), oo 11 (.mv (tt 0)), oo 12 (.len (tt 11)), oo 13 (.bin .sub (tt 10) (tt 12)), oo 14 (.bin .sub (tt 8) (tt 13)), oo 1 (.mv (tt 14))]
abbrev c_slices_Grow_int64_int64_4 : List GOp := [oo 15 (.mv (tt 1)), oo 16 (.bin .gtr (tt 15) (ci 0))]
abbrev c_slices_Grow_int64_int64_5 : List GOp := [oo 17 (.mv (tt 0)), oo 18 (.mv (tt 0)), oo 19 (.cap (tt 18)), oo 20 (.sl 1 (tt 17) none (some (tt 19))), oo 21 (.mv (tt 1)), oo 22 (.apz 1 8 [.int .i64 0] (tt 20) (tt 21)), oo 23 (.mv (tt 0)), oo 24 (.len (tt 23)), oo 25 (.sl 1 (tt 22) none (some (tt 24))), oo 0 (.mv (tt 25))]
abbrev c_slices_Grow_int64_int64_6 : List GOp := [oo 26 (.mv (tt 0)), oo 4 (.mv (tt 26))]
abbrev c_slices_Grow_int64_int64 : GCode := .seq (.reg c_slices_Grow_int64_int64_0) (.seq (.seq (.reg c_slices_Grow_int64_int64_1) (.cond (tt 6) (.reg c_slices_Grow_int64_int64_2) (.skip))) (.seq (.seq (.reg c_slices_Grow_int64_int64_3) (.seq (.reg c_slices_Grow_int64_int64_4) (.cond (tt 16) (.reg c_slices_Grow_int64_int64_5) (.skip)))) (.seq (.reg c_slices_Grow_int64_int64_6) (.ret))))
theorem c_slices_Grow_int64_int64_d : decFn Try.prog Try.f252 = some (27, [.t 4], c_slices_Grow_int64_int64) := by kernel_rfl
theorem c_slices_Grow_int64_int64_i {args : List Value} {G : GH} {K : Value → GH → Prop} (hn : args.length ≤ 27) (h : gW Try.prog c_slices_Grow_int64_int64 (RetK [.t 4] K) (T0 args) G) : GC Try.prog 252 args G K := GC_intro mixed Try.func252 c_slices_Grow_int64_int64_d hn h
abbrev c_slices_IndexFunc_SS_int64_int64_0 : List GOp := [oo 4 (.mv (ci 0))]
abbrev c_slices_IndexFunc_SS_int64_int64_1 : List GOp := [oo 6 (.mv (tt 0)), oo 7 (.len (tt 6)), oo 8 (.mv (ci 0))]
abbrev c_slices_IndexFunc_SS_int64_int64_2 : List GOp := [oo 9 (.bin .lss (tt 8) (tt 7))]
abbrev c_slices_IndexFunc_SS_int64_int64_3 : List GOp := [oo 10 (.mv (tt 8)), oo 5 (.mv (tt 10))]
abbrev c_slices_IndexFunc_SS_int64_int64_4 : List GOp := [oo 11 (.mv (tt 1)), oo 12 (.mv (tt 0)), oo 13 (.mv (tt 5)), oo 14 (.ia 1 (tt 12) (tt 13)), oo 15 (.ld (tt 14)), oo 16 (.call (tt 11) [tt 15])]
abbrev c_slices_IndexFunc_SS_int64_int64_5 : List GOp := [oo 17 (.mv (tt 5)), oo 4 (.mv (tt 17))]
abbrev c_slices_IndexFunc_SS_int64_int64_6 : List GOp := [oo 18 (.bin .add (tt 8) (ci 1)), oo 8 (.mv (tt 18))]
abbrev c_slices_IndexFunc_SS_int64_int64_l0 : GCode := .seq (.reg c_slices_IndexFunc_SS_int64_int64_2) (.seq (.cond (tt 9) (.skip) (.exit 0)) (.seq (.blk 1 (.seq (.reg c_slices_IndexFunc_SS_int64_int64_3) (.seq (.reg c_slices_IndexFunc_SS_int64_int64_4) (.cond (tt 16) (.seq (.reg c_slices_IndexFunc_SS_int64_int64_5) (.ret)) (.skip))))) (.reg c_slices_IndexFunc_SS_int64_int64_6)))
abbrev c_slices_IndexFunc_SS_int64_int64_8 : List GOp := [oo 4 (.mv (ci (-1)))]
abbrev c_slices_IndexFunc_SS_int64_int64 : GCode := .seq (.reg c_slices_IndexFunc_SS_int64_int64_0) (.seq (.seq (.reg c_slices_IndexFunc_SS_int64_int64_1) (.blk 0 (.loop c_slices_IndexFunc_SS_int64_int64_l0))) (.seq (.reg c_slices_IndexFunc_SS_int64_int64_8) (.ret)))
theorem c_slices_IndexFunc_SS_int64_int64_d : decFn Try.prog Try.f253 = some (19, [.t 4], c_slices_IndexFunc_SS_int64_int64) := by kernel_rfl
theorem c_slices_IndexFunc_SS_int64_int64_i {args : List Value} {G : GH} {K : Value → GH → Prop} (hn : args.length ≤ 19) (h : gW Try.prog c_slices_IndexFunc_SS_int64_int64 (RetK [.t 4] K) (T0 args) G) : GC Try.prog 253 args G K := GC_intro mixed Try.func253 c_slices_IndexFunc_SS_int64_int64_d hn h
abbrev c_slices_IndexFunc_int64_int64_0 : List GOp := [oo 4 (.mv (ci 0))]
abbrev c_slices_IndexFunc_int64_int64_1 : List GOp := [oo 6 (.mv (tt 0)), oo 7 (.len (tt 6)), oo 8 (.mv (ci 0))]
abbrev c_slices_IndexFunc_int64_int64_2 : List GOp := [oo 9 (.bin .lss (tt 8) (tt 7))]
abbrev c_slices_IndexFunc_int64_int64_3 : List GOp := [oo 10 (.mv (tt 8)), oo 5 (.mv (tt 10))]
abbrev c_slices_IndexFunc_int64_int64_4 : List GOp := [oo 11 (.mv (tt 1)), oo 12 (.mv (tt 0)), oo 13 (.mv (tt 5)), oo 14 (.ia 1 (tt 12) (tt 13)), oo 15 (.ld (tt 14)), oo 16 (.call (tt 11) [tt 15])]
abbrev c_slices_IndexFunc_int64_int64_5 : List GOp := [oo 17 (.mv (tt 5)), oo 4 (.mv (tt 17))]
abbrev c_slices_IndexFunc_int64_int64_6 : List GOp := [oo 18 (.bin .add (tt 8) (ci 1)), oo 8 (.mv (tt 18))]
abbrev c_slices_IndexFunc_int64_int64_l0 : GCode := .seq (.reg c_slices_IndexFunc_int64_int64_2) (.seq (.cond (tt 9) (.skip) (.exit 0)) (.seq (.blk 1 (.seq (.reg c_slices_IndexFunc_int64_int64_3) (.seq (.reg c_slices_IndexFunc_int64_int64_4) (.cond (tt 16) (.seq (.reg c_slices_IndexFunc_int64_int64_5) (.ret)) (.skip))))) (.reg c_slices_IndexFunc_int64_int64_6)))
abbrev c_slices_IndexFunc_int64_int64_8 : List GOp := [oo 4 (.mv (ci (-1)))]
abbrev c_slices_IndexFunc_int64_int64 : GCode := .seq (.reg c_slices_IndexFunc_int64_int64_0) (.seq (.seq (.reg c_slices_IndexFunc_int64_int64_1) (.blk 0 (.loop c_slices_IndexFunc_int64_int64_l0))) (.seq (.reg c_slices_IndexFunc_int64_int64_8) (.ret)))
theorem c_slices_IndexFunc_int64_int64_d : decFn Try.prog Try.f222 = some (19, [.t 4], c_slices_IndexFunc_int64_int64) := by kernel_rfl
theorem c_slices_IndexFunc_int64_int64_i {args : List Value} {G : GH} {K : Value → GH → Prop} (hn : args.length ≤ 19) (h : gW Try.prog c_slices_IndexFunc_int64_int64 (RetK [.t 4] K) (T0 args) G) : GC Try.prog 222 args G K := GC_intro mixed Try.func222 c_slices_IndexFunc_int64_int64_d hn h
abbrev c_slices_Index_int64_int64_0 : List GOp := [oo 4 (.mv (ci 0))]
abbrev c_slices_Index_int64_int64_1 : List GOp := [oo 6 (.mv (tt 0)), oo 7 (.len (tt 6)), oo 8 (.mv (ci 0))]
abbrev c_slices_Index_int64_int64_2 : List GOp := [oo 9 (.bin .lss (tt 8) (tt 7))]
abbrev c_slices_Index_int64_int64_3 : List GOp := [oo 10 (.mv (tt 8)), oo 5 (.mv (tt 10))]
abbrev c_slices_Index_int64_int64_4 : List GOp := [oo 11 (.mv (tt 1)), oo 12 (.mv (tt 0)), oo 13 (.mv (tt 5)), oo 14 (.ia 1 (tt 12) (tt 13)), oo 15 (.ld (tt 14)), oo 16 (.bin .eql (tt 11) (tt 15))]
abbrev c_slices_Index_int64_int64_5 : List GOp := [oo 17 (.mv (tt 5)), oo 4 (.mv (tt 17))]
abbrev c_slices_Index_int64_int64_6 : List GOp := [oo 18 (.bin .add (tt 8) (ci 1)), oo 8 (.mv (tt 18))]
abbrev c_slices_Index_int64_int64_l0 : GCode := .seq (.reg c_slices_Index_int64_int64_2) (.seq (.cond (tt 9) (.skip) (.exit 0)) (.seq (.blk 1 (.seq (.reg c_slices_Index_int64_int64_3) (.seq (.reg c_slices_Index_int64_int64_4) (.cond (tt 16) (.seq (.reg c_slices_Index_int64_int64_5) (.ret)) (.skip))))) (.reg c_slices_Index_int64_int64_6)))
abbrev c_slices_Index_int64_int64_8 : List GOp := [oo 4 (.mv (ci (-1)))]
abbrev c_slices_Index_int64_int64 : GCode := .seq (.reg c_slices_Index_int64_int64_0) (.seq (.seq (.reg c_slices_Index_int64_int64_1) (.blk 0 (.loop c_slices_Index_int64_int64_l0))) (.seq (.reg c_slices_Index_int64_int64_8) (.ret)))
theorem c_slices_Index_int64_int64_d : decFn Try.prog Try.f166 = some (19, [.t 4], c_slices_Index_int64_int64) := by kernel_rfl
theorem c_slices_Index_int64_int64_i {args : List Value} {G : GH} {K : Value → GH → Prop} (hn : args.length ≤ 19) (h : gW Try.prog c_slices_Index_int64_int64 (RetK [.t 4] K) (T0 args) G) : GC Try.prog 166 args G K := GC_intro mixed Try.func166 c_slices_Index_int64_int64_d hn h
abbrev c_spec_ApplyLaplacian_0 : List GOp := [oo 2 (.bx (tt 0)), oo 4 (.mv (.const (.slice none 0 0))), oo 5 (.mv (ci 0))]
abbrev c_spec_ApplyLaplacian_1 : List GOp := [oo 7 (.mv (tt 1)), oo 8 (.call (ff 100) [tt 2, tt 7]), oo 6 (.mv (tt 8))]
abbrev c_spec_ApplyLaplacian_2 : List GOp := [oo 9 (.mv (tt 6)), oo 10 (.bin .neq (tt 9) (ci 0))]
abbrev c_spec_ApplyLaplacian_3 : List GOp := [oo 11 (.mv (tt 6)), oo 4 (.mv (.const (.slice none 0 0))), oo 5 (.mv (tt 11))]
abbrev c_spec_ApplyLaplacian_4 : List GOp := [oo 12 (.mv (tt 1)), oo 13 (.call (ff 133) [tt 2, tt 12]), oo 4 (.mv (tt 13)), oo 5 (.mv (ci 0))]
abbrev c_spec_ApplyLaplacian : GCode := .seq (.reg c_spec_ApplyLaplacian_0) (.seq (.reg c_spec_ApplyLaplacian_1) (.seq (.seq (.reg c_spec_ApplyLaplacian_2) (.cond (tt 10) (.seq (.reg c_spec_ApplyLaplacian_3) (.ret)) (.skip))) (.seq (.reg c_spec_ApplyLaplacian_4) (.ret))))
theorem c_spec_ApplyLaplacian_d : decFn Try.prog Try.f78 = some (14, [.t 4, .t 5], c_spec_ApplyLaplacian) := by kernel_rfl
theorem c_spec_ApplyLaplacian_i {args : List Value} {G : GH} {K : Value → GH → Prop} (hn : args.length ≤ 14) (h : gW Try.prog c_spec_ApplyLaplacian (RetK [.t 4, .t 5] K) (T0 args) G) : GC Try.prog 78 args G K := GC_intro mixed Try.func78 c_spec_ApplyLaplacian_d hn h
abbrev c_spec_DrawCutWeight_0 : List GOp := [oo 2 (.al [.int .i64 0, .slice none 0 0]), oo 3 (.mv (.const (.slice none 0 0)))]
abbrev c_spec_DrawCutWeight_1 : List GOp := [oo 6 (.mv (tt 0)), oo 7 (.call (ff 145) [tt 6]), oo 4 (.mv (tt 7))]
abbrev c_spec_DrawCutWeight_2 : List GOp := [oo 8 (.mv (tt 4)), oo 9 (.call (ff 146) [tt 8]), oo 5 (.al [.int .i64 0, .slice none 0 0]), on (.st 2 (tt 5) (tt 9))]
abbrev c_spec_DrawCutWeight_3 : List DOp := [dl 0 (oo 10 (.ldn 2 (tt 5))), dl 1 (oo 11 (.mv (tt 4))), dh 2 [0] (oo 12 (.call (ff 173) [tt 11, tt 5])), dh 3 [] (on (.st 2 (tt 2) (tt 10))), dl 4 (oo 3 (.mv (tt 12)))]
abbrev c_spec_DrawCutWeight : GCode := .seq (.reg c_spec_DrawCutWeight_0) (.seq (.reg c_spec_DrawCutWeight_1) (.seq (.reg c_spec_DrawCutWeight_2) (.seq (.dreg c_spec_DrawCutWeight_3) (.ret))))
theorem c_spec_DrawCutWeight_d : decFn Try.prog Try.f79 = some (13, [.cn 2 2, .t 3], c_spec_DrawCutWeight) := by kernel_rfl
theorem c_spec_DrawCutWeight_i {args : List Value} {G : GH} {K : Value → GH → Prop} (hn : args.length ≤ 13) (h : gW Try.prog c_spec_DrawCutWeight (RetK [.cn 2 2, .t 3] K) (T0 args) G) : GC Try.prog 79 args G K := GC_intro mixed Try.func79 c_spec_DrawCutWeight_d hn h
abbrev c_spec_DrawHarmonicModulo_0 : List GOp := [oo 2 (.al [.int .i64 0, .slice none 0 0]), oo 3 (.mv (ci 0)), oo 4 (.mv (.const (.slice none 0 0))), oo 5 (.mv (.const (.slice none 0 0)))]
abbrev c_spec_DrawHarmonicModulo_1 : List GOp := [oo 11 (.mv (tt 0)), oo 12 (.call (ff 145) [tt 11]), oo 6 (.mv (tt 12))]
abbrev c_spec_DrawHarmonicModulo_2 : List GOp := [oo 13 (.mv (tt 6)), oo 14 (.call (ff 146) [tt 13]), oo 7 (.al [.int .i64 0, .slice none 0 0]), on (.st 2 (tt 7) (tt 14))]
abbrev c_spec_DrawHarmonicModulo_3 : List GOp := [oo 15 (.mv (tt 6)), oo 16 (.call (ff 172) [tt 15]), oo 8 (.mv (tt 16))]
abbrev c_spec_DrawHarmonicModulo_4 : List GOp := [oo 17 (.mv (tt 6)), oo 18 (.call (ff 173) [tt 17, tt 7]), oo 9 (.mv (tt 18))]
abbrev c_spec_DrawHarmonicModulo_5 : List GOp := [oo 19 (.mv (tt 6)), oo 20 (.mv (tt 9)), oo 21 (.len (tt 20)), oo 22 (.mv (tt 8)), oo 23 (.call (ff 174) [tt 19, tt 21, tt 22]), oo 10 (.mv (tt 23))]
abbrev c_spec_DrawHarmonicModulo_6 : List DOp := [dl 0 (oo 24 (.ldn 2 (tt 7))), dl 1 (oo 25 (.mv (tt 8))), dl 2 (oo 26 (.mv (tt 9))), dl 3 (oo 27 (.mv (tt 6))), dl 4 (oo 28 (.mv (tt 10))), dl 5 (oo 29 (.mv (tt 8))), dh 6 [0] (oo 30 (.call (ff 175) [tt 27, tt 28, tt 29])), dh 7 [] (on (.st 2 (tt 2) (tt 24))), dl 8 (oo 3 (.mv (tt 25))), dl 9 (oo 4 (.mv (tt 26))), dl 10 (oo 5 (.mv (tt 30)))]
abbrev c_spec_DrawHarmonicModulo : GCode := .seq (.reg c_spec_DrawHarmonicModulo_0) (.seq (.reg c_spec_DrawHarmonicModulo_1) (.seq (.reg c_spec_DrawHarmonicModulo_2) (.seq (.reg c_spec_DrawHarmonicModulo_3) (.seq (.reg c_spec_DrawHarmonicModulo_4) (.seq (.reg c_spec_DrawHarmonicModulo_5) (.seq (.dreg c_spec_DrawHarmonicModulo_6) (.ret)))))))
theorem c_spec_DrawHarmonicModulo_d : decFn Try.prog Try.f76 = some (31, [.cn 2 2, .t 3, .t 4, .t 5], c_spec_DrawHarmonicModulo) := by kernel_rfl
theorem c_spec_DrawHarmonicModulo_i {args : List Value} {G : GH} {K : Value → GH → Prop} (hn : args.length ≤ 31) (h : gW Try.prog c_spec_DrawHarmonicModulo (RetK [.cn 2 2, .t 3, .t 4, .t 5] K) (T0 args) G) : GC Try.prog 76 args G K := GC_intro mixed Try.func76 c_spec_DrawHarmonicModulo_d hn h
abbrev c_spec_ValidVector_0 : List GOp := [oo 4 (.mv (cb  false))]
abbrev c_spec_ValidVector_1 : List GOp := [oo 5 (.mv (tt 1)), oo 6 (.call (ff 158) [tt 5]), oo 7 (.mv (tt 6)), og 8 7 true (.mv (tt 0)), og 9 7 true (.mv (tt 1)), og 10 7 true (.call (ff 159) [tt 8, tt 9]), oo 11 (.pick (tt 7) (tt 10) (cb  false)), oo 4 (.mv (tt 11))]
abbrev c_spec_ValidVector : GCode := .seq (.reg c_spec_ValidVector_0) (.seq (.reg c_spec_ValidVector_1) (.ret))
theorem c_spec_ValidVector_d : decFn Try.prog Try.f77 = some (12, [.t 4], c_spec_ValidVector) := by kernel_rfl
theorem c_spec_ValidVector_i {args : List Value} {G : GH} {K : Value → GH → Prop} (hn : args.length ≤ 12) (h : gW Try.prog c_spec_ValidVector (RetK [.t 4] K) (T0 args) G) : GC Try.prog 77 args G K := GC_intro mixed Try.func77 c_spec_ValidVector_d hn h
abbrev c_spec_l00From_0 : List GOp := [oo 2 (.mv (.const (.pointer none)))]
abbrev c_spec_l00From_1 : List GOp := [oo 3 (.mv (tt 0)), oo 4 (.bld [.slice none 0 0, .int .i64 0, .int .u64 0] [(0, 1, (tt 3))]), oo 5 (.bx (tt 4)), oo 2 (.mv (tt 5))]
abbrev c_spec_l00From : GCode := .seq (.reg c_spec_l00From_0) (.seq (.reg c_spec_l00From_1) (.ret))
theorem c_spec_l00From_d : decFn Try.prog Try.f145 = some (6, [.t 2], c_spec_l00From) := by kernel_rfl
theorem c_spec_l00From_i {args : List Value} {G : GH} {K : Value → GH → Prop} (hn : args.length ≤ 6) (h : gW Try.prog c_spec_l00From (RetK [.t 2] K) (T0 args) G) : GC Try.prog 145 args G K := GC_intro mixed Try.func145 c_spec_l00From_d hn h
abbrev c_spec_l00In_0 : List GOp := [oo 6 (.mv (cb  false))]
abbrev c_spec_l00In_1 : List GOp := [oo 7 (.mv (tt 0)), oo 8 (.mv (tt 1)), oo 9 (.bin .geq (tt 7) (tt 8)), oo 10 (.mv (tt 9)), og 11 10 true (.mv (tt 0)), og 12 10 true (.mv (tt 2)), og 13 10 true (.bin .leq (tt 11) (tt 12)), oo 14 (.pick (tt 10) (tt 13) (cb  false)), oo 6 (.mv (tt 14))]
abbrev c_spec_l00In : GCode := .seq (.reg c_spec_l00In_0) (.seq (.reg c_spec_l00In_1) (.ret))
theorem c_spec_l00In_d : decFn Try.prog Try.f121 = some (15, [.t 6], c_spec_l00In) := by kernel_rfl
theorem c_spec_l00In_i {args : List Value} {G : GH} {K : Value → GH → Prop} (hn : args.length ≤ 15) (h : gW Try.prog c_spec_l00In (RetK [.t 6] K) (T0 args) G) : GC Try.prog 121 args G K := GC_intro mixed Try.func121 c_spec_l00In_d hn h
abbrev c_spec_l00Max_0 : List GOp := [oo 4 (.mv (ci 0))]
abbrev c_spec_l00Max_1 : List GOp := [oo 5 (.mv (tt 0)), oo 6 (.mv (tt 1)), oo 7 (.bin .gtr (tt 5) (tt 6))]
abbrev c_spec_l00Max_2 : List GOp := [oo 8 (.mv (tt 0)), oo 4 (.mv (tt 8))]
abbrev c_spec_l00Max_3 : List GOp := [oo 9 (.mv (tt 1)), oo 4 (.mv (tt 9))]
abbrev c_spec_l00Max : GCode := .seq (.reg c_spec_l00Max_0) (.seq (.seq (.reg c_spec_l00Max_1) (.cond (tt 7) (.seq (.reg c_spec_l00Max_2) (.ret)) (.skip))) (.seq (.reg c_spec_l00Max_3) (.ret)))
theorem c_spec_l00Max_d : decFn Try.prog Try.f113 = some (10, [.t 4], c_spec_l00Max) := by kernel_rfl
theorem c_spec_l00Max_i {args : List Value} {G : GH} {K : Value → GH → Prop} (hn : args.length ≤ 10) (h : gW Try.prog c_spec_l00Max (RetK [.t 4] K) (T0 args) G) : GC Try.prog 113 args G K := GC_intro mixed Try.func113 c_spec_l00Max_d hn h
abbrev c_spec_l00Src_among_0 : List GOp := [oo 4 (.mv (ci 0))]
abbrev c_spec_l00Src_among_1 : List GOp := [oo 5 (.mv (tt 1)), oo 6 (.mv (tt 0)), oo 7 (.mv (tt 1)), oo 8 (.len (tt 7)), oo 9 (.call (ff 220) [tt 6, tt 8]), oo 10 (.ia 1 (tt 5) (tt 9)), oo 11 (.ld (tt 10)), oo 4 (.mv (tt 11))]
abbrev c_spec_l00Src_among : GCode := .seq (.reg c_spec_l00Src_among_0) (.seq (.reg c_spec_l00Src_among_1) (.ret))
theorem c_spec_l00Src_among_d : decFn Try.prog Try.f157 = some (12, [.t 4], c_spec_l00Src_among) := by kernel_rfl
theorem c_spec_l00Src_among_i {args : List Value} {G : GH} {K : Value → GH → Prop} (hn : args.length ≤ 12) (h : gW Try.prog c_spec_l00Src_among (RetK [.t 4] K) (T0 args) G) : GC Try.prog 157 args G K := GC_intro mixed Try.func157 c_spec_l00Src_among_d hn h
abbrev c_spec_l00Src_next_0 : List GOp := [oo 2 (.mv (ci 0))]
abbrev c_spec_l00Src_next_1 : List GOp := [oo 3 (.mv (ci 0))]
abbrev c_spec_l00Src_next_2 : List DOp := [dl 0 (oo 4 (.mv (tt 0))), dl 1 (oo 5 (.nc (tt 4))), dl 2 (oo 6 (.fa 1 (tt 5))), dl 3 (oo 7 (.ld (tt 6))), dl 4 (oo 8 (.mv (tt 0))), dl 5 (oo 9 (.nc (tt 8))), dl 6 (oo 10 (.fa 0 (tt 9))), dl 7 (oo 11 (.ld (tt 10))), dl 8 (oo 12 (.len (tt 11))), dl 9 (oo 13 (.bin .lss (tt 7) (tt 12)))]
abbrev c_spec_l00Src_next_3 : List DOp := [dl 0 (oo 14 (.mv (tt 0))), dl 1 (oo 15 (.nc (tt 14))), dl 2 (oo 16 (.fa 0 (tt 15))), dl 3 (oo 17 (.ld (tt 16))), dl 4 (oo 18 (.mv (tt 0))), dl 5 (oo 19 (.nc (tt 18))), dl 6 (oo 20 (.fa 1 (tt 19))), dl 7 (oo 21 (.ld (tt 20))), dl 8 (oo 22 (.ia 1 (tt 17) (tt 21))), dl 9 (oo 23 (.ld (tt 22))), dl 10 (oo 24 (.cvi .i64 (tt 23))), dl 11 (oo 3 (.mv (tt 24)))]
abbrev c_spec_l00Src_next_4 : List GOp := [oo 25 (.mv (tt 0)), oo 26 (.nc (tt 25)), oo 27 (.fa 1 (tt 26)), oo 28 (.ld (tt 27)), oo 29 (.bin .add (tt 28) (ci 1)), oo 30 (.nc (tt 25)), oo 31 (.fa 1 (tt 30)), on (.st 1 (tt 31) (tt 29))]
abbrev c_spec_l00Src_next_5 : List GOp := [oo 32 (.mv (tt 0)), oo 33 (.mv (tt 0)), oo 34 (.nc (tt 33)), oo 35 (.fa 2 (tt 34)), oo 36 (.ld (tt 35)), oo 37 (.bin .mul (tt 36) (.const (.int .u64 6364136223846793005))), oo 38 (.mv (tt 3)), oo 39 (.cvi .u64 (tt 38)), oo 40 (.bin .add (tt 37) (tt 39)), oo 41 (.bin .add (tt 40) (.const (.int .u64 1442695040888963407))), oo 42 (.nc (tt 32)), oo 43 (.fa 2 (tt 42)), on (.st 1 (tt 43) (tt 41))]
abbrev c_spec_l00Src_next_6 : List DOp := [dl 0 (oo 44 (.mv (tt 0))), dl 1 (oo 45 (.nc (tt 44))), dl 2 (oo 46 (.fa 1 (tt 45))), dl 3 (oo 47 (.ld (tt 46))), dl 4 (oo 48 (.mv (tt 0))), dl 5 (oo 49 (.nc (tt 48))), dl 6 (oo 50 (.fa 0 (tt 49))), dl 7 (oo 51 (.ld (tt 50))), dl 8 (oo 52 (.len (tt 51))), dl 9 (oo 53 (.bin .leq (tt 47) (tt 52)))]
abbrev c_spec_l00Src_next_7 : List GOp := [oo 54 (.mv (tt 3)), oo 2 (.mv (tt 54))]
abbrev c_spec_l00Src_next_8 : List GOp := [oo 55 (.mv (tt 0)), oo 56 (.nc (tt 55)), oo 57 (.fa 2 (tt 56)), oo 58 (.ld (tt 57)), oo 59 (.bin .shr (tt 58) (.const (.int .u64 40))), oo 60 (.bin .and (tt 59) (.const (.int .u64 255))), oo 61 (.cvi .i64 (tt 60)), oo 2 (.mv (tt 61))]
abbrev c_spec_l00Src_next : GCode := .seq (.reg c_spec_l00Src_next_0) (.seq (.reg c_spec_l00Src_next_1) (.seq (.seq (.dreg c_spec_l00Src_next_2) (.cond (tt 13) (.dreg c_spec_l00Src_next_3) (.skip))) (.seq (.reg c_spec_l00Src_next_4) (.seq (.reg c_spec_l00Src_next_5) (.seq (.seq (.dreg c_spec_l00Src_next_6) (.cond (tt 53) (.seq (.reg c_spec_l00Src_next_7) (.ret)) (.skip))) (.seq (.reg c_spec_l00Src_next_8) (.ret)))))))
theorem c_spec_l00Src_next_d : decFn Try.prog Try.f249 = some (62, [.t 2], c_spec_l00Src_next) := by kernel_rfl
theorem c_spec_l00Src_next_i {args : List Value} {G : GH} {K : Value → GH → Prop} (hn : args.length ≤ 62) (h : gW Try.prog c_spec_l00Src_next (RetK [.t 2] K) (T0 args) G) : GC Try.prog 249 args G K := GC_intro mixed Try.func249 c_spec_l00Src_next_d hn h
abbrev c_spec_l00Src_one_0 : List GOp := [oo 4 (.mv (cb  false))]
abbrev c_spec_l00Src_one_1 : List GOp := [oo 5 (.mv (tt 0)), oo 6 (.mv (tt 1)), oo 7 (.call (ff 220) [tt 5, tt 6]), oo 8 (.bin .eql (tt 7) (ci 0)), oo 4 (.mv (tt 8))]
abbrev c_spec_l00Src_one : GCode := .seq (.reg c_spec_l00Src_one_0) (.seq (.reg c_spec_l00Src_one_1) (.ret))
theorem c_spec_l00Src_one_d : decFn Try.prog Try.f221 = some (9, [.t 4], c_spec_l00Src_one) := by kernel_rfl
theorem c_spec_l00Src_one_i {args : List Value} {G : GH} {K : Value → GH → Prop} (hn : args.length ≤ 9) (h : gW Try.prog c_spec_l00Src_one (RetK [.t 4] K) (T0 args) G) : GC Try.prog 221 args G K := GC_intro mixed Try.func221 c_spec_l00Src_one_d hn h
abbrev c_spec_l00Src_pick_0 : List GOp := [oo 4 (.mv (ci 0))]
abbrev c_spec_l00Src_pick_1 : List GOp := [oo 6 (.mv (tt 1)), oo 7 (.bin .leq (tt 6) (ci 1))]
abbrev c_spec_l00Src_pick_2 : List GOp := [oo 4 (.mv (ci 0))]
abbrev c_spec_l00Src_pick_3 : List GOp := [oo 8 (.mv (tt 0)), oo 9 (.call (ff 249) [tt 8]), oo 5 (.mv (tt 9))]
abbrev c_spec_l00Src_pick_4 : List GOp := [oo 10 (.mv (tt 1)), oo 11 (.bin .gtr (tt 10) (ci 200))]
abbrev c_spec_l00Src_pick_5 : List GOp := [oo 12 (.mv (tt 5)), oo 13 (.bin .mul (tt 12) (ci 256)), oo 14 (.mv (tt 0)), oo 15 (.call (ff 249) [tt 14]), oo 16 (.bin .add (tt 13) (tt 15)), oo 5 (.mv (tt 16))]
abbrev c_spec_l00Src_pick_6 : List GOp := [oo 17 (.mv (tt 5)), oo 18 (.mv (tt 1)), oo 19 (.bin .rem (tt 17) (tt 18)), oo 4 (.mv (tt 19))]
abbrev c_spec_l00Src_pick : GCode := .seq (.reg c_spec_l00Src_pick_0) (.seq (.seq (.reg c_spec_l00Src_pick_1) (.cond (tt 7) (.seq (.reg c_spec_l00Src_pick_2) (.ret)) (.skip))) (.seq (.reg c_spec_l00Src_pick_3) (.seq (.seq (.reg c_spec_l00Src_pick_4) (.cond (tt 11) (.reg c_spec_l00Src_pick_5) (.skip))) (.seq (.reg c_spec_l00Src_pick_6) (.ret)))))
theorem c_spec_l00Src_pick_d : decFn Try.prog Try.f220 = some (20, [.t 4], c_spec_l00Src_pick) := by kernel_rfl
theorem c_spec_l00Src_pick_i {args : List Value} {G : GH} {K : Value → GH → Prop} (hn : args.length ≤ 20) (h : gW Try.prog c_spec_l00Src_pick (RetK [.t 4] K) (T0 args) G) : GC Try.prog 220 args G K := GC_intro mixed Try.func220 c_spec_l00Src_pick_d hn h
abbrev c_spec_l02Bend_0 : List GOp := [oo 6 (.mv (.const (.slice none 0 0)))]
abbrev c_spec_l02Bend_1 : List GOp := [oo 7 (.mv (tt 0)), oo 8 (.call (ff 220) [tt 7, (ci 24)])]
abbrev c_spec_l02Bend_2 : List GOp := [oo 10 (.bin .eql (tt 8) (ci 0)), oo 9 (.mv (tt 10))]
abbrev c_spec_l02Bend_3 : List GOp := [oo 11 (.mv (tt 1)), oo 12 (.mv (tt 0)), oo 13 (.mv (tt 2)), oo 14 (.bs 1 [(ci (-1)), tt 13]), oo 15 (.call (ff 157) [tt 12, tt 14]), oo 16 (.bs 1 [tt 15]), oo 17 (.ap 1 8 [.int .i64 0] (tt 11) (tt 16)), oo 1 (.mv (tt 17))]
abbrev c_spec_l02Bend_4 : List GOp := [oo 19 (.bin .eql (tt 8) (ci 1)), oo 18 (.mv (tt 19))]
abbrev c_spec_l02Bend_5 : List GOp := [oo 20 (.mv (tt 0)), oo 21 (.bs 1 [(ci 64), (ci 65)]), oo 22 (.call (ff 157) [tt 20, tt 21]), oo 23 (.mk 1 8 [.int .i64 0] (tt 22) (tt 22)), oo 1 (.mv (tt 23))]
abbrev c_spec_l02Bend_6 : List GOp := [oo 25 (.bin .eql (tt 8) (ci 2)), oo 24 (.mv (tt 25))]
abbrev c_spec_l02Bend_7 : List GOp := [oo 26 (.mv (tt 1)), oo 27 (.bs 1 [(ci 0)]), oo 28 (.ap 1 8 [.int .i64 0] (tt 26) (tt 27)), oo 1 (.mv (tt 28))]
abbrev c_spec_l02Bend_8 : List GOp := [oo 29 (.mv (tt 1)), oo 6 (.mv (tt 29))]
abbrev c_spec_l02Bend : GCode := .seq (.reg c_spec_l02Bend_0) (.seq (.seq (.reg c_spec_l02Bend_1) (.blk 0 (.seq (.reg c_spec_l02Bend_2) (.cond (tt 9) (.reg c_spec_l02Bend_3) (.seq (.reg c_spec_l02Bend_4) (.cond (tt 18) (.reg c_spec_l02Bend_5) (.seq (.reg c_spec_l02Bend_6) (.cond (tt 24) (.reg c_spec_l02Bend_7) (.skip))))))))) (.seq (.reg c_spec_l02Bend_8) (.ret)))
theorem c_spec_l02Bend_d : decFn Try.prog Try.f175 = some (30, [.t 6], c_spec_l02Bend) := by kernel_rfl
theorem c_spec_l02Bend_i {args : List Value} {G : GH} {K : Value → GH → Prop} (hn : args.length ≤ 30) (h : gW Try.prog c_spec_l02Bend (RetK [.t 6] K) (T0 args) G) : GC Try.prog 175 args G K := GC_intro mixed Try.func175 c_spec_l02Bend_d hn h
abbrev c_spec_l02BentPrime_0 : List GOp := [oo 2 (.mv (ci 0))]
abbrev c_spec_l02BentPrime_1 : List GOp := [oo 3 (.mv (tt 0)), oo 4 (.call (ff 221) [tt 3, (ci 12)])]
abbrev c_spec_l02BentPrime_2 : List GOp := [oo 5 (.mv (tt 0)), oo 6 (.bs 1 [(ci (-2)), (ci 0), (ci 1), (ci 4), (ci 91), (ci 253), (ci 257)]), oo 7 (.call (ff 157) [tt 5, tt 6]), oo 2 (.mv (tt 7))]
abbrev c_spec_l02BentPrime_3 : List GOp := [oo 8 (.mv (tt 0)), oo 9 (.call (ff 232) [tt 8]), oo 2 (.mv (tt 9))]
abbrev c_spec_l02BentPrime : GCode := .seq (.reg c_spec_l02BentPrime_0) (.seq (.seq (.reg c_spec_l02BentPrime_1) (.cond (tt 4) (.seq (.reg c_spec_l02BentPrime_2) (.ret)) (.skip))) (.seq (.reg c_spec_l02BentPrime_3) (.ret)))
theorem c_spec_l02BentPrime_d : decFn Try.prog Try.f172 = some (10, [.t 2], c_spec_l02BentPrime) := by kernel_rfl
theorem c_spec_l02BentPrime_i {args : List Value} {G : GH} {K : Value → GH → Prop} (hn : args.length ≤ 10) (h : gW Try.prog c_spec_l02BentPrime (RetK [.t 2] K) (T0 args) G) : GC Try.prog 172 args G K := GC_intro mixed Try.func172 c_spec_l02BentPrime_d hn h
abbrev c_spec_l02DrawPrime_0 : List GOp := [oo 2 (.mv (ci 0))]
abbrev c_spec_l02DrawPrime_1 : List GOp := [oo 3 (.mv (tt 0)), oo 4 (.bs 1 [(ci 2), (ci 3), (ci 5), (ci 7), (ci 11), (ci 13), (ci 101), (ci 251)]), oo 5 (.call (ff 157) [tt 3, tt 4]), oo 2 (.mv (tt 5))]
abbrev c_spec_l02DrawPrime : GCode := .seq (.reg c_spec_l02DrawPrime_0) (.seq (.reg c_spec_l02DrawPrime_1) (.ret))
theorem c_spec_l02DrawPrime_d : decFn Try.prog Try.f232 = some (6, [.t 2], c_spec_l02DrawPrime) := by kernel_rfl
theorem c_spec_l02DrawPrime_i {args : List Value} {G : GH} {K : Value → GH → Prop} (hn : args.length ≤ 6) (h : gW Try.prog c_spec_l02DrawPrime (RetK [.t 2] K) (T0 args) G) : GC Try.prog 232 args G K := GC_intro mixed Try.func232 c_spec_l02DrawPrime_d hn h
abbrev c_spec_l02DrawVector_0 : List GOp := [oo 6 (.mv (.const (.slice none 0 0)))]
abbrev c_spec_l02DrawVector_1 : List GOp := [oo 9 (.bs 1 []), oo 7 (.mv (tt 9))]
abbrev c_spec_l02DrawVector_2 : List GOp := [oo 8 (.mv (ci 0))]
abbrev c_spec_l02DrawVector_3 : List GOp := [oo 10 (.mv (tt 8)), oo 11 (.mv (tt 1)), oo 12 (.bin .lss (tt 10) (tt 11))]
abbrev c_spec_l02DrawVector_4 : List GOp := [oo 15 (.mv (tt 7)), oo 16 (.mv (tt 0)), oo 17 (.mv (tt 2)), oo 18 (.call (ff 113) [(ci 1), tt 17]), oo 19 (.call (ff 220) [tt 16, tt 18]), oo 20 (.bs 1 [tt 19]), oo 21 (.ap 1 8 [.int .i64 0] (tt 15) (tt 20)), oo 7 (.mv (tt 21))]
abbrev c_spec_l02DrawVector_5 : List GOp := [oo 13 (.mv (tt 8)), oo 14 (.bin .add (tt 13) (ci 1)), oo 8 (.mv (tt 14))]
abbrev c_spec_l02DrawVector_l0 : GCode := .seq (.seq (.reg c_spec_l02DrawVector_3) (.cond (tt 12) (.skip) (.exit 0))) (.seq (.blk 1 (.reg c_spec_l02DrawVector_4)) (.reg c_spec_l02DrawVector_5))
abbrev c_spec_l02DrawVector_7 : List GOp := [oo 22 (.mv (tt 7)), oo 6 (.mv (tt 22))]
abbrev c_spec_l02DrawVector : GCode := .seq (.reg c_spec_l02DrawVector_0) (.seq (.reg c_spec_l02DrawVector_1) (.seq (.seq (.reg c_spec_l02DrawVector_2) (.blk 0 (.loop c_spec_l02DrawVector_l0))) (.seq (.reg c_spec_l02DrawVector_7) (.ret))))
theorem c_spec_l02DrawVector_d : decFn Try.prog Try.f174 = some (23, [.t 6], c_spec_l02DrawVector) := by kernel_rfl
theorem c_spec_l02DrawVector_i {args : List Value} {G : GH} {K : Value → GH → Prop} (hn : args.length ≤ 23) (h : gW Try.prog c_spec_l02DrawVector (RetK [.t 6] K) (T0 args) G) : GC Try.prog 174 args G K := GC_intro mixed Try.func174 c_spec_l02DrawVector_d hn h
abbrev c_spec_l02Numbers_0 : List GOp := [oo 4 (.mv (cb  false))]
abbrev c_spec_l02Numbers_1 : List GOp := [oo 5 (.mv (ci 0))]
abbrev c_spec_l02Numbers_2 : List GOp := [oo 6 (.mv (tt 5)), oo 7 (.mv (tt 0)), oo 8 (.len (tt 7)), oo 9 (.bin .lss (tt 6) (tt 8))]
abbrev c_spec_l02Numbers_3 : List GOp := [oo 12 (.mv (tt 0)), oo 13 (.mv (tt 5)), oo 14 (.ia 1 (tt 12) (tt 13)), oo 15 (.ld (tt 14)), oo 16 (.mv (tt 1)), oo 17 (.bin .sub (tt 16) (ci 1)), oo 18 (.call (ff 121) [tt 15, (ci 0), tt 17]), oo 19 (.un .not (tt 18))]
abbrev c_spec_l02Numbers_4 : List GOp := [oo 4 (.mv (cb  false))]
abbrev c_spec_l02Numbers_5 : List GOp := [oo 10 (.mv (tt 5)), oo 11 (.bin .add (tt 10) (ci 1)), oo 5 (.mv (tt 11))]
abbrev c_spec_l02Numbers_l0 : GCode := .seq (.seq (.reg c_spec_l02Numbers_2) (.cond (tt 9) (.skip) (.exit 0))) (.seq (.blk 1 (.seq (.reg c_spec_l02Numbers_3) (.cond (tt 19) (.seq (.reg c_spec_l02Numbers_4) (.ret)) (.skip)))) (.reg c_spec_l02Numbers_5))
abbrev c_spec_l02Numbers_7 : List GOp := [oo 20 (.mv (tt 0)), oo 21 (.len (tt 20)), oo 22 (.bin .leq (tt 21) (ci 64)), oo 4 (.mv (tt 22))]
abbrev c_spec_l02Numbers : GCode := .seq (.reg c_spec_l02Numbers_0) (.seq (.seq (.reg c_spec_l02Numbers_1) (.blk 0 (.loop c_spec_l02Numbers_l0))) (.seq (.reg c_spec_l02Numbers_7) (.ret)))
theorem c_spec_l02Numbers_d : decFn Try.prog Try.f159 = some (23, [.t 4], c_spec_l02Numbers) := by kernel_rfl
theorem c_spec_l02Numbers_i {args : List Value} {G : GH} {K : Value → GH → Prop} (hn : args.length ≤ 23) (h : gW Try.prog c_spec_l02Numbers (RetK [.t 4] K) (T0 args) G) : GC Try.prog 159 args G K := GC_intro mixed Try.func159 c_spec_l02Numbers_d hn h
abbrev c_spec_l02Prime_0 : List GOp := [oo 2 (.mv (cb  false))]
abbrev c_spec_l02Prime_1 : List GOp := [oo 4 (.mv (tt 0)), oo 5 (.call (ff 121) [tt 4, (ci 2), (ci 251)]), oo 6 (.un .not (tt 5))]
abbrev c_spec_l02Prime_2 : List GOp := [oo 2 (.mv (cb  false))]
abbrev c_spec_l02Prime_3 : List GOp := [oo 3 (.mv (ci 2))]
abbrev c_spec_l02Prime_4 : List GOp := [oo 7 (.mv (tt 3)), oo 8 (.mv (tt 3)), oo 9 (.bin .mul (tt 7) (tt 8)), oo 10 (.mv (tt 0)), oo 11 (.bin .leq (tt 9) (tt 10))]
abbrev c_spec_l02Prime_5 : List GOp := [oo 14 (.mv (tt 0)), oo 15 (.mv (tt 3)), oo 16 (.bin .rem (tt 14) (tt 15)), oo 17 (.bin .eql (tt 16) (ci 0))]
abbrev c_spec_l02Prime_6 : List GOp := [oo 2 (.mv (cb  false))]
abbrev c_spec_l02Prime_7 : List GOp := [oo 12 (.mv (tt 3)), oo 13 (.bin .add (tt 12) (ci 1)), oo 3 (.mv (tt 13))]
abbrev c_spec_l02Prime_l0 : GCode := .seq (.seq (.reg c_spec_l02Prime_4) (.cond (tt 11) (.skip) (.exit 0))) (.seq (.blk 1 (.seq (.reg c_spec_l02Prime_5) (.cond (tt 17) (.seq (.reg c_spec_l02Prime_6) (.ret)) (.skip)))) (.reg c_spec_l02Prime_7))
abbrev c_spec_l02Prime_9 : List GOp := [oo 2 (.mv (cb  true))]
abbrev c_spec_l02Prime : GCode := .seq (.reg c_spec_l02Prime_0) (.seq (.seq (.reg c_spec_l02Prime_1) (.cond (tt 6) (.seq (.reg c_spec_l02Prime_2) (.ret)) (.skip))) (.seq (.seq (.reg c_spec_l02Prime_3) (.blk 0 (.loop c_spec_l02Prime_l0))) (.seq (.reg c_spec_l02Prime_9) (.ret))))
theorem c_spec_l02Prime_d : decFn Try.prog Try.f158 = some (18, [.t 2], c_spec_l02Prime) := by kernel_rfl
theorem c_spec_l02Prime_i {args : List Value} {G : GH} {K : Value → GH → Prop} (hn : args.length ≤ 18) (h : gW Try.prog c_spec_l02Prime (RetK [.t 2] K) (T0 args) G) : GC Try.prog 158 args G K := GC_intro mixed Try.func158 c_spec_l02Prime_d hn h
abbrev c_spec_l16Apply_0 : List GOp := [oo 4 (.mv (.const (.slice none 0 0)))]
abbrev c_spec_l16Apply_1 : List GOp := [oo 9 (.mv (tt 0)), oo 10 (.nc (tt 9)), oo 11 (.fa 0 (tt 10)), oo 12 (.ld (tt 11)), oo 13 (.mk 1 8 [.int .i64 0] (tt 12) (tt 12)), oo 5 (.mv (tt 13))]
abbrev c_spec_l16Apply_2 : List GOp := [oo 6 (.mv (ci 0))]
abbrev c_spec_l16Apply_3 : List GOp := [oo 14 (.mv (tt 6)), oo 15 (.mv (tt 0)), oo 16 (.nc (tt 15)), oo 17 (.fa 1 (tt 16)), oo 18 (.ld (tt 17)), oo 19 (.len (tt 18)), oo 20 (.bin .lss (tt 14) (tt 19))]
abbrev c_spec_l16Apply_4 : List GOp := [oo 23 (.mv (tt 0)), oo 24 (.nc (tt 23)), oo 25 (.fa 1 (tt 24)), oo 26 (.ld (tt 25)), oo 27 (.mv (tt 6)), oo 28 (.ia 3 (tt 26) (tt 27)), oo 29 (.ldn 3 (tt 28)), oo 7 (.al [.int .i64 0, .int .i64 0, .int .i64 0]), on (.st 3 (tt 7) (tt 29))]
abbrev c_spec_l16Apply_5 : List DOp := [dl 0 (oo 30 (.fa 2 (tt 7))), dl 1 (oo 31 (.ld (tt 30))), dl 2 (oo 32 (.mv (tt 1))), dl 3 (oo 33 (.fa 0 (tt 7))), dl 4 (oo 34 (.ld (tt 33))), dl 5 (oo 35 (.ia 1 (tt 32) (tt 34))), dl 6 (oo 36 (.ld (tt 35))), dl 7 (oo 37 (.mv (tt 1))), dl 8 (oo 38 (.fa 1 (tt 7))), dl 9 (oo 39 (.ld (tt 38))), dl 10 (oo 40 (.ia 1 (tt 37) (tt 39))), dl 11 (oo 41 (.ld (tt 40))), dl 12 (oo 42 (.bin .sub (tt 36) (tt 41))), dl 13 (oo 43 (.bin .mul (tt 31) (tt 42))), dl 14 (oo 8 (.mv (tt 43)))]
abbrev c_spec_l16Apply_6 : List GOp := [oo 44 (.mv (tt 5)), oo 45 (.fa 0 (tt 7)), oo 46 (.ld (tt 45)), oo 47 (.ia 1 (tt 44) (tt 46)), oo 48 (.ld (tt 47)), oo 49 (.mv (tt 8)), oo 50 (.bin .add (tt 48) (tt 49)), oo 51 (.ia 1 (tt 44) (tt 46)), on (.st 1 (tt 51) (tt 50))]
abbrev c_spec_l16Apply_7 : List GOp := [oo 52 (.mv (tt 5)), oo 53 (.fa 1 (tt 7)), oo 54 (.ld (tt 53)), oo 55 (.ia 1 (tt 52) (tt 54)), oo 56 (.ld (tt 55)), oo 57 (.mv (tt 8)), oo 58 (.bin .sub (tt 56) (tt 57)), oo 59 (.ia 1 (tt 52) (tt 54)), on (.st 1 (tt 59) (tt 58))]
abbrev c_spec_l16Apply_8 : List GOp := [oo 21 (.mv (tt 6)), oo 22 (.bin .add (tt 21) (ci 1)), oo 6 (.mv (tt 22))]
abbrev c_spec_l16Apply_l0 : GCode := .seq (.seq (.reg c_spec_l16Apply_3) (.cond (tt 20) (.skip) (.exit 0))) (.seq (.blk 1 (.seq (.reg c_spec_l16Apply_4) (.seq (.dreg c_spec_l16Apply_5) (.seq (.reg c_spec_l16Apply_6) (.reg c_spec_l16Apply_7))))) (.reg c_spec_l16Apply_8))
abbrev c_spec_l16Apply_10 : List GOp := [oo 60 (.mv (tt 5)), oo 4 (.mv (tt 60))]
abbrev c_spec_l16Apply : GCode := .seq (.reg c_spec_l16Apply_0) (.seq (.reg c_spec_l16Apply_1) (.seq (.seq (.reg c_spec_l16Apply_2) (.blk 0 (.loop c_spec_l16Apply_l0))) (.seq (.reg c_spec_l16Apply_10) (.ret))))
theorem c_spec_l16Apply_d : decFn Try.prog Try.f133 = some (61, [.t 4], c_spec_l16Apply) := by kernel_rfl
theorem c_spec_l16Apply_i {args : List Value} {G : GH} {K : Value → GH → Prop} (hn : args.length ≤ 61) (h : gW Try.prog c_spec_l16Apply (RetK [.t 4] K) (T0 args) G) : GC Try.prog 133 args G K := GC_intro mixed Try.func133 c_spec_l16Apply_d hn h
abbrev c_spec_l16Ask_0 : List GOp := [oo 4 (.mv (ci 0))]
abbrev c_spec_l16Ask_1 : List GOp := [oo 5 (.mv (tt 0)), oo 6 (.call (ff 138) [tt 5]), oo 7 (.un .not (tt 6))]
abbrev c_spec_l16Ask_2 : List GOp := [oo 4 (.mv (ci 1))]
abbrev c_spec_l16Ask_3 : List GOp := [oo 8 (.mv (tt 0)), oo 9 (.mv (tt 1)), oo 10 (.call (ff 199) [tt 8, tt 9]), oo 11 (.un .not (tt 10))]
abbrev c_spec_l16Ask_4 : List GOp := [oo 4 (.mv (ci 2))]
abbrev c_spec_l16Ask_5 : List GOp := [oo 4 (.mv (ci 0))]
abbrev c_spec_l16Ask : GCode := .seq (.reg c_spec_l16Ask_0) (.seq (.seq (.reg c_spec_l16Ask_1) (.cond (tt 7) (.seq (.reg c_spec_l16Ask_2) (.ret)) (.skip))) (.seq (.seq (.reg c_spec_l16Ask_3) (.cond (tt 11) (.seq (.reg c_spec_l16Ask_4) (.ret)) (.skip))) (.seq (.reg c_spec_l16Ask_5) (.ret))))
theorem c_spec_l16Ask_d : decFn Try.prog Try.f100 = some (12, [.t 4], c_spec_l16Ask) := by kernel_rfl
theorem c_spec_l16Ask_i {args : List Value} {G : GH} {K : Value → GH → Prop} (hn : args.length ≤ 12) (h : gW Try.prog c_spec_l16Ask (RetK [.t 4] K) (T0 args) G) : GC Try.prog 100 args G K := GC_intro mixed Try.func100 c_spec_l16Ask_d hn h
abbrev c_spec_l16Draw_0 : List GOp := [oo 2 (.al [.int .i64 0, .slice none 0 0])]
abbrev c_spec_l16Draw_1 : List GOp := [oo 6 (.mv (tt 0)), oo 7 (.call (ff 219) [tt 6]), oo 3 (.al [.int .i64 0, .slice none 0 0]), on (.st 2 (tt 3) (tt 7))]
abbrev c_spec_l16Draw_2 : List GOp := [oo 8 (.mv (tt 0)), oo 9 (.call (ff 220) [tt 8, (ci 20)])]
abbrev c_spec_l16Draw_3 : List GOp := [oo 11 (.bin .eql (tt 9) (ci 0)), oo 10 (.mv (tt 11))]
abbrev c_spec_l16Draw_4 : List GOp := [oo 12 (.mv (tt 0)), oo 13 (.bs 1 [(ci 0), (ci 12), (ci 13)]), oo 14 (.call (ff 157) [tt 12, tt 13]), oo 15 (.fa 0 (tt 3)), on (.st 1 (tt 15) (tt 14))]
abbrev c_spec_l16Draw_5 : List GOp := [oo 17 (.bin .eql (tt 9) (ci 1)), oo 16 (.mv (tt 17))]
abbrev c_spec_l16Draw_6 : List DOp := [dl 0 (oo 18 (.fa 1 (tt 3))), dl 1 (oo 19 (.ld (tt 18))), dl 2 (oo 20 (.mv (tt 0))), dl 4 (oo 22 (.mv (tt 0))), dh 3 [1] (oo 21 (.call (ff 220) [tt 20, (ci 3)])), dh 5 [1] (oo 23 (.call (ff 220) [tt 22, (ci 4)])), dl 6 (oo 24 (.bld [.int .i64 0, .int .i64 0, .int .i64 0] [(0, 1, (tt 21)), (1, 1, (tt 23)), (2, 1, (ci 1))])), dh 7 [1] (oo 25 (.bs 3 [tt 24])), dh 8 [] (oo 26 (.ap 3 24 [.int .i64 0, .int .i64 0, .int .i64 0] (tt 19) (tt 25))), dl 9 (oo 27 (.fa 1 (tt 3))), dh 10 [] (on (.st 1 (tt 27) (tt 26)))]
abbrev c_spec_l16Draw_7 : List GOp := [oo 29 (.bin .eql (tt 9) (ci 2)), oo 28 (.mv (tt 29))]
abbrev c_spec_l16Draw_8 : List GOp := [oo 30 (.fa 1 (tt 3)), oo 31 (.ld (tt 30)), oo 32 (.len (tt 31)), oo 33 (.bin .gtr (tt 32) (ci 0))]
abbrev c_spec_l16Draw_9 : List DOp := [dl 0 (oo 34 (.fa 1 (tt 3))), dl 1 (oo 35 (.ld (tt 34))), dl 2 (oo 36 (.mv (tt 0))), dh 3 [1] (oo 37 (.bs 1 [(ci 0), (ci 9), (ci 10)])), dh 4 [1] (oo 38 (.call (ff 157) [tt 36, tt 37])), dl 5 (oo 39 (.ia 3 (tt 35) (ci 0))), dl 6 (oo 40 (.fa 2 (tt 39))), dh 7 [] (on (.st 1 (tt 40) (tt 38)))]
abbrev c_spec_l16Draw_10 : List GOp := [oo 42 (.bin .eql (tt 9) (ci 3)), oo 41 (.mv (tt 42))]
abbrev c_spec_l16Draw_11 : List GOp := [oo 43 (.mv (tt 0)), oo 44 (.bs 1 [(ci 24), (ci 25)]), oo 45 (.call (ff 157) [tt 43, tt 44]), oo 4 (.mv (tt 45))]
abbrev c_spec_l16Draw_12 : List GOp := [oo 46 (.bld [.int .i64 0, .slice none 0 0] [(0, 1, (ci 12))]), on (.st 2 (tt 3) (tt 46))]
abbrev c_spec_l16Draw_13 : List GOp := [oo 5 (.mv (ci 0))]
abbrev c_spec_l16Draw_14 : List GOp := [oo 47 (.mv (tt 5)), oo 48 (.mv (tt 4)), oo 49 (.bin .lss (tt 47) (tt 48))]
abbrev c_spec_l16Draw_15 : List GOp := [oo 52 (.fa 1 (tt 3)), oo 53 (.ld (tt 52)), oo 54 (.mv (tt 5)), oo 55 (.bin .quo (tt 54) (ci 8)), oo 56 (.mv (tt 5)), oo 57 (.bin .rem (tt 56) (ci 8)), oo 58 (.bin .add (ci 3) (tt 57)), oo 59 (.bld [.int .i64 0, .int .i64 0, .int .i64 0] [(0, 1, (tt 55)), (1, 1, (tt 58)), (2, 1, (ci 1))]), oo 60 (.bs 3 [tt 59]), oo 61 (.ap 3 24 [.int .i64 0, .int .i64 0, .int .i64 0] (tt 53) (tt 60)), oo 62 (.fa 1 (tt 3)), on (.st 1 (tt 62) (tt 61))]
abbrev c_spec_l16Draw_16 : List GOp := [oo 50 (.mv (tt 5)), oo 51 (.bin .add (tt 50) (ci 1)), oo 5 (.mv (tt 51))]
abbrev c_spec_l16Draw_l0 : GCode := .seq (.seq (.reg c_spec_l16Draw_14) (.cond (tt 49) (.skip) (.exit 1))) (.seq (.blk 2 (.reg c_spec_l16Draw_15)) (.reg c_spec_l16Draw_16))
abbrev c_spec_l16Draw_18 : List GOp := [oo 63 (.ldn 2 (tt 3)), on (.st 2 (tt 2) (tt 63))]
abbrev c_spec_l16Draw : GCode := .seq (.reg c_spec_l16Draw_0) (.seq (.reg c_spec_l16Draw_1) (.seq (.seq (.reg c_spec_l16Draw_2) (.blk 0 (.seq (.reg c_spec_l16Draw_3) (.cond (tt 10) (.reg c_spec_l16Draw_4) (.seq (.reg c_spec_l16Draw_5) (.cond (tt 16) (.dreg c_spec_l16Draw_6) (.seq (.reg c_spec_l16Draw_7) (.cond (tt 28) (.seq (.reg c_spec_l16Draw_8) (.cond (tt 33) (.dreg c_spec_l16Draw_9) (.skip))) (.seq (.reg c_spec_l16Draw_10) (.cond (tt 41) (.seq (.reg c_spec_l16Draw_11) (.seq (.reg c_spec_l16Draw_12) (.seq (.reg c_spec_l16Draw_13) (.blk 1 (.loop c_spec_l16Draw_l0))))) (.skip))))))))))) (.seq (.reg c_spec_l16Draw_18) (.ret))))
theorem c_spec_l16Draw_d : decFn Try.prog Try.f146 = some (64, [.cn 2 2], c_spec_l16Draw) := by kernel_rfl
theorem c_spec_l16Draw_i {args : List Value} {G : GH} {K : Value → GH → Prop} (hn : args.length ≤ 64) (h : gW Try.prog c_spec_l16Draw (RetK [.cn 2 2] K) (T0 args) G) : GC Try.prog 146 args G K := GC_intro mixed Try.func146 c_spec_l16Draw_d hn h
abbrev c_spec_l16DrawOk_0 : List GOp := [oo 2 (.al [.int .i64 0, .slice none 0 0])]
abbrev c_spec_l16DrawOk_1 : List GOp := [oo 7 (.mv (tt 0)), oo 8 (.call (ff 220) [tt 7, (ci 6)]), oo 9 (.bin .add (ci 1) (tt 8)), oo 10 (.bld [.int .i64 0, .slice none 0 0] [(0, 1, (tt 9))]), oo 3 (.al [.int .i64 0, .slice none 0 0]), on (.st 2 (tt 3) (tt 10))]
abbrev c_spec_l16DrawOk_2 : List GOp := [oo 11 (.mv (tt 0)), oo 12 (.bs 1 [(ci 2), (ci 2), (ci 3), (ci 9)]), oo 13 (.call (ff 157) [tt 11, tt 12]), oo 4 (.mv (tt 13))]
abbrev c_spec_l16DrawOk_3 : List GOp := [oo 14 (.mv (tt 0)), oo 15 (.call (ff 221) [tt 14, (ci 14)])]
abbrev c_spec_l16DrawOk_4 : List GOp := [oo 16 (.fa 0 (tt 3)), on (.st 1 (tt 16) (ci 12))]
abbrev c_spec_l16DrawOk_5 : List GOp := [oo 4 (.mv (ci 4))]
abbrev c_spec_l16DrawOk_6 : List GOp := [oo 5 (.mv (ci 0))]
abbrev c_spec_l16DrawOk_7 : List GOp := [oo 17 (.mv (tt 5)), oo 18 (.fa 0 (tt 3)), oo 19 (.ld (tt 18)), oo 20 (.bin .lss (tt 17) (tt 19))]
abbrev c_spec_l16DrawOk_8 : List GOp := [oo 23 (.mv (tt 5)), oo 24 (.bin .add (tt 23) (ci 1)), oo 6 (.mv (tt 24))]
abbrev c_spec_l16DrawOk_9 : List GOp := [oo 25 (.mv (tt 6)), oo 26 (.fa 0 (tt 3)), oo 27 (.ld (tt 26)), oo 28 (.bin .lss (tt 25) (tt 27))]
abbrev c_spec_l16DrawOk_10 : List GOp := [oo 31 (.mv (tt 0)), oo 32 (.mv (tt 4)), oo 33 (.call (ff 221) [tt 31, tt 32]), oo 34 (.un .not (tt 33)), oo 35 (.mv (tt 34)), og 36 35 true (.fa 1 (tt 3)), og 37 35 true (.ld (tt 36)), og 38 35 true (.len (tt 37)), og 39 35 true (.bin .lss (tt 38) (ci 24)), oo 40 (.pick (tt 35) (tt 39) (cb  false))]
abbrev c_spec_l16DrawOk_11 : List DOp := [dl 0 (oo 41 (.fa 1 (tt 3))), dl 1 (oo 42 (.ld (tt 41))), dl 2 (oo 43 (.mv (tt 5))), dl 3 (oo 44 (.mv (tt 6))), dl 4 (oo 45 (.mv (tt 0))), dh 5 [1] (oo 46 (.bs 1 [(ci 1), (ci 1), (ci 2), (ci 3), (ci 9)])), dh 6 [1] (oo 47 (.call (ff 157) [tt 45, tt 46])), dl 7 (oo 48 (.bld [.int .i64 0, .int .i64 0, .int .i64 0] [(0, 1, (tt 43)), (1, 1, (tt 44)), (2, 1, (tt 47))])), dh 8 [1] (oo 49 (.bs 3 [tt 48])), dh 9 [] (oo 50 (.ap 3 24 [.int .i64 0, .int .i64 0, .int .i64 0] (tt 42) (tt 49))), dl 10 (oo 51 (.fa 1 (tt 3))), dh 11 [] (on (.st 1 (tt 51) (tt 50)))]
abbrev c_spec_l16DrawOk_12 : List GOp := [oo 29 (.mv (tt 6)), oo 30 (.bin .add (tt 29) (ci 1)), oo 6 (.mv (tt 30))]
abbrev c_spec_l16DrawOk_l0 : GCode := .seq (.seq (.reg c_spec_l16DrawOk_9) (.cond (tt 28) (.skip) (.exit 2))) (.seq (.blk 3 (.seq (.reg c_spec_l16DrawOk_10) (.cond (tt 40) (.dreg c_spec_l16DrawOk_11) (.skip)))) (.reg c_spec_l16DrawOk_12))
abbrev c_spec_l16DrawOk_14 : List GOp := [oo 21 (.mv (tt 5)), oo 22 (.bin .add (tt 21) (ci 1)), oo 5 (.mv (tt 22))]
abbrev c_spec_l16DrawOk_l1 : GCode := .seq (.seq (.reg c_spec_l16DrawOk_7) (.cond (tt 20) (.skip) (.exit 0))) (.seq (.blk 1 (.seq (.reg c_spec_l16DrawOk_8) (.blk 2 (.loop c_spec_l16DrawOk_l0)))) (.reg c_spec_l16DrawOk_14))
abbrev c_spec_l16DrawOk_16 : List GOp := [oo 52 (.ldn 2 (tt 3)), on (.st 2 (tt 2) (tt 52))]
abbrev c_spec_l16DrawOk : GCode := .seq (.reg c_spec_l16DrawOk_0) (.seq (.reg c_spec_l16DrawOk_1) (.seq (.reg c_spec_l16DrawOk_2) (.seq (.seq (.reg c_spec_l16DrawOk_3) (.cond (tt 15) (.seq (.reg c_spec_l16DrawOk_4) (.reg c_spec_l16DrawOk_5)) (.skip))) (.seq (.seq (.reg c_spec_l16DrawOk_6) (.blk 0 (.loop c_spec_l16DrawOk_l1))) (.seq (.reg c_spec_l16DrawOk_16) (.ret))))))
theorem c_spec_l16DrawOk_d : decFn Try.prog Try.f219 = some (53, [.cn 2 2], c_spec_l16DrawOk) := by kernel_rfl
theorem c_spec_l16DrawOk_i {args : List Value} {G : GH} {K : Value → GH → Prop} (hn : args.length ≤ 53) (h : gW Try.prog c_spec_l16DrawOk (RetK [.cn 2 2] K) (T0 args) G) : GC Try.prog 219 args G K := GC_intro mixed Try.func219 c_spec_l16DrawOk_d hn h
abbrev c_spec_l16DrawSet_0 : List GOp := [oo 4 (.mv (.const (.slice none 0 0)))]
abbrev c_spec_l16DrawSet_1 : List GOp := [oo 7 (.bs 1 []), oo 5 (.mv (tt 7))]
abbrev c_spec_l16DrawSet_2 : List GOp := [oo 6 (.mv (ci 0))]
abbrev c_spec_l16DrawSet_3 : List GOp := [oo 8 (.mv (tt 6)), oo 9 (.mv (tt 1)), oo 10 (.nc (tt 9)), oo 11 (.fa 0 (tt 10)), oo 12 (.ld (tt 11)), oo 13 (.bin .lss (tt 8) (tt 12)), oo 14 (.mv (tt 13)), og 15 14 true (.mv (tt 6)), og 16 14 true (.bin .lss (tt 15) (ci 20)), oo 17 (.pick (tt 14) (tt 16) (cb  false))]
abbrev c_spec_l16DrawSet_4 : List GOp := [oo 20 (.mv (tt 0)), oo 21 (.call (ff 221) [tt 20, (ci 2)])]
abbrev c_spec_l16DrawSet_5 : List GOp := [oo 22 (.mv (tt 5)), oo 23 (.mv (tt 6)), oo 24 (.bs 1 [tt 23]), oo 25 (.ap 1 8 [.int .i64 0] (tt 22) (tt 24)), oo 5 (.mv (tt 25))]
abbrev c_spec_l16DrawSet_6 : List GOp := [oo 18 (.mv (tt 6)), oo 19 (.bin .add (tt 18) (ci 1)), oo 6 (.mv (tt 19))]
abbrev c_spec_l16DrawSet_l0 : GCode := .seq (.seq (.reg c_spec_l16DrawSet_3) (.cond (tt 17) (.skip) (.exit 0))) (.seq (.blk 1 (.seq (.reg c_spec_l16DrawSet_4) (.cond (tt 21) (.reg c_spec_l16DrawSet_5) (.skip)))) (.reg c_spec_l16DrawSet_6))
abbrev c_spec_l16DrawSet_8 : List GOp := [oo 26 (.mv (tt 0)), oo 27 (.call (ff 221) [tt 26, (ci 12)])]
abbrev c_spec_l16DrawSet_9 : List GOp := [oo 28 (.mv (tt 5)), oo 29 (.mv (tt 0)), oo 30 (.mv (tt 1)), oo 31 (.nc (tt 30)), oo 32 (.fa 0 (tt 31)), oo 33 (.ld (tt 32)), oo 34 (.bs 1 [(ci (-1)), (ci 0), tt 33]), oo 35 (.call (ff 157) [tt 29, tt 34]), oo 36 (.bs 1 [tt 35]), oo 37 (.ap 1 8 [.int .i64 0] (tt 28) (tt 36)), oo 5 (.mv (tt 37))]
abbrev c_spec_l16DrawSet_10 : List GOp := [oo 38 (.mv (tt 5)), oo 4 (.mv (tt 38))]
abbrev c_spec_l16DrawSet : GCode := .seq (.reg c_spec_l16DrawSet_0) (.seq (.reg c_spec_l16DrawSet_1) (.seq (.seq (.reg c_spec_l16DrawSet_2) (.blk 0 (.loop c_spec_l16DrawSet_l0))) (.seq (.seq (.reg c_spec_l16DrawSet_8) (.cond (tt 27) (.reg c_spec_l16DrawSet_9) (.skip))) (.seq (.reg c_spec_l16DrawSet_10) (.ret)))))
theorem c_spec_l16DrawSet_d : decFn Try.prog Try.f173 = some (39, [.t 4], c_spec_l16DrawSet) := by kernel_rfl
theorem c_spec_l16DrawSet_i {args : List Value} {G : GH} {K : Value → GH → Prop} (hn : args.length ≤ 39) (h : gW Try.prog c_spec_l16DrawSet (RetK [.t 4] K) (T0 args) G) : GC Try.prog 173 args G K := GC_intro mixed Try.func173 c_spec_l16DrawSet_d hn h
abbrev c_spec_l16Ok_0 : List GOp := [oo 2 (.mv (cb  false))]
abbrev c_spec_l16Ok_1 : List GOp := [oo 5 (.mv (tt 0)), oo 6 (.nc (tt 5)), oo 7 (.fa 0 (tt 6)), oo 8 (.ld (tt 7)), oo 9 (.call (ff 121) [tt 8, (ci 1), (ci 12)]), oo 10 (.un .not (tt 9))]
abbrev c_spec_l16Ok_2 : List GOp := [oo 2 (.mv (cb  false))]
abbrev c_spec_l16Ok_3 : List GOp := [oo 3 (.mv (ci 0))]
abbrev c_spec_l16Ok_4 : List GOp := [oo 11 (.mv (tt 3)), oo 12 (.mv (tt 0)), oo 13 (.nc (tt 12)), oo 14 (.fa 1 (tt 13)), oo 15 (.ld (tt 14)), oo 16 (.len (tt 15)), oo 17 (.bin .lss (tt 11) (tt 16))]
abbrev c_spec_l16Ok_5 : List GOp := [oo 20 (.mv (tt 0)), oo 21 (.nc (tt 20)), oo 22 (.fa 1 (tt 21)), oo 23 (.ld (tt 22)), oo 24 (.mv (tt 3)), oo 25 (.ia 3 (tt 23) (tt 24)), oo 26 (.ldn 3 (tt 25)), oo 4 (.al [.int .i64 0, .int .i64 0, .int .i64 0]), on (.st 3 (tt 4) (tt 26))]
abbrev c_spec_l16Ok_6 : List DOp := [dl 0 (oo 27 (.fa 1 (tt 4))), dl 1 (oo 28 (.ld (tt 27))), dl 2 (oo 29 (.mv (tt 0))), dl 3 (oo 30 (.nc (tt 29))), dl 4 (oo 31 (.fa 0 (tt 30))), dl 5 (oo 32 (.ld (tt 31))), dl 6 (oo 33 (.bin .sub (tt 32) (ci 1))), dh 7 [5] (oo 34 (.call (ff 121) [tt 28, (ci 0), tt 33])), dl 8 (oo 35 (.un .not (tt 34))), dl 9 (oo 36 (.mv (tt 35))), dl 10 (og 37 36 false (.fa 0 (tt 4))), dl 11 (og 38 36 false (.ld (tt 37))), dl 12 (og 39 36 false (.fa 1 (tt 4))), dl 13 (og 40 36 false (.ld (tt 39))), dl 14 (og 41 36 false (.bin .sub (tt 40) (ci 1))), dh 15 [13, 5, 1] (og 42 36 false (.call (ff 121) [tt 38, (ci 0), tt 41])), dl 16 (og 43 36 false (.un .not (tt 42))), dl 17 (oo 44 (.pick (tt 36) (cb  true) (tt 43))), dl 18 (oo 45 (.mv (tt 44))), dl 19 (og 46 45 false (.fa 2 (tt 4))), dl 20 (og 47 45 false (.ld (tt 46))), dh 21 [13, 11, 5, 1] (og 48 45 false (.call (ff 121) [tt 47, (ci 1), (ci 9)])), dl 22 (og 49 45 false (.un .not (tt 48))), dl 23 (oo 50 (.pick (tt 45) (cb  true) (tt 49)))]
abbrev c_spec_l16Ok_7 : List GOp := [oo 2 (.mv (cb  false))]
abbrev c_spec_l16Ok_8 : List DOp := [dl 0 (oo 51 (.mv (tt 3))), dl 1 (oo 52 (.bin .gtr (tt 51) (ci 0))), dl 2 (oo 53 (.mv (tt 52))), dl 3 (og 54 53 true (.mv (tt 0))), dl 4 (og 55 53 true (.nc (tt 54))), dl 5 (og 56 53 true (.fa 1 (tt 55))), dl 6 (og 57 53 true (.ld (tt 56))), dl 7 (og 58 53 true (.mv (tt 3))), dl 8 (og 59 53 true (.bin .sub (tt 58) (ci 1))), dl 9 (og 60 53 true (.ia 3 (tt 57) (tt 59))), dl 10 (og 61 53 true (.fa 0 (tt 60))), dl 11 (og 62 53 true (.ld (tt 61))), dl 12 (og 63 53 true (.fa 0 (tt 4))), dl 13 (og 64 53 true (.ld (tt 63))), dl 14 (og 65 53 true (.bin .gtr (tt 62) (tt 64))), dl 15 (og 66 53 true (.mv (tt 65))), dl 16 (og 67 66 false (.mv (tt 0))), dl 17 (og 68 66 false (.nc (tt 67))), dl 18 (og 69 66 false (.fa 1 (tt 68))), dl 19 (og 70 66 false (.ld (tt 69))), dl 20 (og 71 66 false (.mv (tt 3))), dl 21 (og 72 66 false (.bin .sub (tt 71) (ci 1))), dl 22 (og 73 66 false (.ia 3 (tt 70) (tt 72))), dl 23 (og 74 66 false (.fa 0 (tt 73))), dl 24 (og 75 66 false (.ld (tt 74))), dl 25 (og 76 66 false (.fa 0 (tt 4))), dl 26 (og 77 66 false (.ld (tt 76))), dl 27 (og 78 66 false (.bin .eql (tt 75) (tt 77))), dl 28 (og 79 66 false (.mv (tt 78))), dl 29 (og 80 79 true (.mv (tt 0))), dl 30 (og 81 79 true (.nc (tt 80))), dl 31 (og 82 79 true (.fa 1 (tt 81))), dl 32 (og 83 79 true (.ld (tt 82))), dl 33 (og 84 79 true (.mv (tt 3))), dl 34 (og 85 79 true (.bin .sub (tt 84) (ci 1))), dl 35 (og 86 79 true (.ia 3 (tt 83) (tt 85))), dl 36 (og 87 79 true (.fa 1 (tt 86))), dl 37 (og 88 79 true (.ld (tt 87))), dl 38 (og 89 79 true (.fa 1 (tt 4))), dl 39 (og 90 79 true (.ld (tt 89))), dl 40 (og 91 79 true (.bin .geq (tt 88) (tt 90))), dl 41 (og 92 66 false (.pick (tt 79) (tt 91) (cb  false))), dl 42 (og 93 53 true (.pick (tt 66) (cb  true) (tt 92))), dl 43 (oo 94 (.pick (tt 53) (tt 93) (cb  false)))]
abbrev c_spec_l16Ok_9 : List GOp := [oo 2 (.mv (cb  false))]
abbrev c_spec_l16Ok_10 : List GOp := [oo 18 (.mv (tt 3)), oo 19 (.bin .add (tt 18) (ci 1)), oo 3 (.mv (tt 19))]
abbrev c_spec_l16Ok_l0 : GCode := .seq (.seq (.reg c_spec_l16Ok_4) (.cond (tt 17) (.skip) (.exit 0))) (.seq (.blk 1 (.seq (.reg c_spec_l16Ok_5) (.seq (.seq (.dreg c_spec_l16Ok_6) (.cond (tt 50) (.seq (.reg c_spec_l16Ok_7) (.ret)) (.skip))) (.seq (.dreg c_spec_l16Ok_8) (.cond (tt 94) (.seq (.reg c_spec_l16Ok_9) (.ret)) (.skip)))))) (.reg c_spec_l16Ok_10))
abbrev c_spec_l16Ok_12 : List GOp := [oo 95 (.mv (tt 0)), oo 96 (.nc (tt 95)), oo 97 (.fa 1 (tt 96)), oo 98 (.ld (tt 97)), oo 99 (.len (tt 98)), oo 100 (.bin .leq (tt 99) (ci 24)), oo 2 (.mv (tt 100))]
abbrev c_spec_l16Ok : GCode := .seq (.reg c_spec_l16Ok_0) (.seq (.seq (.reg c_spec_l16Ok_1) (.cond (tt 10) (.seq (.reg c_spec_l16Ok_2) (.ret)) (.skip))) (.seq (.seq (.reg c_spec_l16Ok_3) (.blk 0 (.loop c_spec_l16Ok_l0))) (.seq (.reg c_spec_l16Ok_12) (.ret))))
theorem c_spec_l16Ok_d : decFn Try.prog Try.f138 = some (101, [.t 2], c_spec_l16Ok) := by kernel_rfl
theorem c_spec_l16Ok_i {args : List Value} {G : GH} {K : Value → GH → Prop} (hn : args.length ≤ 101) (h : gW Try.prog c_spec_l16Ok (RetK [.t 2] K) (T0 args) G) : GC Try.prog 138 args G K := GC_intro mixed Try.func138 c_spec_l16Ok_d hn h
abbrev c_spec_l16Vector_0 : List GOp := [oo 4 (.mv (cb  false))]
abbrev c_spec_l16Vector_1 : List GOp := [oo 5 (.mv (ci 0))]
abbrev c_spec_l16Vector_2 : List GOp := [oo 6 (.mv (tt 5)), oo 7 (.mv (tt 1)), oo 8 (.len (tt 7)), oo 9 (.bin .lss (tt 6) (tt 8))]
abbrev c_spec_l16Vector_3 : List GOp := [oo 12 (.mv (tt 1)), oo 13 (.mv (tt 5)), oo 14 (.ia 1 (tt 12) (tt 13)), oo 15 (.ld (tt 14)), oo 16 (.call (ff 121) [tt 15, (ci (-1000000)), (ci 1000000)]), oo 17 (.un .not (tt 16))]
abbrev c_spec_l16Vector_4 : List GOp := [oo 4 (.mv (cb  false))]
abbrev c_spec_l16Vector_5 : List GOp := [oo 10 (.mv (tt 5)), oo 11 (.bin .add (tt 10) (ci 1)), oo 5 (.mv (tt 11))]
abbrev c_spec_l16Vector_l0 : GCode := .seq (.seq (.reg c_spec_l16Vector_2) (.cond (tt 9) (.skip) (.exit 0))) (.seq (.blk 1 (.seq (.reg c_spec_l16Vector_3) (.cond (tt 17) (.seq (.reg c_spec_l16Vector_4) (.ret)) (.skip)))) (.reg c_spec_l16Vector_5))
abbrev c_spec_l16Vector_7 : List GOp := [oo 18 (.mv (tt 1)), oo 19 (.len (tt 18)), oo 20 (.mv (tt 0)), oo 21 (.nc (tt 20)), oo 22 (.fa 0 (tt 21)), oo 23 (.ld (tt 22)), oo 24 (.bin .eql (tt 19) (tt 23)), oo 4 (.mv (tt 24))]
abbrev c_spec_l16Vector : GCode := .seq (.reg c_spec_l16Vector_0) (.seq (.seq (.reg c_spec_l16Vector_1) (.blk 0 (.loop c_spec_l16Vector_l0))) (.seq (.reg c_spec_l16Vector_7) (.ret)))
theorem c_spec_l16Vector_d : decFn Try.prog Try.f199 = some (25, [.t 4], c_spec_l16Vector) := by kernel_rfl
theorem c_spec_l16Vector_i {args : List Value} {G : GH} {K : Value → GH → Prop} (hn : args.length ≤ 25) (h : gW Try.prog c_spec_l16Vector (RetK [.t 4] K) (T0 args) G) : GC Try.prog 199 args G K := GC_intro mixed Try.func199 c_spec_l16Vector_d hn h

end Go.Proofs.Ytmlkgpoakkgjbaa.Gh
