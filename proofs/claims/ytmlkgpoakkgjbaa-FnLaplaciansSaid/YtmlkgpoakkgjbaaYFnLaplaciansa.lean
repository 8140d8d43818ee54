/- Code trees that the law FnLaplacians reaches: each is what the decoding gives (checked by the kernel). -/
import Derived.Test.YtmlkgpoakkgjbaaC0
import Derived.Test.YtmlkgpoakkgjbaaFm
import Derived.Test.YtmlkgpoakkgjbaaFz
namespace Go.Proofs.Ytmlkgpoakkgjbaa.Gh
open Go Go.RowKit Go.Proofs
set_option linter.unusedVariables false
set_option linter.unusedSimpArgs false
set_option maxHeartbeats 4000000

abbrev c_cmp_Compare_int64_0 : List GOp := [oo 4 (.mv (ci 0))]
abbrev c_cmp_Compare_int64_1 : List GOp := [oo 7 (.mv (tt 0)), oo 8 (.call (ff 248) [tt 7]), oo 5 (.mv (tt 8))]
abbrev c_cmp_Compare_int64_2 : List GOp := [oo 9 (.mv (tt 1)), oo 10 (.call (ff 248) [tt 9]), oo 6 (.mv (tt 10))]
abbrev c_cmp_Compare_int64_3 : List GOp := [oo 11 (.mv (tt 5))]
abbrev c_cmp_Compare_int64_4 : List GOp := [oo 12 (.mv (tt 6))]
abbrev c_cmp_Compare_int64_5 : List GOp := [oo 4 (.mv (ci 0))]
abbrev c_cmp_Compare_int64_6 : List GOp := [oo 4 (.mv (ci (-1)))]
abbrev c_cmp_Compare_int64_7 : List GOp := [oo 13 (.mv (tt 6))]
abbrev c_cmp_Compare_int64_8 : List GOp := [oo 4 (.mv (ci 1))]
abbrev c_cmp_Compare_int64_9 : List GOp := [oo 14 (.mv (tt 0)), oo 15 (.mv (tt 1)), oo 16 (.bin .lss (tt 14) (tt 15))]
abbrev c_cmp_Compare_int64_10 : List GOp := [oo 4 (.mv (ci (-1)))]
abbrev c_cmp_Compare_int64_11 : List GOp := [oo 17 (.mv (tt 0)), oo 18 (.mv (tt 1)), oo 19 (.bin .gtr (tt 17) (tt 18))]
abbrev c_cmp_Compare_int64_12 : List GOp := [oo 4 (.mv (ci 1))]
abbrev c_cmp_Compare_int64_13 : List GOp := [oo 4 (.mv (ci 0))]
abbrev c_cmp_Compare_int64 : GCode := .seq (.reg c_cmp_Compare_int64_0) (.seq (.reg c_cmp_Compare_int64_1) (.seq (.reg c_cmp_Compare_int64_2) (.seq (.seq (.reg c_cmp_Compare_int64_3) (.cond (tt 11) (.seq (.seq (.reg c_cmp_Compare_int64_4) (.cond (tt 12) (.seq (.reg c_cmp_Compare_int64_5) (.ret)) (.skip))) (.seq (.reg c_cmp_Compare_int64_6) (.ret))) (.skip))) (.seq (.seq (.reg c_cmp_Compare_int64_7) (.cond (tt 13) (.seq (.reg c_cmp_Compare_int64_8) (.ret)) (.skip))) (.seq (.seq (.reg c_cmp_Compare_int64_9) (.cond (tt 16) (.seq (.reg c_cmp_Compare_int64_10) (.ret)) (.skip))) (.seq (.seq (.reg c_cmp_Compare_int64_11) (.cond (tt 19) (.seq (.reg c_cmp_Compare_int64_12) (.ret)) (.skip))) (.seq (.reg c_cmp_Compare_int64_13) (.ret))))))))
theorem c_cmp_Compare_int64_d : decFn Try.prog Try.f218 = some (20, [.t 4], c_cmp_Compare_int64) := by kernel_rfl
theorem c_cmp_Compare_int64_i {args : List Value} {G : GH} {K : Value → GH → Prop} (hn : args.length ≤ 20) (h : gW Try.prog c_cmp_Compare_int64 (RetK [.t 4] K) (T0 args) G) : GC Try.prog 218 args G K := GC_intro mixed Try.func218 c_cmp_Compare_int64_d hn h
abbrev c_cmp_Or_int_0 : List GOp := [oo 2 (.mv (ci 0))]
abbrev c_cmp_Or_int_1 : List GOp := [oo 3 (.mv (ci 0))]
abbrev c_cmp_Or_int_2 : List GOp := [oo 6 (.mv (tt 0)), oo 7 (.len (tt 6)), oo 8 (.mv (ci 0))]
abbrev c_cmp_Or_int_3 : List GOp := [oo 9 (.bin .lss (tt 8) (tt 7))]
abbrev c_cmp_Or_int_4 : List GOp := [oo 10 (.ia 1 (tt 6) (tt 8)), oo 11 (.ld (tt 10)), oo 5 (.mv (tt 11))]
abbrev c_cmp_Or_int_5 : List GOp := [oo 12 (.mv (tt 5)), oo 13 (.mv (tt 3)), oo 14 (.bin .neq (tt 12) (tt 13))]
abbrev c_cmp_Or_int_6 : List GOp := [oo 15 (.mv (tt 5)), oo 2 (.mv (tt 15))]
abbrev c_cmp_Or_int_7 : List GOp := [oo 16 (.bin .add (tt 8) (ci 1)), oo 8 (.mv (tt 16))]
abbrev c_cmp_Or_int_l0 : GCode := .seq (.reg c_cmp_Or_int_3) (.seq (.cond (tt 9) (.skip) (.exit 0)) (.seq (.blk 1 (.seq (.reg c_cmp_Or_int_4) (.seq (.reg c_cmp_Or_int_5) (.cond (tt 14) (.seq (.reg c_cmp_Or_int_6) (.ret)) (.skip))))) (.reg c_cmp_Or_int_7)))
abbrev c_cmp_Or_int_9 : List GOp := [oo 17 (.mv (tt 3)), oo 2 (.mv (tt 17))]
abbrev c_cmp_Or_int : GCode := .seq (.reg c_cmp_Or_int_0) (.seq (.reg c_cmp_Or_int_1) (.seq (.seq (.reg c_cmp_Or_int_2) (.blk 0 (.loop c_cmp_Or_int_l0))) (.seq (.reg c_cmp_Or_int_9) (.ret))))
theorem c_cmp_Or_int_d : decFn Try.prog Try.f241 = some (18, [.t 2], c_cmp_Or_int) := by kernel_rfl
theorem c_cmp_Or_int_i {args : List Value} {G : GH} {K : Value → GH → Prop} (hn : args.length ≤ 18) (h : gW Try.prog c_cmp_Or_int (RetK [.t 2] K) (T0 args) G) : GC Try.prog 241 args G K := GC_intro mixed Try.func241 c_cmp_Or_int_d hn h
abbrev c_cmp_isNaN_int64_0 : List GOp := [oo 2 (.mv (cb  false))]
abbrev c_cmp_isNaN_int64_1 : List GOp := [oo 3 (.mv (tt 0)), oo 4 (.mv (tt 0)), oo 5 (.bin .neq (tt 3) (tt 4)), oo 2 (.mv (tt 5))]
abbrev c_cmp_isNaN_int64 : GCode := .seq (.reg c_cmp_isNaN_int64_0) (.seq (.reg c_cmp_isNaN_int64_1) (.ret))
theorem c_cmp_isNaN_int64_d : decFn Try.prog Try.f248 = some (6, [.t 2], c_cmp_isNaN_int64) := by kernel_rfl
theorem c_cmp_isNaN_int64_i {args : List Value} {G : GH} {K : Value → GH → Prop} (hn : args.length ≤ 6) (h : gW Try.prog c_cmp_isNaN_int64 (RetK [.t 2] K) (T0 args) G) : GC Try.prog 248 args G K := GC_intro mixed Try.func248 c_cmp_isNaN_int64_d hn h
abbrev c_impl_ApplyLaplacian_0 : List GOp := [oo 2 (.bx (tt 0)), oo 4 (.mv (.const (.slice none 0 0))), oo 5 (.mv (ci 0))]
abbrev c_impl_ApplyLaplacian_1 : List GOp := [oo 7 (.ldn 2 (tt 2)), oo 8 (.mv (tt 1)), oo 9 (.call (ff 102) [tt 7, tt 8]), oo 6 (.mv (tt 9))]
abbrev c_impl_ApplyLaplacian_2 : List GOp := [oo 10 (.mv (tt 6)), oo 11 (.bin .neq (tt 10) (ci 0))]
abbrev c_impl_ApplyLaplacian_3 : List GOp := [oo 12 (.mv (tt 6)), oo 4 (.mv (.const (.slice none 0 0))), oo 5 (.mv (tt 12))]
abbrev c_impl_ApplyLaplacian_4 : List GOp := [oo 13 (.ldn 2 (tt 2)), oo 14 (.mv (tt 1)), oo 15 (.call (ff 136) [tt 13, tt 14]), oo 4 (.mv (tt 15)), oo 5 (.mv (ci 0))]
abbrev c_impl_ApplyLaplacian : GCode := .seq (.reg c_impl_ApplyLaplacian_0) (.seq (.seq (.reg c_impl_ApplyLaplacian_1) (.seq (.reg c_impl_ApplyLaplacian_2) (.cond (tt 11) (.seq (.reg c_impl_ApplyLaplacian_3) (.ret)) (.skip)))) (.seq (.reg c_impl_ApplyLaplacian_4) (.ret)))
theorem c_impl_ApplyLaplacian_d : decFn Try.prog Try.f59 = some (16, [.t 4, .t 5], c_impl_ApplyLaplacian) := by kernel_rfl
theorem c_impl_ApplyLaplacian_i {args : List Value} {G : GH} {K : Value → GH → Prop} (hn : args.length ≤ 16) (h : gW Try.prog c_impl_ApplyLaplacian (RetK [.t 4, .t 5] K) (T0 args) G) : GC Try.prog 59 args G K := GC_intro mixed Try.func59 c_impl_ApplyLaplacian_d hn h
abbrev c_impl_ComponentsOf_0 : List GOp := [oo 1 (.bx (tt 0)), oo 2 (.mv (.const (.slice none 0 0))), oo 3 (.mv (ci 0))]
abbrev c_impl_ComponentsOf_1 : List GOp := [oo 4 (.ldn 2 (tt 1)), oo 5 (.call (ff 141) [tt 4]), oo 6 (.un .not (tt 5))]
abbrev c_impl_ComponentsOf_2 : List GOp := [oo 2 (.mv (.const (.slice none 0 0))), oo 3 (.mv (ci 1))]
abbrev c_impl_ComponentsOf_3 : List GOp := [oo 7 (.ldn 2 (tt 1)), oo 8 (.call (ff 116) [tt 7]), oo 2 (.mv (tt 8)), oo 3 (.mv (ci 0))]
abbrev c_impl_ComponentsOf : GCode := .seq (.reg c_impl_ComponentsOf_0) (.seq (.seq (.reg c_impl_ComponentsOf_1) (.cond (tt 6) (.seq (.reg c_impl_ComponentsOf_2) (.ret)) (.skip))) (.seq (.reg c_impl_ComponentsOf_3) (.ret)))
theorem c_impl_ComponentsOf_d : decFn Try.prog Try.f63 = some (9, [.t 2, .t 3], c_impl_ComponentsOf) := by kernel_rfl
theorem c_impl_ComponentsOf_i {args : List Value} {G : GH} {K : Value → GH → Prop} (hn : args.length ≤ 9) (h : gW Try.prog c_impl_ComponentsOf (RetK [.t 2, .t 3] K) (T0 args) G) : GC Try.prog 63 args G K := GC_intro mixed Try.func63 c_impl_ComponentsOf_d hn h
abbrev c_impl_DegreesOf_0 : List GOp := [oo 1 (.bx (tt 0)), oo 2 (.mv (.const (.slice none 0 0))), oo 3 (.mv (ci 0))]
abbrev c_impl_DegreesOf_1 : List GOp := [oo 7 (.ldn 2 (tt 1)), oo 8 (.call (ff 141) [tt 7]), oo 9 (.un .not (tt 8))]
abbrev c_impl_DegreesOf_2 : List GOp := [oo 2 (.mv (.const (.slice none 0 0))), oo 3 (.mv (ci 1))]
abbrev c_impl_DegreesOf_3 : List GOp := [oo 4 (.mv (.const (.slice none 0 0)))]
abbrev c_impl_DegreesOf_4 : List GOp := [oo 10 (.ldn 2 (tt 1)), oo 11 (.call (ff 148) [tt 10]), oo 12 (.len (tt 11)), oo 13 (.mv (ci 0))]
abbrev c_impl_DegreesOf_5 : List GOp := [oo 14 (.bin .lss (tt 13) (tt 12))]
abbrev c_impl_DegreesOf_6 : List GOp := [oo 15 (.mv (tt 13)), oo 16 (.ia 1 (tt 11) (tt 13)), oo 17 (.ld (tt 16)), oo 5 (.mv (tt 15)), oo 6 (.mv (tt 17))]
abbrev c_impl_DegreesOf_7 : List GOp := [oo 18 (.mv (tt 4)), oo 19 (.mv (tt 6)), oo 20 (.mv (tt 5)), oo 21 (.ia 1 (tt 19) (tt 20)), oo 22 (.ld (tt 21)), oo 23 (.bs 1 [tt 22]), oo 24 (.ap 1 8 [.int .i64 0] (tt 18) (tt 23)), oo 4 (.mv (tt 24))]
abbrev c_impl_DegreesOf_8 : List GOp := [oo 25 (.bin .add (tt 13) (ci 1)), oo 13 (.mv (tt 25))]
abbrev c_impl_DegreesOf_l0 : GCode := .seq (.reg c_impl_DegreesOf_5) (.seq (.cond (tt 14) (.skip) (.exit 0)) (.seq (.blk 1 (.seq (.reg c_impl_DegreesOf_6) (.reg c_impl_DegreesOf_7))) (.reg c_impl_DegreesOf_8)))
abbrev c_impl_DegreesOf_10 : List GOp := [oo 26 (.mv (tt 4)), oo 2 (.mv (tt 26)), oo 3 (.mv (ci 0))]
abbrev c_impl_DegreesOf : GCode := .seq (.reg c_impl_DegreesOf_0) (.seq (.seq (.reg c_impl_DegreesOf_1) (.cond (tt 9) (.seq (.reg c_impl_DegreesOf_2) (.ret)) (.skip))) (.seq (.reg c_impl_DegreesOf_3) (.seq (.seq (.reg c_impl_DegreesOf_4) (.blk 0 (.loop c_impl_DegreesOf_l0))) (.seq (.reg c_impl_DegreesOf_10) (.ret)))))
theorem c_impl_DegreesOf_d : decFn Try.prog Try.f65 = some (27, [.t 2, .t 3], c_impl_DegreesOf) := by kernel_rfl
theorem c_impl_DegreesOf_i {args : List Value} {G : GH} {K : Value → GH → Prop} (hn : args.length ≤ 27) (h : gW Try.prog c_impl_DegreesOf (RetK [.t 2, .t 3] K) (T0 args) G) : GC Try.prog 65 args G K := GC_intro mixed Try.func65 c_impl_DegreesOf_d hn h
abbrev c_impl_EnergyOf_0 : List GOp := [oo 2 (.bx (tt 0)), oo 4 (.mv (ci 0)), oo 5 (.mv (ci 0))]
abbrev c_impl_EnergyOf_1 : List GOp := [oo 11 (.ldn 2 (tt 2)), oo 12 (.mv (tt 1)), oo 13 (.call (ff 102) [tt 11, tt 12]), oo 6 (.mv (tt 13))]
abbrev c_impl_EnergyOf_2 : List GOp := [oo 14 (.mv (tt 6)), oo 15 (.bin .neq (tt 14) (ci 0))]
abbrev c_impl_EnergyOf_3 : List GOp := [oo 16 (.mv (tt 6)), oo 4 (.mv (ci 0)), oo 5 (.mv (tt 16))]
abbrev c_impl_EnergyOf_4 : List GOp := [oo 7 (.mv (ci 0))]
abbrev c_impl_EnergyOf_5 : List GOp := [oo 17 (.fa 1 (tt 2)), oo 18 (.ld (tt 17)), oo 19 (.len (tt 18)), oo 20 (.mv (ci 0))]
abbrev c_impl_EnergyOf_6 : List GOp := [oo 21 (.bin .lss (tt 20) (tt 19))]
abbrev c_impl_EnergyOf_7 : List GOp := [oo 22 (.ia 3 (tt 18) (tt 20)), oo 23 (.ldn 3 (tt 22)), oo 9 (.al [.int .i64 0, .int .i64 0, .int .i64 0]), on (.st 3 (tt 9) (tt 23))]
abbrev c_impl_EnergyOf_8 : List DOp := [dl 0 (oo 24 (.mv (tt 1))), dl 1 (oo 25 (.fa 0 (tt 9))), dl 2 (oo 26 (.ld (tt 25))), dl 3 (oo 27 (.ia 1 (tt 24) (tt 26))), dl 4 (oo 28 (.ld (tt 27))), dl 5 (oo 29 (.mv (tt 1))), dl 6 (oo 30 (.fa 1 (tt 9))), dl 7 (oo 31 (.ld (tt 30))), dl 8 (oo 32 (.ia 1 (tt 29) (tt 31))), dl 9 (oo 33 (.ld (tt 32))), dl 10 (oo 34 (.bin .sub (tt 28) (tt 33))), dl 11 (oo 10 (.mv (tt 34)))]
abbrev c_impl_EnergyOf_9 : List GOp := [oo 35 (.mv (tt 7)), oo 36 (.fa 2 (tt 9)), oo 37 (.ld (tt 36)), oo 38 (.mv (tt 10)), oo 39 (.bin .mul (tt 37) (tt 38)), oo 40 (.mv (tt 10)), oo 41 (.bin .mul (tt 39) (tt 40)), oo 42 (.bin .add (tt 35) (tt 41)), oo 7 (.mv (tt 42))]
abbrev c_impl_EnergyOf_10 : List GOp := [oo 43 (.bin .add (tt 20) (ci 1)), oo 20 (.mv (tt 43))]
abbrev c_impl_EnergyOf_l0 : GCode := .seq (.reg c_impl_EnergyOf_6) (.seq (.cond (tt 21) (.skip) (.exit 0)) (.seq (.blk 1 (.seq (.reg c_impl_EnergyOf_7) (.seq (.dreg c_impl_EnergyOf_8) (.reg c_impl_EnergyOf_9)))) (.reg c_impl_EnergyOf_10)))
abbrev c_impl_EnergyOf_12 : List GOp := [oo 44 (.mv (tt 7)), oo 4 (.mv (tt 44)), oo 5 (.mv (ci 0))]
abbrev c_impl_EnergyOf : GCode := .seq (.reg c_impl_EnergyOf_0) (.seq (.seq (.reg c_impl_EnergyOf_1) (.seq (.reg c_impl_EnergyOf_2) (.cond (tt 15) (.seq (.reg c_impl_EnergyOf_3) (.ret)) (.skip)))) (.seq (.reg c_impl_EnergyOf_4) (.seq (.seq (.reg c_impl_EnergyOf_5) (.blk 0 (.loop c_impl_EnergyOf_l0))) (.seq (.reg c_impl_EnergyOf_12) (.ret)))))
theorem c_impl_EnergyOf_d : decFn Try.prog Try.f58 = some (45, [.t 4, .t 5], c_impl_EnergyOf) := by kernel_rfl
theorem c_impl_EnergyOf_i {args : List Value} {G : GH} {K : Value → GH → Prop} (hn : args.length ≤ 45) (h : gW Try.prog c_impl_EnergyOf (RetK [.t 4, .t 5] K) (T0 args) G) : GC Try.prog 58 args G K := GC_intro mixed Try.func58 c_impl_EnergyOf_d hn h
abbrev c_impl_IsHarmonic_0 : List GOp := [oo 3 (.bx (tt 0)), oo 6 (.mv (cb  false))]
abbrev c_impl_IsHarmonic_1 : List GOp := [oo 9 (.ldn 2 (tt 3)), oo 10 (.mv (tt 1)), oo 11 (.call (ff 102) [tt 9, tt 10]), oo 12 (.bin .neq (tt 11) (ci 0)), oo 13 (.mv (tt 12)), og 14 13 false (.ldn 2 (tt 3)), og 15 13 false (.mv (tt 2)), og 16 13 false (.call (ff 135) [tt 14, tt 15]), og 17 13 false (.un .not (tt 16)), oo 18 (.pick (tt 13) (cb  true) (tt 17))]
abbrev c_impl_IsHarmonic_2 : List GOp := [oo 6 (.mv (cb  false))]
abbrev c_impl_IsHarmonic_3 : List GOp := [oo 19 (.ldn 2 (tt 3)), oo 20 (.mv (tt 1)), oo 21 (.call (ff 136) [tt 19, tt 20]), oo 22 (.len (tt 21)), oo 23 (.mv (ci 0))]
abbrev c_impl_IsHarmonic_4 : List GOp := [oo 24 (.bin .lss (tt 23) (tt 22))]
abbrev c_impl_IsHarmonic_5 : List GOp := [oo 25 (.mv (tt 23)), oo 26 (.ia 1 (tt 21) (tt 23)), oo 27 (.ld (tt 26)), oo 7 (.mv (tt 25)), oo 8 (.mv (tt 27))]
abbrev c_impl_IsHarmonic_6 : List GOp := [oo 28 (.mv (tt 8)), oo 29 (.bin .neq (tt 28) (ci 0)), oo 30 (.mv (tt 29)), og 31 30 true (.mv (tt 2)), og 32 30 true (.mv (tt 7)), og 33 30 true (.call (ff 137) [tt 31, tt 32]), og 34 30 true (.un .not (tt 33)), oo 35 (.pick (tt 30) (tt 34) (cb  false))]
abbrev c_impl_IsHarmonic_7 : List GOp := [oo 6 (.mv (cb  false))]
abbrev c_impl_IsHarmonic_8 : List GOp := [oo 36 (.bin .add (tt 23) (ci 1)), oo 23 (.mv (tt 36))]
abbrev c_impl_IsHarmonic_l0 : GCode := .seq (.reg c_impl_IsHarmonic_4) (.seq (.cond (tt 24) (.skip) (.exit 0)) (.seq (.blk 1 (.seq (.reg c_impl_IsHarmonic_5) (.seq (.reg c_impl_IsHarmonic_6) (.cond (tt 35) (.seq (.reg c_impl_IsHarmonic_7) (.ret)) (.skip))))) (.reg c_impl_IsHarmonic_8)))
abbrev c_impl_IsHarmonic_10 : List GOp := [oo 6 (.mv (cb  true))]
abbrev c_impl_IsHarmonic : GCode := .seq (.reg c_impl_IsHarmonic_0) (.seq (.seq (.reg c_impl_IsHarmonic_1) (.cond (tt 18) (.seq (.reg c_impl_IsHarmonic_2) (.ret)) (.skip))) (.seq (.seq (.reg c_impl_IsHarmonic_3) (.blk 0 (.loop c_impl_IsHarmonic_l0))) (.seq (.reg c_impl_IsHarmonic_10) (.ret))))
theorem c_impl_IsHarmonic_d : decFn Try.prog Try.f53 = some (37, [.t 6], c_impl_IsHarmonic) := by kernel_rfl
theorem c_impl_IsHarmonic_i {args : List Value} {G : GH} {K : Value → GH → Prop} (hn : args.length ≤ 37) (h : gW Try.prog c_impl_IsHarmonic (RetK [.t 6] K) (T0 args) G) : GC Try.prog 53 args G K := GC_intro mixed Try.func53 c_impl_IsHarmonic_d hn h
abbrev c_impl_LaplacianOf_0 : List GOp := [oo 1 (.bx (tt 0)), oo 2 (.mv (.const (.slice none 0 0))), oo 3 (.mv (ci 0))]
abbrev c_impl_LaplacianOf_1 : List GOp := [oo 4 (.ldn 2 (tt 1)), oo 5 (.call (ff 141) [tt 4]), oo 6 (.un .not (tt 5))]
abbrev c_impl_LaplacianOf_2 : List GOp := [oo 2 (.mv (.const (.slice none 0 0))), oo 3 (.mv (ci 1))]
abbrev c_impl_LaplacianOf_3 : List GOp := [oo 7 (.ldn 2 (tt 1)), oo 8 (.call (ff 148) [tt 7]), oo 2 (.mv (tt 8)), oo 3 (.mv (ci 0))]
abbrev c_impl_LaplacianOf : GCode := .seq (.reg c_impl_LaplacianOf_0) (.seq (.seq (.reg c_impl_LaplacianOf_1) (.cond (tt 6) (.seq (.reg c_impl_LaplacianOf_2) (.ret)) (.skip))) (.seq (.reg c_impl_LaplacianOf_3) (.ret)))
theorem c_impl_LaplacianOf_d : decFn Try.prog Try.f64 = some (9, [.t 2, .t 3], c_impl_LaplacianOf) := by kernel_rfl
theorem c_impl_LaplacianOf_i {args : List Value} {G : GH} {K : Value → GH → Prop} (hn : args.length ≤ 9) (h : gW Try.prog c_impl_LaplacianOf (RetK [.t 2, .t 3] K) (T0 args) G) : GC Try.prog 64 args G K := GC_intro mixed Try.func64 c_impl_LaplacianOf_d hn h
abbrev c_impl_ValidGraph_0 : List GOp := [oo 1 (.bx (tt 0)), oo 2 (.mv (cb  false))]
abbrev c_impl_ValidGraph_1 : List GOp := [oo 5 (.fa 1 (tt 1)), oo 6 (.ld (tt 5)), oo 7 (.len (tt 6)), oo 8 (.mv (ci 0))]
abbrev c_impl_ValidGraph_2 : List GOp := [oo 9 (.bin .lss (tt 8) (tt 7))]
abbrev c_impl_ValidGraph_3 : List GOp := [oo 10 (.mv (tt 8)), oo 11 (.ia 3 (tt 6) (tt 8)), oo 12 (.ldn 3 (tt 11)), oo 4 (.al [.int .i64 0, .int .i64 0, .int .i64 0]), oo 3 (.mv (tt 10)), on (.st 3 (tt 4) (tt 12))]
abbrev c_impl_ValidGraph_4 : List DOp := [dl 0 (oo 13 (.fa 0 (tt 4))), dl 1 (oo 14 (.ld (tt 13))), dl 2 (oo 15 (.bin .lss (tt 14) (ci 0))), dl 3 (oo 16 (.mv (tt 15))), dl 4 (og 17 16 false (.fa 0 (tt 4))), dl 5 (og 18 16 false (.ld (tt 17))), dl 6 (og 19 16 false (.fa 1 (tt 4))), dl 7 (og 20 16 false (.ld (tt 19))), dl 8 (og 21 16 false (.bin .geq (tt 18) (tt 20))), dl 9 (oo 22 (.pick (tt 16) (cb  true) (tt 21))), dl 10 (oo 23 (.mv (tt 22))), dl 11 (og 24 23 false (.fa 1 (tt 4))), dl 12 (og 25 23 false (.ld (tt 24))), dl 13 (og 26 23 false (.fa 0 (tt 1))), dl 14 (og 27 23 false (.ld (tt 26))), dl 15 (og 28 23 false (.bin .geq (tt 25) (tt 27))), dl 16 (oo 29 (.pick (tt 23) (cb  true) (tt 28))), dl 17 (oo 30 (.mv (tt 29))), dl 18 (og 31 30 false (.fa 2 (tt 4))), dl 19 (og 32 30 false (.ld (tt 31))), dh 20 [14, 12, 7, 5, 1] (og 33 30 false (.call (ff 122) [tt 32, (ci 1), (ci 9)])), dl 21 (og 34 30 false (.un .not (tt 33))), dl 22 (oo 35 (.pick (tt 30) (cb  true) (tt 34))), dl 23 (oo 36 (.mv (tt 35))), dl 24 (og 37 36 false (.mv (tt 3))), dl 25 (og 38 36 false (.bin .gtr (tt 37) (ci 0))), dl 26 (og 39 36 false (.mv (tt 38))), dl 27 (og 40 39 true (.fa 1 (tt 1))), dl 28 (og 41 39 true (.ld (tt 40))), dl 29 (og 42 39 true (.mv (tt 3))), dl 30 (og 43 39 true (.bin .sub (tt 42) (ci 1))), dl 31 (og 44 39 true (.ia 3 (tt 41) (tt 43))), dl 32 (og 45 39 true (.ldn 3 (tt 44))), dl 33 (og 46 39 true (.ldn 3 (tt 4))), dh 34 [28, 19, 14, 12, 7, 5, 1] (og 47 39 true (.call (ff 217) [tt 45, tt 46])), dl 35 (og 48 39 true (.bin .geq (tt 47) (ci 0))), dl 36 (og 49 36 false (.pick (tt 39) (tt 48) (cb  false))), dl 37 (oo 50 (.pick (tt 36) (cb  true) (tt 49)))]
abbrev c_impl_ValidGraph_5 : List GOp := [oo 2 (.mv (cb  false))]
abbrev c_impl_ValidGraph_6 : List GOp := [oo 51 (.bin .add (tt 8) (ci 1)), oo 8 (.mv (tt 51))]
abbrev c_impl_ValidGraph_l0 : GCode := .seq (.reg c_impl_ValidGraph_2) (.seq (.cond (tt 9) (.skip) (.exit 0)) (.seq (.blk 1 (.seq (.reg c_impl_ValidGraph_3) (.seq (.dreg c_impl_ValidGraph_4) (.cond (tt 50) (.seq (.reg c_impl_ValidGraph_5) (.ret)) (.skip))))) (.reg c_impl_ValidGraph_6)))
abbrev c_impl_ValidGraph_8 : List GOp := [oo 52 (.fa 0 (tt 1)), oo 53 (.ld (tt 52)), oo 54 (.call (ff 122) [tt 53, (ci 1), (ci 12)]), oo 55 (.mv (tt 54)), og 56 55 true (.fa 1 (tt 1)), og 57 55 true (.ld (tt 56)), og 58 55 true (.len (tt 57)), og 59 55 true (.bin .leq (tt 58) (ci 24)), oo 60 (.pick (tt 55) (tt 59) (cb  false)), oo 2 (.mv (tt 60))]
abbrev c_impl_ValidGraph : GCode := .seq (.reg c_impl_ValidGraph_0) (.seq (.seq (.reg c_impl_ValidGraph_1) (.blk 0 (.loop c_impl_ValidGraph_l0))) (.seq (.reg c_impl_ValidGraph_8) (.ret)))
theorem c_impl_ValidGraph_d : decFn Try.prog Try.f141 = some (61, [.t 2], c_impl_ValidGraph) := by kernel_rfl
theorem c_impl_ValidGraph_i {args : List Value} {G : GH} {K : Value → GH → Prop} (hn : args.length ≤ 61) (h : gW Try.prog c_impl_ValidGraph (RetK [.t 2] K) (T0 args) G) : GC Try.prog 141 args G K := GC_intro mixed Try.func141 c_impl_ValidGraph_d hn h
abbrev c_impl_areElements_0 : List GOp := [oo 3 (.bx (tt 1)), oo 4 (.mv (cb  false))]
abbrev c_impl_areElements_1 : List GOp := [oo 5 (.mv (tt 0)), oo 6 (.mf (.func 247) [] [tt 3]), oo 7 (.call (ff 152) [tt 5, tt 6]), oo 8 (.un .not (tt 7)), oo 4 (.mv (tt 8))]
abbrev c_impl_areElements : GCode := .seq (.reg c_impl_areElements_0) (.seq (.reg c_impl_areElements_1) (.ret))
theorem c_impl_areElements_d : decFn Try.prog Try.f216 = some (9, [.t 4], c_impl_areElements) := by kernel_rfl
theorem c_impl_areElements_i {args : List Value} {G : GH} {K : Value → GH → Prop} (hn : args.length ≤ 9) (h : gW Try.prog c_impl_areElements (RetK [.t 4] K) (T0 args) G) : GC Try.prog 216 args G K := GC_intro mixed Try.func216 c_impl_areElements_d hn h
abbrev c_impl_areElements_fn1_0 : List GOp := [oo 3 (.mv (cb  false))]
abbrev c_impl_areElements_fn1_1 : List GOp := [oo 4 (.mv (tt 0)), oo 5 (.ld (tt 1)), oo 6 (.call (ff 180) [tt 4, tt 5]), oo 7 (.un .not (tt 6)), oo 3 (.mv (tt 7))]
abbrev c_impl_areElements_fn1 : GCode := .seq (.reg c_impl_areElements_fn1_0) (.seq (.reg c_impl_areElements_fn1_1) (.ret))
theorem c_impl_areElements_fn1_d : decFn Try.prog Try.f247 = some (8, [.t 3], c_impl_areElements_fn1) := by kernel_rfl
theorem c_impl_areElements_fn1_i {args : List Value} {G : GH} {K : Value → GH → Prop} (hn : args.length ≤ 8) (h : gW Try.prog c_impl_areElements_fn1 (RetK [.t 3] K) (T0 args) G) : GC Try.prog 247 args G K := GC_intro mixed Try.func247 c_impl_areElements_fn1_d hn h
abbrev c_impl_compareEdges_0 : List GOp := [oo 2 (.bx (tt 0)), oo 3 (.bx (tt 1)), oo 4 (.mv (ci 0))]
abbrev c_impl_compareEdges_1 : List DOp := [dl 0 (oo 5 (.fa 0 (tt 2))), dl 1 (oo 6 (.ld (tt 5))), dl 2 (oo 7 (.fa 0 (tt 3))), dl 3 (oo 8 (.ld (tt 7))), dl 5 (oo 10 (.fa 1 (tt 2))), dl 6 (oo 11 (.ld (tt 10))), dl 7 (oo 12 (.fa 1 (tt 3))), dl 8 (oo 13 (.ld (tt 12))), dh 4 [8, 6] (oo 9 (.call (ff 218) [tt 6, tt 8])), dh 9 [3, 1] (oo 14 (.call (ff 218) [tt 11, tt 13])), dh 10 [8, 6, 3, 1] (oo 15 (.bs 1 [tt 9, tt 14])), dh 11 [8, 6, 3, 1] (oo 16 (.call (ff 241) [tt 15])), dl 12 (oo 4 (.mv (tt 16)))]
abbrev c_impl_compareEdges : GCode := .seq (.reg c_impl_compareEdges_0) (.seq (.dreg c_impl_compareEdges_1) (.ret))
theorem c_impl_compareEdges_d : decFn Try.prog Try.f217 = some (17, [.t 4], c_impl_compareEdges) := by kernel_rfl
theorem c_impl_compareEdges_i {args : List Value} {G : GH} {K : Value → GH → Prop} (hn : args.length ≤ 17) (h : gW Try.prog c_impl_compareEdges (RetK [.t 4] K) (T0 args) G) : GC Try.prog 217 args G K := GC_intro mixed Try.func217 c_impl_compareEdges_d hn h
abbrev c_impl_components_0 : List GOp := [oo 1 (.bx (tt 0)), oo 2 (.mv (.const (.slice none 0 0)))]
abbrev c_impl_components_1 : List GOp := [oo 7 (.fa 0 (tt 1)), oo 8 (.ld (tt 7)), oo 9 (.call (ff 128) [tt 8]), oo 3 (.mv (tt 9))]
abbrev c_impl_components_2 : List GOp := [oo 10 (.fa 0 (tt 1)), oo 11 (.ld (tt 10)), oo 12 (.mv (ci 0))]
abbrev c_impl_components_3 : List GOp := [oo 13 (.bin .lss (tt 12) (tt 11))]
abbrev c_impl_components_4 : List GOp := [oo 14 (.fa 1 (tt 1)), oo 15 (.ld (tt 14)), oo 16 (.len (tt 15)), oo 17 (.mv (ci 0))]
abbrev c_impl_components_5 : List GOp := [oo 18 (.bin .lss (tt 17) (tt 16))]
abbrev c_impl_components_6 : List GOp := [oo 19 (.ia 3 (tt 15) (tt 17)), oo 20 (.ldn 3 (tt 19)), oo 5 (.al [.int .i64 0, .int .i64 0, .int .i64 0]), on (.st 3 (tt 5) (tt 20))]
abbrev c_impl_components_7 : List DOp := [dl 0 (oo 21 (.mv (tt 3))), dl 1 (oo 22 (.fa 0 (tt 5))), dl 2 (oo 23 (.ld (tt 22))), dl 3 (oo 24 (.ia 1 (tt 21) (tt 23))), dl 4 (oo 25 (.ld (tt 24))), dl 5 (oo 26 (.mv (tt 3))), dl 6 (oo 27 (.fa 1 (tt 5))), dl 7 (oo 28 (.ld (tt 27))), dl 8 (oo 29 (.ia 1 (tt 26) (tt 28))), dl 9 (oo 30 (.ld (tt 29))), dl 10 (oo 31 (.mn [tt 25, tt 30])), dl 11 (oo 6 (.mv (tt 31)))]
abbrev c_impl_components_8 : List DOp := [dl 0 (oo 32 (.mv (tt 3))), dl 1 (oo 33 (.fa 0 (tt 5))), dl 2 (oo 34 (.ld (tt 33))), dl 3 (oo 35 (.mv (tt 3))), dl 4 (oo 36 (.fa 1 (tt 5))), dl 5 (oo 37 (.ld (tt 36))), dl 6 (oo 38 (.mv (tt 6))), dl 7 (oo 39 (.mv (tt 6))), dl 8 (oo 40 (.ia 1 (tt 32) (tt 34))), dh 9 [5] (on (.st 1 (tt 40) (tt 38))), dl 10 (oo 41 (.ia 1 (tt 35) (tt 37))), dh 11 [] (on (.st 1 (tt 41) (tt 39)))]
abbrev c_impl_components_9 : List GOp := [oo 42 (.bin .add (tt 17) (ci 1)), oo 17 (.mv (tt 42))]
abbrev c_impl_components_l0 : GCode := .seq (.reg c_impl_components_5) (.seq (.cond (tt 18) (.skip) (.exit 2)) (.seq (.blk 3 (.seq (.reg c_impl_components_6) (.seq (.dreg c_impl_components_7) (.dreg c_impl_components_8)))) (.reg c_impl_components_9)))
abbrev c_impl_components_11 : List GOp := [oo 43 (.bin .add (tt 12) (ci 1)), oo 12 (.mv (tt 43))]
abbrev c_impl_components_l1 : GCode := .seq (.reg c_impl_components_3) (.seq (.cond (tt 13) (.skip) (.exit 0)) (.seq (.blk 1 (.seq (.reg c_impl_components_4) (.blk 2 (.loop c_impl_components_l0)))) (.reg c_impl_components_11)))
abbrev c_impl_components_13 : List GOp := [oo 44 (.mv (tt 3)), oo 2 (.mv (tt 44))]
abbrev c_impl_components : GCode := .seq (.reg c_impl_components_0) (.seq (.reg c_impl_components_1) (.seq (.seq (.reg c_impl_components_2) (.blk 0 (.loop c_impl_components_l1))) (.seq (.reg c_impl_components_13) (.ret))))
theorem c_impl_components_d : decFn Try.prog Try.f116 = some (45, [.t 2], c_impl_components) := by kernel_rfl
theorem c_impl_components_i {args : List Value} {G : GH} {K : Value → GH → Prop} (hn : args.length ≤ 45) (h : gW Try.prog c_impl_components (RetK [.t 2] K) (T0 args) G) : GC Try.prog 116 args G K := GC_intro mixed Try.func116 c_impl_components_d hn h
abbrev c_impl_firstChoice_0 : List GOp := [oo 2 (.mv (.const (.slice none 0 0)))]
abbrev c_impl_firstChoice_1 : List GOp := [oo 3 (.mv (.const (.slice none 0 0)))]
abbrev c_impl_firstChoice_2 : List GOp := [oo 5 (.mv (tt 0)), oo 6 (.mv (ci 0))]
abbrev c_impl_firstChoice_3 : List GOp := [oo 7 (.bin .lss (tt 6) (tt 5))]
abbrev c_impl_firstChoice_4 : List GOp := [oo 8 (.mv (tt 6)), oo 4 (.mv (tt 8))]
abbrev c_impl_firstChoice_5 : List GOp := [oo 9 (.mv (tt 3)), oo 10 (.mv (tt 4)), oo 11 (.bs 1 [tt 10]), oo 12 (.ap 1 8 [.int .i64 0] (tt 9) (tt 11)), oo 3 (.mv (tt 12))]
abbrev c_impl_firstChoice_6 : List GOp := [oo 13 (.bin .add (tt 6) (ci 1)), oo 6 (.mv (tt 13))]
abbrev c_impl_firstChoice_l0 : GCode := .seq (.reg c_impl_firstChoice_3) (.seq (.cond (tt 7) (.skip) (.exit 0)) (.seq (.blk 1 (.seq (.reg c_impl_firstChoice_4) (.reg c_impl_firstChoice_5))) (.reg c_impl_firstChoice_6)))
abbrev c_impl_firstChoice_8 : List GOp := [oo 14 (.mv (tt 3)), oo 2 (.mv (tt 14))]
abbrev c_impl_firstChoice : GCode := .seq (.reg c_impl_firstChoice_0) (.seq (.reg c_impl_firstChoice_1) (.seq (.seq (.reg c_impl_firstChoice_2) (.blk 0 (.loop c_impl_firstChoice_l0))) (.seq (.reg c_impl_firstChoice_8) (.ret))))
theorem c_impl_firstChoice_d : decFn Try.prog Try.f128 = some (15, [.t 2], c_impl_firstChoice) := by kernel_rfl
theorem c_impl_firstChoice_i {args : List Value} {G : GH} {K : Value → GH → Prop} (hn : args.length ≤ 15) (h : gW Try.prog c_impl_firstChoice (RetK [.t 2] K) (T0 args) G) : GC Try.prog 128 args G K := GC_intro mixed Try.func128 c_impl_firstChoice_d hn h
abbrev c_impl_isElement_0 : List GOp := [oo 4 (.mv (cb  false))]
abbrev c_impl_isElement_1 : List GOp := [oo 5 (.mv (tt 0)), oo 6 (.mv (tt 1)), oo 7 (.bin .sub (tt 6) (ci 1)), oo 8 (.call (ff 122) [tt 5, (ci 0), tt 7]), oo 4 (.mv (tt 8))]
abbrev c_impl_isElement : GCode := .seq (.reg c_impl_isElement_0) (.seq (.reg c_impl_isElement_1) (.ret))
theorem c_impl_isElement_d : decFn Try.prog Try.f180 = some (9, [.t 4], c_impl_isElement) := by kernel_rfl
theorem c_impl_isElement_i {args : List Value} {G : GH} {K : Value → GH → Prop} (hn : args.length ≤ 9) (h : gW Try.prog c_impl_isElement (RetK [.t 4] K) (T0 args) G) : GC Try.prog 180 args G K := GC_intro mixed Try.func180 c_impl_isElement_d hn h
abbrev c_impl_isGraphVector_0 : List GOp := [oo 2 (.bx (tt 0)), oo 4 (.mv (cb  false))]
abbrev c_impl_isGraphVector_1 : List DOp := [dl 0 (oo 5 (.mv (tt 1))), dl 2 (oo 7 (.fa 0 (tt 2))), dl 3 (oo 8 (.ld (tt 7))), dh 1 [3] (oo 6 (.call (ff 213) [tt 5])), dl 4 (oo 9 (.bin .eql (tt 6) (tt 8))), dl 5 (oo 10 (.mv (tt 9))), dl 6 (og 11 10 true (.mv (tt 1))), dh 7 [3] (og 12 10 true (.call (ff 152) [tt 11, (ff 246)])), dl 8 (og 13 10 true (.un .not (tt 12))), dl 9 (oo 14 (.pick (tt 10) (tt 13) (cb  false))), dl 10 (oo 4 (.mv (tt 14)))]
abbrev c_impl_isGraphVector : GCode := .seq (.reg c_impl_isGraphVector_0) (.seq (.dreg c_impl_isGraphVector_1) (.ret))
theorem c_impl_isGraphVector_d : decFn Try.prog Try.f201 = some (15, [.t 4], c_impl_isGraphVector) := by kernel_rfl
theorem c_impl_isGraphVector_i {args : List Value} {G : GH} {K : Value → GH → Prop} (hn : args.length ≤ 15) (h : gW Try.prog c_impl_isGraphVector (RetK [.t 4] K) (T0 args) G) : GC Try.prog 201 args G K := GC_intro mixed Try.func201 c_impl_isGraphVector_d hn h
abbrev c_impl_isGraphVector_fn1_0 : List GOp := [oo 2 (.mv (cb  false))]
abbrev c_impl_isGraphVector_fn1_1 : List GOp := [oo 3 (.mv (tt 0)), oo 4 (.call (ff 122) [tt 3, (ci (-1000000)), (ci 1000000)]), oo 5 (.un .not (tt 4)), oo 2 (.mv (tt 5))]
abbrev c_impl_isGraphVector_fn1 : GCode := .seq (.reg c_impl_isGraphVector_fn1_0) (.seq (.reg c_impl_isGraphVector_fn1_1) (.ret))
theorem c_impl_isGraphVector_fn1_d : decFn Try.prog Try.f246 = some (6, [.t 2], c_impl_isGraphVector_fn1) := by kernel_rfl
theorem c_impl_isGraphVector_fn1_i {args : List Value} {G : GH} {K : Value → GH → Prop} (hn : args.length ≤ 6) (h : gW Try.prog c_impl_isGraphVector_fn1 (RetK [.t 2] K) (T0 args) G) : GC Try.prog 246 args G K := GC_intro mixed Try.func246 c_impl_isGraphVector_fn1_d hn h
abbrev c_impl_isRising_0 : List GOp := [oo 2 (.mv (cb  false))]
abbrev c_impl_isRising_1 : List GOp := [oo 3 (.mv (ci 1))]
abbrev c_impl_isRising_2 : List GOp := [oo 4 (.mv (tt 3)), oo 5 (.mv (tt 0)), oo 6 (.len (tt 5)), oo 7 (.bin .lss (tt 4) (tt 6))]
abbrev c_impl_isRising_3 : List DOp := [dl 0 (oo 10 (.mv (tt 0))), dl 1 (oo 11 (.mv (tt 3))), dl 2 (oo 12 (.bin .sub (tt 11) (ci 1))), dl 3 (oo 13 (.ia 1 (tt 10) (tt 12))), dl 4 (oo 14 (.ld (tt 13))), dl 5 (oo 15 (.mv (tt 0))), dl 6 (oo 16 (.mv (tt 3))), dl 7 (oo 17 (.ia 1 (tt 15) (tt 16))), dl 8 (oo 18 (.ld (tt 17))), dl 9 (oo 19 (.bin .geq (tt 14) (tt 18)))]
abbrev c_impl_isRising_4 : List GOp := [oo 2 (.mv (cb  false))]
abbrev c_impl_isRising_5 : List GOp := [oo 8 (.mv (tt 3)), oo 9 (.bin .add (tt 8) (ci 1)), oo 3 (.mv (tt 9))]
abbrev c_impl_isRising_l0 : GCode := .seq (.seq (.reg c_impl_isRising_2) (.cond (tt 7) (.skip) (.exit 0))) (.seq (.blk 1 (.seq (.dreg c_impl_isRising_3) (.cond (tt 19) (.seq (.reg c_impl_isRising_4) (.ret)) (.skip)))) (.reg c_impl_isRising_5))
abbrev c_impl_isRising_7 : List GOp := [oo 2 (.mv (cb  true))]
abbrev c_impl_isRising : GCode := .seq (.reg c_impl_isRising_0) (.seq (.seq (.reg c_impl_isRising_1) (.blk 0 (.loop c_impl_isRising_l0))) (.seq (.reg c_impl_isRising_7) (.ret)))
theorem c_impl_isRising_d : decFn Try.prog Try.f215 = some (20, [.t 2], c_impl_isRising) := by kernel_rfl
theorem c_impl_isRising_i {args : List Value} {G : GH} {K : Value → GH → Prop} (hn : args.length ≤ 20) (h : gW Try.prog c_impl_isRising (RetK [.t 2] K) (T0 args) G) : GC Try.prog 215 args G K := GC_intro mixed Try.func215 c_impl_isRising_d hn h
abbrev c_impl_isSet_0 : List GOp := [oo 2 (.bx (tt 0)), oo 4 (.mv (cb  false))]
abbrev c_impl_isSet_1 : List GOp := [oo 5 (.mv (tt 1)), oo 6 (.call (ff 215) [tt 5]), oo 7 (.mv (tt 6)), og 8 7 true (.mv (tt 1)), og 9 7 true (.fa 0 (tt 2)), og 10 7 true (.ld (tt 9)), og 11 7 true (.call (ff 216) [tt 8, tt 10]), oo 12 (.pick (tt 7) (tt 11) (cb  false)), oo 4 (.mv (tt 12))]
abbrev c_impl_isSet : GCode := .seq (.reg c_impl_isSet_0) (.seq (.reg c_impl_isSet_1) (.ret))
theorem c_impl_isSet_d : decFn Try.prog Try.f135 = some (13, [.t 4], c_impl_isSet) := by kernel_rfl
theorem c_impl_isSet_i {args : List Value} {G : GH} {K : Value → GH → Prop} (hn : args.length ≤ 13) (h : gW Try.prog c_impl_isSet (RetK [.t 4] K) (T0 args) G) : GC Try.prog 135 args G K := GC_intro mixed Try.func135 c_impl_isSet_d hn h
abbrev c_impl_laplace_0 : List GOp := [oo 2 (.bx (tt 0)), oo 4 (.mv (.const (.slice none 0 0)))]
abbrev c_impl_laplace_1 : List GOp := [oo 5 (.mv (.const (.slice none 0 0)))]
abbrev c_impl_laplace_2 : List GOp := [oo 11 (.ldn 2 (tt 2)), oo 12 (.call (ff 148) [tt 11]), oo 13 (.len (tt 12)), oo 14 (.mv (ci 0))]
abbrev c_impl_laplace_3 : List GOp := [oo 15 (.bin .lss (tt 14) (tt 13))]
abbrev c_impl_laplace_4 : List GOp := [oo 16 (.ia 1 (tt 12) (tt 14)), oo 17 (.ld (tt 16)), oo 7 (.mv (tt 17))]
abbrev c_impl_laplace_5 : List GOp := [oo 8 (.mv (ci 0))]
abbrev c_impl_laplace_6 : List GOp := [oo 18 (.mv (tt 7)), oo 19 (.len (tt 18)), oo 20 (.mv (ci 0))]
abbrev c_impl_laplace_7 : List GOp := [oo 21 (.bin .lss (tt 20) (tt 19))]
abbrev c_impl_laplace_8 : List GOp := [oo 22 (.mv (tt 20)), oo 23 (.ia 1 (tt 18) (tt 20)), oo 24 (.ld (tt 23)), oo 9 (.mv (tt 22)), oo 10 (.mv (tt 24))]
abbrev c_impl_laplace_9 : List GOp := [oo 25 (.mv (tt 8)), oo 26 (.mv (tt 10)), oo 27 (.mv (tt 1)), oo 28 (.mv (tt 9)), oo 29 (.ia 1 (tt 27) (tt 28)), oo 30 (.ld (tt 29)), oo 31 (.bin .mul (tt 26) (tt 30)), oo 32 (.bin .add (tt 25) (tt 31)), oo 8 (.mv (tt 32))]
abbrev c_impl_laplace_10 : List GOp := [oo 33 (.bin .add (tt 20) (ci 1)), oo 20 (.mv (tt 33))]
abbrev c_impl_laplace_l0 : GCode := .seq (.reg c_impl_laplace_7) (.seq (.cond (tt 21) (.skip) (.exit 2)) (.seq (.blk 3 (.seq (.reg c_impl_laplace_8) (.reg c_impl_laplace_9))) (.reg c_impl_laplace_10)))
abbrev c_impl_laplace_12 : List GOp := [oo 34 (.mv (tt 5)), oo 35 (.mv (tt 8)), oo 36 (.bs 1 [tt 35]), oo 37 (.ap 1 8 [.int .i64 0] (tt 34) (tt 36)), oo 5 (.mv (tt 37))]
abbrev c_impl_laplace_13 : List GOp := [oo 38 (.bin .add (tt 14) (ci 1)), oo 14 (.mv (tt 38))]
abbrev c_impl_laplace_l1 : GCode := .seq (.reg c_impl_laplace_3) (.seq (.cond (tt 15) (.skip) (.exit 0)) (.seq (.blk 1 (.seq (.reg c_impl_laplace_4) (.seq (.reg c_impl_laplace_5) (.seq (.seq (.reg c_impl_laplace_6) (.blk 2 (.loop c_impl_laplace_l0))) (.reg c_impl_laplace_12))))) (.reg c_impl_laplace_13)))
abbrev c_impl_laplace_15 : List GOp := [oo 39 (.mv (tt 5)), oo 4 (.mv (tt 39))]
abbrev c_impl_laplace : GCode := .seq (.reg c_impl_laplace_0) (.seq (.reg c_impl_laplace_1) (.seq (.seq (.reg c_impl_laplace_2) (.blk 0 (.loop c_impl_laplace_l1))) (.seq (.reg c_impl_laplace_15) (.ret))))
theorem c_impl_laplace_d : decFn Try.prog Try.f136 = some (40, [.t 4], c_impl_laplace) := by kernel_rfl
theorem c_impl_laplace_i {args : List Value} {G : GH} {K : Value → GH → Prop} (hn : args.length ≤ 40) (h : gW Try.prog c_impl_laplace (RetK [.t 4] K) (T0 args) G) : GC Try.prog 136 args G K := GC_intro mixed Try.func136 c_impl_laplace_d hn h
abbrev c_impl_laplacian_0 : List GOp := [oo 1 (.bx (tt 0)), oo 2 (.mv (.const (.slice none 0 0)))]
abbrev c_impl_laplacian_1 : List GOp := [oo 7 (.fa 0 (tt 1)), oo 8 (.ld (tt 7)), oo 9 (.mk 1 24 [.slice none 0 0] (tt 8) (tt 8)), oo 3 (.mv (tt 9))]
abbrev c_impl_laplacian_2 : List GOp := [oo 10 (.mv (tt 3)), oo 11 (.len (tt 10)), oo 12 (.mv (ci 0))]
abbrev c_impl_laplacian_3 : List GOp := [oo 13 (.bin .lss (tt 12) (tt 11))]
abbrev c_impl_laplacian_4 : List GOp := [oo 14 (.mv (tt 12)), oo 4 (.mv (tt 14))]
abbrev c_impl_laplacian_5 : List GOp := [oo 15 (.mv (tt 3)), oo 16 (.mv (tt 4)), oo 17 (.fa 0 (tt 1)), oo 18 (.ld (tt 17)), oo 19 (.mk 1 8 [.int .i64 0] (tt 18) (tt 18)), oo 20 (.ia 1 (tt 15) (tt 16)), on (.st 1 (tt 20) (tt 19))]
abbrev c_impl_laplacian_6 : List GOp := [oo 21 (.bin .add (tt 12) (ci 1)), oo 12 (.mv (tt 21))]
abbrev c_impl_laplacian_l0 : GCode := .seq (.reg c_impl_laplacian_3) (.seq (.cond (tt 13) (.skip) (.exit 0)) (.seq (.blk 1 (.seq (.reg c_impl_laplacian_4) (.reg c_impl_laplacian_5))) (.reg c_impl_laplacian_6)))
abbrev c_impl_laplacian_8 : List GOp := [oo 22 (.fa 1 (tt 1)), oo 23 (.ld (tt 22)), oo 24 (.len (tt 23)), oo 25 (.mv (ci 0))]
abbrev c_impl_laplacian_9 : List GOp := [oo 26 (.bin .lss (tt 25) (tt 24))]
abbrev c_impl_laplacian_10 : List GOp := [oo 27 (.ia 3 (tt 23) (tt 25)), oo 28 (.ldn 3 (tt 27)), oo 6 (.al [.int .i64 0, .int .i64 0, .int .i64 0]), on (.st 3 (tt 6) (tt 28))]
abbrev c_impl_laplacian_11 : List DOp := [dl 0 (oo 29 (.mv (tt 3))), dl 1 (oo 30 (.fa 0 (tt 6))), dl 2 (oo 31 (.ld (tt 30))), dl 3 (oo 32 (.ia 1 (tt 29) (tt 31))), dl 4 (oo 33 (.ld (tt 32))), dl 5 (oo 34 (.fa 0 (tt 6))), dl 6 (oo 35 (.ld (tt 34))), dl 7 (oo 36 (.ia 1 (tt 33) (tt 35))), dl 8 (oo 37 (.ld (tt 36))), dl 9 (oo 38 (.fa 2 (tt 6))), dl 10 (oo 39 (.ld (tt 38))), dl 11 (oo 40 (.bin .add (tt 37) (tt 39))), dl 12 (oo 41 (.ia 1 (tt 33) (tt 35))), dh 13 [] (on (.st 1 (tt 41) (tt 40)))]
abbrev c_impl_laplacian_12 : List DOp := [dl 0 (oo 42 (.mv (tt 3))), dl 1 (oo 43 (.fa 1 (tt 6))), dl 2 (oo 44 (.ld (tt 43))), dl 3 (oo 45 (.ia 1 (tt 42) (tt 44))), dl 4 (oo 46 (.ld (tt 45))), dl 5 (oo 47 (.fa 1 (tt 6))), dl 6 (oo 48 (.ld (tt 47))), dl 7 (oo 49 (.ia 1 (tt 46) (tt 48))), dl 8 (oo 50 (.ld (tt 49))), dl 9 (oo 51 (.fa 2 (tt 6))), dl 10 (oo 52 (.ld (tt 51))), dl 11 (oo 53 (.bin .add (tt 50) (tt 52))), dl 12 (oo 54 (.ia 1 (tt 46) (tt 48))), dh 13 [] (on (.st 1 (tt 54) (tt 53)))]
abbrev c_impl_laplacian_13 : List DOp := [dl 0 (oo 55 (.mv (tt 3))), dl 1 (oo 56 (.fa 0 (tt 6))), dl 2 (oo 57 (.ld (tt 56))), dl 3 (oo 58 (.ia 1 (tt 55) (tt 57))), dl 4 (oo 59 (.ld (tt 58))), dl 5 (oo 60 (.fa 1 (tt 6))), dl 6 (oo 61 (.ld (tt 60))), dl 7 (oo 62 (.fa 2 (tt 6))), dl 8 (oo 63 (.ld (tt 62))), dl 9 (oo 64 (.un .neg (tt 63))), dl 10 (oo 65 (.ia 1 (tt 59) (tt 61))), dh 11 [] (on (.st 1 (tt 65) (tt 64)))]
abbrev c_impl_laplacian_14 : List DOp := [dl 0 (oo 66 (.mv (tt 3))), dl 1 (oo 67 (.fa 1 (tt 6))), dl 2 (oo 68 (.ld (tt 67))), dl 3 (oo 69 (.ia 1 (tt 66) (tt 68))), dl 4 (oo 70 (.ld (tt 69))), dl 5 (oo 71 (.fa 0 (tt 6))), dl 6 (oo 72 (.ld (tt 71))), dl 7 (oo 73 (.fa 2 (tt 6))), dl 8 (oo 74 (.ld (tt 73))), dl 9 (oo 75 (.un .neg (tt 74))), dl 10 (oo 76 (.ia 1 (tt 70) (tt 72))), dh 11 [] (on (.st 1 (tt 76) (tt 75)))]
abbrev c_impl_laplacian_15 : List GOp := [oo 77 (.bin .add (tt 25) (ci 1)), oo 25 (.mv (tt 77))]
abbrev c_impl_laplacian_l1 : GCode := .seq (.reg c_impl_laplacian_9) (.seq (.cond (tt 26) (.skip) (.exit 2)) (.seq (.blk 3 (.seq (.reg c_impl_laplacian_10) (.seq (.dreg c_impl_laplacian_11) (.seq (.dreg c_impl_laplacian_12) (.seq (.dreg c_impl_laplacian_13) (.dreg c_impl_laplacian_14)))))) (.reg c_impl_laplacian_15)))
abbrev c_impl_laplacian_17 : List GOp := [oo 78 (.mv (tt 3)), oo 2 (.mv (tt 78))]
abbrev c_impl_laplacian : GCode := .seq (.reg c_impl_laplacian_0) (.seq (.reg c_impl_laplacian_1) (.seq (.seq (.reg c_impl_laplacian_2) (.blk 0 (.loop c_impl_laplacian_l0))) (.seq (.seq (.reg c_impl_laplacian_8) (.blk 2 (.loop c_impl_laplacian_l1))) (.seq (.reg c_impl_laplacian_17) (.ret)))))
theorem c_impl_laplacian_d : decFn Try.prog Try.f148 = some (79, [.t 2], c_impl_laplacian) := by kernel_rfl
theorem c_impl_laplacian_i {args : List Value} {G : GH} {K : Value → GH → Prop} (hn : args.length ≤ 79) (h : gW Try.prog c_impl_laplacian (RetK [.t 2] K) (T0 args) G) : GC Try.prog 148 args G K := GC_intro mixed Try.func148 c_impl_laplacian_d hn h
abbrev c_impl_size_int64_0 : List GOp := [oo 2 (.mv (ci 0))]
abbrev c_impl_size_int64_1 : List GOp := [oo 3 (.mv (tt 0)), oo 4 (.len (tt 3)), oo 2 (.mv (tt 4))]
abbrev c_impl_size_int64 : GCode := .seq (.reg c_impl_size_int64_0) (.seq (.reg c_impl_size_int64_1) (.ret))
theorem c_impl_size_int64_d : decFn Try.prog Try.f213 = some (5, [.t 2], c_impl_size_int64) := by kernel_rfl
theorem c_impl_size_int64_i {args : List Value} {G : GH} {K : Value → GH → Prop} (hn : args.length ≤ 5) (h : gW Try.prog c_impl_size_int64 (RetK [.t 2] K) (T0 args) G) : GC Try.prog 213 args G K := GC_intro mixed Try.func213 c_impl_size_int64_d hn h
abbrev c_impl_withVector_0 : List GOp := [oo 2 (.bx (tt 0)), oo 4 (.mv (ci 0))]
abbrev c_impl_withVector_1 : List GOp := [oo 6 (.ldn 2 (tt 2)), oo 7 (.call (ff 141) [tt 6]), oo 8 (.un .not (tt 7)), oo 5 (.mv (tt 8))]
abbrev c_impl_withVector_2 : List GOp := [oo 4 (.mv (ci 1))]
abbrev c_impl_withVector_3 : List GOp := [oo 10 (.ldn 2 (tt 2)), oo 11 (.mv (tt 1)), oo 12 (.call (ff 201) [tt 10, tt 11]), oo 13 (.un .not (tt 12)), oo 9 (.mv (tt 13))]
abbrev c_impl_withVector_4 : List GOp := [oo 4 (.mv (ci 2))]
abbrev c_impl_withVector_5 : List GOp := [oo 4 (.mv (ci 0))]
abbrev c_impl_withVector : GCode := .seq (.reg c_impl_withVector_0) (.seq (.blk 0 (.seq (.reg c_impl_withVector_1) (.cond (tt 5) (.seq (.reg c_impl_withVector_2) (.ret)) (.seq (.reg c_impl_withVector_3) (.cond (tt 9) (.seq (.reg c_impl_withVector_4) (.ret)) (.skip)))))) (.seq (.reg c_impl_withVector_5) (.ret)))
theorem c_impl_withVector_d : decFn Try.prog Try.f102 = some (14, [.t 4], c_impl_withVector) := by kernel_rfl
theorem c_impl_withVector_i {args : List Value} {G : GH} {K : Value → GH → Prop} (hn : args.length ≤ 14) (h : gW Try.prog c_impl_withVector (RetK [.t 4] K) (T0 args) G) : GC Try.prog 102 args G K := GC_intro mixed Try.func102 c_impl_withVector_d hn h
abbrev c_impl_within_0 : List GOp := [oo 6 (.mv (cb  false))]
abbrev c_impl_within_1 : List GOp := [oo 7 (.mv (tt 0)), oo 8 (.mv (tt 1)), oo 9 (.bin .geq (tt 7) (tt 8)), oo 10 (.mv (tt 9)), og 11 10 true (.mv (tt 0)), og 12 10 true (.mv (tt 2)), og 13 10 true (.bin .leq (tt 11) (tt 12)), oo 14 (.pick (tt 10) (tt 13) (cb  false)), oo 6 (.mv (tt 14))]
abbrev c_impl_within : GCode := .seq (.reg c_impl_within_0) (.seq (.reg c_impl_within_1) (.ret))
theorem c_impl_within_d : decFn Try.prog Try.f122 = some (15, [.t 6], c_impl_within) := by kernel_rfl
theorem c_impl_within_i {args : List Value} {G : GH} {K : Value → GH → Prop} (hn : args.length ≤ 15) (h : gW Try.prog c_impl_within (RetK [.t 6] K) (T0 args) G) : GC Try.prog 122 args G K := GC_intro mixed Try.func122 c_impl_within_d hn h
abbrev c_laws_FnLaplacians_0 : List GOp := [oo 4 (.mv (cb  false))]
abbrev c_laws_FnLaplacians_1 : List GOp := [oo 23 (.mv (tt 0)), oo 24 (.call (ff 56) [tt 23]), oo 25 (.mv (tt 24)), og 26 25 false (.mv (tt 1)), og 27 25 false (.call (ff 56) [tt 26]), oo 28 (.pick (tt 25) (cb  true) (tt 27))]
abbrev c_laws_FnLaplacians_2 : List GOp := [oo 4 (.mv (cb  true))]
abbrev c_laws_FnLaplacians_3 : List GOp := [oo 30 (.mv (tt 0)), oo 31 (.call (ff 57) [tt 30]), oo 29 (.mv (tt 31)), oo 32 (.ex 0 (tt 29)), oo 33 (.ex 1 (tt 29)), oo 5 (.al [.int .i64 0, .slice none 0 0]), on (.st 2 (tt 5) (tt 32)), oo 6 (.mv (tt 33))]
abbrev c_laws_FnLaplacians_4 : List GOp := [oo 35 (.ldn 2 (tt 5)), oo 36 (.mv (tt 6)), oo 37 (.call (ff 58) [tt 35, tt 36]), oo 34 (.mv (tt 37)), oo 38 (.ex 0 (tt 34)), oo 39 (.ex 1 (tt 34)), oo 7 (.mv (tt 38)), oo 8 (.mv (tt 39))]
abbrev c_laws_FnLaplacians_5 : List GOp := [oo 41 (.ldn 2 (tt 5)), oo 42 (.mv (tt 6)), oo 43 (.call (ff 59) [tt 41, tt 42]), oo 40 (.mv (tt 43)), oo 44 (.ex 0 (tt 40)), oo 45 (.ex 1 (tt 40)), oo 9 (.mv (tt 44)), oo 10 (.mv (tt 45))]
abbrev c_laws_FnLaplacians_6 : List GOp := [oo 46 (.mv (tt 8)), oo 47 (.mv (tt 10)), oo 48 (.bin .neq (tt 46) (tt 47))]
abbrev c_laws_FnLaplacians_7 : List GOp := [oo 4 (.mv (cb  false))]
abbrev c_laws_FnLaplacians_8 : List GOp := [oo 49 (.mv (tt 8)), oo 50 (.bin .eql (tt 49) (ci 0))]
abbrev c_laws_FnLaplacians_9 : List GOp := [oo 51 (.mv (tt 9)), oo 52 (.len (tt 51)), oo 53 (.mv (tt 6)), oo 54 (.len (tt 53)), oo 55 (.bin .neq (tt 52) (tt 54)), oo 56 (.mv (tt 55)), og 57 56 false (.mv (tt 9)), og 58 56 false (.call (ff 60) [tt 57]), og 59 56 false (.bin .neq (tt 58) (ci 0)), oo 60 (.pick (tt 56) (cb  true) (tt 59))]
abbrev c_laws_FnLaplacians_10 : List GOp := [oo 4 (.mv (cb  false))]
abbrev c_laws_FnLaplacians_11 : List GOp := [oo 11 (.mv (ci 0))]
abbrev c_laws_FnLaplacians_12 : List GOp := [oo 12 (.mv (ci 0))]
abbrev c_laws_FnLaplacians_13 : List GOp := [oo 61 (.mv (tt 12)), oo 62 (.mv (tt 6)), oo 63 (.len (tt 62)), oo 64 (.bin .lss (tt 61) (tt 63))]
abbrev c_laws_FnLaplacians_14 : List DOp := [dl 0 (oo 67 (.mv (tt 11))), dl 1 (oo 68 (.mv (tt 6))), dl 2 (oo 69 (.mv (tt 12))), dl 3 (oo 70 (.ia 1 (tt 68) (tt 69))), dl 4 (oo 71 (.ld (tt 70))), dl 5 (oo 72 (.mv (tt 9))), dl 6 (oo 73 (.mv (tt 12))), dl 7 (oo 74 (.ia 1 (tt 72) (tt 73))), dl 8 (oo 75 (.ld (tt 74))), dl 9 (oo 76 (.bin .mul (tt 71) (tt 75))), dl 10 (oo 77 (.bin .add (tt 67) (tt 76))), dl 11 (oo 11 (.mv (tt 77)))]
abbrev c_laws_FnLaplacians_15 : List GOp := [oo 65 (.mv (tt 12)), oo 66 (.bin .add (tt 65) (ci 1)), oo 12 (.mv (tt 66))]
abbrev c_laws_FnLaplacians_l0 : GCode := .seq (.seq (.reg c_laws_FnLaplacians_13) (.cond (tt 64) (.skip) (.exit 0))) (.seq (.blk 1 (.dreg c_laws_FnLaplacians_14)) (.reg c_laws_FnLaplacians_15))
abbrev c_laws_FnLaplacians_17 : List GOp := [oo 78 (.mv (tt 11)), oo 79 (.mv (tt 7)), oo 80 (.bin .neq (tt 78) (tt 79)), oo 81 (.mv (tt 80)), og 82 81 false (.mv (tt 7)), og 83 81 false (.bin .lss (tt 82) (ci 0)), oo 84 (.pick (tt 81) (cb  true) (tt 83)), oo 85 (.mv (tt 84)), og 86 85 false (.ldn 2 (tt 5)), og 87 85 false (.mv (tt 6)), og 88 85 false (.bs 1 []), og 89 85 false (.call (ff 53) [tt 86, tt 87, tt 88]), og 90 85 false (.mv (tt 9)), og 91 85 false (.call (ff 61) [tt 90]), og 92 85 false (.eqb true (tt 89) (tt 91)), oo 93 (.pick (tt 85) (cb  true) (tt 92))]
abbrev c_laws_FnLaplacians_18 : List GOp := [oo 4 (.mv (cb  false))]
abbrev c_laws_FnLaplacians_19 : List GOp := [oo 94 (.mv (tt 1)), oo 95 (.call (ff 62) [tt 94]), oo 13 (.al [.int .i64 0, .slice none 0 0]), on (.st 2 (tt 13) (tt 95))]
abbrev c_laws_FnLaplacians_20 : List GOp := [oo 97 (.ldn 2 (tt 13)), oo 98 (.call (ff 63) [tt 97]), oo 96 (.mv (tt 98)), oo 99 (.ex 0 (tt 96)), oo 100 (.ex 1 (tt 96)), oo 14 (.mv (tt 99)), oo 15 (.mv (tt 100))]
abbrev c_laws_FnLaplacians_21 : List GOp := [oo 102 (.ldn 2 (tt 13)), oo 103 (.call (ff 64) [tt 102]), oo 101 (.mv (tt 103)), oo 104 (.ex 0 (tt 101)), oo 105 (.ex 1 (tt 101)), oo 16 (.mv (tt 104)), oo 17 (.mv (tt 105))]
abbrev c_laws_FnLaplacians_22 : List GOp := [oo 107 (.ldn 2 (tt 13)), oo 108 (.call (ff 65) [tt 107]), oo 106 (.mv (tt 108)), oo 109 (.ex 0 (tt 106)), oo 110 (.ex 1 (tt 106)), oo 18 (.mv (tt 109)), oo 19 (.mv (tt 110))]
abbrev c_laws_FnLaplacians_23 : List GOp := [oo 111 (.mv (tt 15)), oo 112 (.bin .neq (tt 111) (ci 0))]
abbrev c_laws_FnLaplacians_24 : List GOp := [oo 113 (.mv (tt 17)), oo 114 (.mv (tt 15)), oo 115 (.bin .eql (tt 113) (tt 114)), oo 116 (.mv (tt 115)), og 117 116 true (.mv (tt 19)), og 118 116 true (.mv (tt 15)), og 119 116 true (.bin .eql (tt 117) (tt 118)), oo 120 (.pick (tt 116) (tt 119) (cb  false)), oo 4 (.mv (tt 120))]
abbrev c_laws_FnLaplacians_25 : List GOp := [oo 122 (.ldn 2 (tt 13)), oo 123 (.mv (tt 14)), oo 124 (.call (ff 58) [tt 122, tt 123]), oo 121 (.mv (tt 124)), oo 125 (.ex 0 (tt 121)), oo 126 (.ex 1 (tt 121)), oo 20 (.mv (tt 125)), oo 21 (.mv (tt 126))]
abbrev c_laws_FnLaplacians_26 : List GOp := [oo 127 (.mv (tt 17)), oo 128 (.bin .neq (tt 127) (ci 0)), oo 129 (.mv (tt 128)), og 130 129 false (.mv (tt 19)), og 131 129 false (.bin .neq (tt 130) (ci 0)), oo 132 (.pick (tt 129) (cb  true) (tt 131)), oo 133 (.mv (tt 132)), og 134 133 false (.mv (tt 21)), og 135 133 false (.bin .neq (tt 134) (ci 0)), oo 136 (.pick (tt 133) (cb  true) (tt 135)), oo 137 (.mv (tt 136)), og 138 137 false (.mv (tt 20)), og 139 137 false (.bin .neq (tt 138) (ci 0)), oo 140 (.pick (tt 137) (cb  true) (tt 139)), oo 141 (.mv (tt 140)), og 142 141 false (.mv (tt 16)), og 143 141 false (.len (tt 142)), og 144 141 false (.mv (tt 18)), og 145 141 false (.len (tt 144)), og 146 141 false (.bin .neq (tt 143) (tt 145)), oo 147 (.pick (tt 141) (cb  true) (tt 146)), oo 148 (.mv (tt 147)), og 149 148 false (.mv (tt 16)), og 150 148 false (.len (tt 149)), og 151 148 false (.fa 0 (tt 13)), og 152 148 false (.ld (tt 151)), og 153 148 false (.bin .neq (tt 150) (tt 152)), oo 154 (.pick (tt 148) (cb  true) (tt 153))]
abbrev c_laws_FnLaplacians_27 : List GOp := [oo 4 (.mv (cb  false))]
abbrev c_laws_FnLaplacians_28 : List GOp := [oo 22 (.mv (ci 0))]
abbrev c_laws_FnLaplacians_29 : List GOp := [oo 155 (.mv (tt 22)), oo 156 (.mv (tt 16)), oo 157 (.len (tt 156)), oo 158 (.bin .lss (tt 155) (tt 157))]
abbrev c_laws_FnLaplacians_30 : List DOp := [dl 0 (oo 161 (.mv (tt 16))), dl 1 (oo 162 (.mv (tt 22))), dl 2 (oo 163 (.ia 1 (tt 161) (tt 162))), dl 3 (oo 164 (.ld (tt 163))), dh 4 [] (oo 165 (.call (ff 60) [tt 164])), dl 5 (oo 166 (.bin .neq (tt 165) (ci 0))), dl 6 (oo 167 (.mv (tt 166))), dl 7 (og 168 167 false (.mv (tt 16))), dl 8 (og 169 167 false (.mv (tt 22))), dl 9 (og 170 167 false (.ia 1 (tt 168) (tt 169))), dl 10 (og 171 167 false (.ld (tt 170))), dl 11 (og 172 167 false (.len (tt 171))), dl 12 (og 173 167 false (.mv (tt 16))), dl 13 (og 174 167 false (.len (tt 173))), dl 14 (og 175 167 false (.bin .neq (tt 172) (tt 174))), dl 15 (oo 176 (.pick (tt 167) (cb  true) (tt 175))), dl 16 (oo 177 (.mv (tt 176))), dl 17 (og 178 177 false (.mv (tt 16))), dl 18 (og 179 177 false (.mv (tt 22))), dl 19 (og 180 177 false (.ia 1 (tt 178) (tt 179))), dl 20 (og 181 177 false (.ld (tt 180))), dl 21 (og 182 177 false (.mv (tt 22))), dl 22 (og 183 177 false (.ia 1 (tt 181) (tt 182))), dl 23 (og 184 177 false (.ld (tt 183))), dl 24 (og 185 177 false (.mv (tt 18))), dl 25 (og 186 177 false (.mv (tt 22))), dl 26 (og 187 177 false (.ia 1 (tt 185) (tt 186))), dl 27 (og 188 177 false (.ld (tt 187))), dl 28 (og 189 177 false (.bin .neq (tt 184) (tt 188))), dl 29 (oo 190 (.pick (tt 177) (cb  true) (tt 189)))]
abbrev c_laws_FnLaplacians_31 : List GOp := [oo 4 (.mv (cb  false))]
abbrev c_laws_FnLaplacians_32 : List GOp := [oo 159 (.mv (tt 22)), oo 160 (.bin .add (tt 159) (ci 1)), oo 22 (.mv (tt 160))]
abbrev c_laws_FnLaplacians_l1 : GCode := .seq (.seq (.reg c_laws_FnLaplacians_29) (.cond (tt 158) (.skip) (.exit 2))) (.seq (.blk 3 (.seq (.dreg c_laws_FnLaplacians_30) (.cond (tt 190) (.seq (.reg c_laws_FnLaplacians_31) (.ret)) (.skip)))) (.reg c_laws_FnLaplacians_32))
abbrev c_laws_FnLaplacians_34 : List GOp := [oo 4 (.mv (cb  true))]
abbrev c_laws_FnLaplacians : GCode := .seq (.reg c_laws_FnLaplacians_0) (.seq (.seq (.reg c_laws_FnLaplacians_1) (.cond (tt 28) (.seq (.reg c_laws_FnLaplacians_2) (.ret)) (.skip))) (.seq (.reg c_laws_FnLaplacians_3) (.seq (.reg c_laws_FnLaplacians_4) (.seq (.reg c_laws_FnLaplacians_5) (.seq (.seq (.reg c_laws_FnLaplacians_6) (.cond (tt 48) (.seq (.reg c_laws_FnLaplacians_7) (.ret)) (.skip))) (.seq (.seq (.reg c_laws_FnLaplacians_8) (.cond (tt 50) (.seq (.seq (.reg c_laws_FnLaplacians_9) (.cond (tt 60) (.seq (.reg c_laws_FnLaplacians_10) (.ret)) (.skip))) (.seq (.reg c_laws_FnLaplacians_11) (.seq (.seq (.reg c_laws_FnLaplacians_12) (.blk 0 (.loop c_laws_FnLaplacians_l0))) (.seq (.reg c_laws_FnLaplacians_17) (.cond (tt 93) (.seq (.reg c_laws_FnLaplacians_18) (.ret)) (.skip)))))) (.skip))) (.seq (.reg c_laws_FnLaplacians_19) (.seq (.reg c_laws_FnLaplacians_20) (.seq (.reg c_laws_FnLaplacians_21) (.seq (.reg c_laws_FnLaplacians_22) (.seq (.seq (.reg c_laws_FnLaplacians_23) (.cond (tt 112) (.seq (.reg c_laws_FnLaplacians_24) (.ret)) (.skip))) (.seq (.reg c_laws_FnLaplacians_25) (.seq (.seq (.reg c_laws_FnLaplacians_26) (.cond (tt 154) (.seq (.reg c_laws_FnLaplacians_27) (.ret)) (.skip))) (.seq (.seq (.reg c_laws_FnLaplacians_28) (.blk 2 (.loop c_laws_FnLaplacians_l1))) (.seq (.reg c_laws_FnLaplacians_34) (.ret))))))))))))))))
theorem c_laws_FnLaplacians_d : decFn Try.prog Try.f14 = some (191, [.t 4], c_laws_FnLaplacians) := by kernel_rfl
theorem c_laws_FnLaplacians_i {args : List Value} {G : GH} {K : Value → GH → Prop} (hn : args.length ≤ 191) (h : gW Try.prog c_laws_FnLaplacians (RetK [.t 4] K) (T0 args) G) : GC Try.prog 14 args G K := GC_intro mixed Try.func14 c_laws_FnLaplacians_d hn h
abbrev c_laws_b10Long_0 : List GOp := [oo 2 (.mv (cb  false))]
abbrev c_laws_b10Long_1 : List GOp := [oo 3 (.mv (tt 0)), oo 4 (.len (tt 3)), oo 5 (.bin .gtr (tt 4) (ci 1048576)), oo 2 (.mv (tt 5))]
abbrev c_laws_b10Long : GCode := .seq (.reg c_laws_b10Long_0) (.seq (.reg c_laws_b10Long_1) (.ret))
theorem c_laws_b10Long_d : decFn Try.prog Try.f56 = some (6, [.t 2], c_laws_b10Long) := by kernel_rfl
theorem c_laws_b10Long_i {args : List Value} {G : GH} {K : Value → GH → Prop} (hn : args.length ≤ 6) (h : gW Try.prog c_laws_b10Long (RetK [.t 2] K) (T0 args) G) : GC Try.prog 56 args G K := GC_intro mixed Try.func56 c_laws_b10Long_d hn h
abbrev c_laws_b10Sum_0 : List GOp := [oo 2 (.mv (ci 0))]
abbrev c_laws_b10Sum_1 : List GOp := [oo 3 (.mv (ci 0))]
abbrev c_laws_b10Sum_2 : List GOp := [oo 4 (.mv (ci 0))]
abbrev c_laws_b10Sum_3 : List GOp := [oo 5 (.mv (tt 4)), oo 6 (.mv (tt 0)), oo 7 (.len (tt 6)), oo 8 (.bin .lss (tt 5) (tt 7))]
abbrev c_laws_b10Sum_4 : List GOp := [oo 11 (.mv (tt 3)), oo 12 (.mv (tt 0)), oo 13 (.mv (tt 4)), oo 14 (.ia 1 (tt 12) (tt 13)), oo 15 (.ld (tt 14)), oo 16 (.bin .add (tt 11) (tt 15)), oo 3 (.mv (tt 16))]
abbrev c_laws_b10Sum_5 : List GOp := [oo 9 (.mv (tt 4)), oo 10 (.bin .add (tt 9) (ci 1)), oo 4 (.mv (tt 10))]
abbrev c_laws_b10Sum_l0 : GCode := .seq (.seq (.reg c_laws_b10Sum_3) (.cond (tt 8) (.skip) (.exit 0))) (.seq (.blk 1 (.reg c_laws_b10Sum_4)) (.reg c_laws_b10Sum_5))
abbrev c_laws_b10Sum_7 : List GOp := [oo 17 (.mv (tt 3)), oo 2 (.mv (tt 17))]
abbrev c_laws_b10Sum : GCode := .seq (.reg c_laws_b10Sum_0) (.seq (.reg c_laws_b10Sum_1) (.seq (.seq (.reg c_laws_b10Sum_2) (.blk 0 (.loop c_laws_b10Sum_l0))) (.seq (.reg c_laws_b10Sum_7) (.ret))))
theorem c_laws_b10Sum_d : decFn Try.prog Try.f60 = some (18, [.t 2], c_laws_b10Sum) := by kernel_rfl
theorem c_laws_b10Sum_i {args : List Value} {G : GH} {K : Value → GH → Prop} (hn : args.length ≤ 18) (h : gW Try.prog c_laws_b10Sum (RetK [.t 2] K) (T0 args) G) : GC Try.prog 60 args G K := GC_intro mixed Try.func60 c_laws_b10Sum_d hn h
abbrev c_laws_b10Zero_0 : List GOp := [oo 2 (.mv (cb  false))]
abbrev c_laws_b10Zero_1 : List GOp := [oo 3 (.mv (ci 0))]
abbrev c_laws_b10Zero_2 : List GOp := [oo 4 (.mv (tt 3)), oo 5 (.mv (tt 0)), oo 6 (.len (tt 5)), oo 7 (.bin .lss (tt 4) (tt 6))]
abbrev c_laws_b10Zero_3 : List GOp := [oo 10 (.mv (tt 0)), oo 11 (.mv (tt 3)), oo 12 (.ia 1 (tt 10) (tt 11)), oo 13 (.ld (tt 12)), oo 14 (.bin .neq (tt 13) (ci 0))]
abbrev c_laws_b10Zero_4 : List GOp := [oo 2 (.mv (cb  false))]
abbrev c_laws_b10Zero_5 : List GOp := [oo 8 (.mv (tt 3)), oo 9 (.bin .add (tt 8) (ci 1)), oo 3 (.mv (tt 9))]
abbrev c_laws_b10Zero_l0 : GCode := .seq (.seq (.reg c_laws_b10Zero_2) (.cond (tt 7) (.skip) (.exit 0))) (.seq (.blk 1 (.seq (.reg c_laws_b10Zero_3) (.cond (tt 14) (.seq (.reg c_laws_b10Zero_4) (.ret)) (.skip)))) (.reg c_laws_b10Zero_5))
abbrev c_laws_b10Zero_7 : List GOp := [oo 2 (.mv (cb  true))]
abbrev c_laws_b10Zero : GCode := .seq (.reg c_laws_b10Zero_0) (.seq (.seq (.reg c_laws_b10Zero_1) (.blk 0 (.loop c_laws_b10Zero_l0))) (.seq (.reg c_laws_b10Zero_7) (.ret)))
theorem c_laws_b10Zero_d : decFn Try.prog Try.f61 = some (15, [.t 2], c_laws_b10Zero) := by kernel_rfl
theorem c_laws_b10Zero_i {args : List Value} {G : GH} {K : Value → GH → Prop} (hn : args.length ≤ 15) (h : gW Try.prog c_laws_b10Zero (RetK [.t 2] K) (T0 args) G) : GC Try.prog 61 args G K := GC_intro mixed Try.func61 c_laws_b10Zero_d hn h
abbrev c_slices_ContainsFunc_int64_int64_0 : List GOp := [oo 4 (.mv (cb  false))]
abbrev c_slices_ContainsFunc_int64_int64_1 : List GOp := [oo 5 (.mv (tt 0)), oo 6 (.mv (tt 1)), oo 7 (.call (ff 222) [tt 5, tt 6]), oo 8 (.bin .geq (tt 7) (ci 0)), oo 4 (.mv (tt 8))]
abbrev c_slices_ContainsFunc_int64_int64 : GCode := .seq (.reg c_slices_ContainsFunc_int64_int64_0) (.seq (.reg c_slices_ContainsFunc_int64_int64_1) (.ret))
theorem c_slices_ContainsFunc_int64_int64_d : decFn Try.prog Try.f152 = some (9, [.t 4], c_slices_ContainsFunc_int64_int64) := by kernel_rfl
theorem c_slices_ContainsFunc_int64_int64_i {args : List Value} {G : GH} {K : Value → GH → Prop} (hn : args.length ≤ 9) (h : gW Try.prog c_slices_ContainsFunc_int64_int64 (RetK [.t 4] K) (T0 args) G) : GC Try.prog 152 args G K := GC_intro mixed Try.func152 c_slices_ContainsFunc_int64_int64_d hn h
abbrev c_slices_Contains_int64_int64_0 : List GOp := [oo 4 (.mv (cb  false))]
abbrev c_slices_Contains_int64_int64_1 : List GOp := [oo 5 (.mv (tt 0)), oo 6 (.mv (tt 1)), oo 7 (.call (ff 166) [tt 5, tt 6]), oo 8 (.bin .geq (tt 7) (ci 0)), oo 4 (.mv (tt 8))]
abbrev c_slices_Contains_int64_int64 : GCode := .seq (.reg c_slices_Contains_int64_int64_0) (.seq (.reg c_slices_Contains_int64_int64_1) (.ret))
theorem c_slices_Contains_int64_int64_d : decFn Try.prog Try.f137 = some (9, [.t 4], c_slices_Contains_int64_int64) := by kernel_rfl
theorem c_slices_Contains_int64_int64_i {args : List Value} {G : GH} {K : Value → GH → Prop} (hn : args.length ≤ 9) (h : gW Try.prog c_slices_Contains_int64_int64 (RetK [.t 4] K) (T0 args) G) : GC Try.prog 137 args G K := GC_intro mixed Try.func137 c_slices_Contains_int64_int64_d hn h
abbrev c_slices_IndexFunc_int64_int64_0 : List GOp := [oo 4 (.mv (ci 0))]
abbrev c_slices_IndexFunc_int64_int64_1 : List GOp := [oo 6 (.mv (tt 0)), oo 7 (.len (tt 6)), oo 8 (.mv (ci 0))]
abbrev c_slices_IndexFunc_int64_int64_2 : List GOp := [oo 9 (.bin .lss (tt 8) (tt 7))]
abbrev c_slices_IndexFunc_int64_int64_3 : List GOp := [oo 10 (.mv (tt 8)), oo 5 (.mv (tt 10))]
abbrev c_slices_IndexFunc_int64_int64_4 : List GOp := [oo 11 (.mv (tt 1)), oo 12 (.mv (tt 0)), oo 13 (.mv (tt 5)), oo 14 (.ia 1 (tt 12) (tt 13)), oo 15 (.ld (tt 14)), oo 16 (.call (tt 11) [tt 15])]
abbrev c_slices_IndexFunc_int64_int64_5 : List GOp := [oo 17 (.mv (tt 5)), oo 4 (.mv (tt 17))]
abbrev c_slices_IndexFunc_int64_int64_6 : List GOp := [oo 18 (.bin .add (tt 8) (ci 1)), oo 8 (.mv (tt 18))]
abbrev c_slices_IndexFunc_int64_int64_l0 : GCode := .seq (.reg c_slices_IndexFunc_int64_int64_2) (.seq (.cond (tt 9) (.skip) (.exit 0)) (.seq (.blk 1 (.seq (.reg c_slices_IndexFunc_int64_int64_3) (.seq (.reg c_slices_IndexFunc_int64_int64_4) (.cond (tt 16) (.seq (.reg c_slices_IndexFunc_int64_int64_5) (.ret)) (.skip))))) (.reg c_slices_IndexFunc_int64_int64_6)))
abbrev c_slices_IndexFunc_int64_int64_8 : List GOp := [oo 4 (.mv (ci (-1)))]
abbrev c_slices_IndexFunc_int64_int64 : GCode := .seq (.reg c_slices_IndexFunc_int64_int64_0) (.seq (.seq (.reg c_slices_IndexFunc_int64_int64_1) (.blk 0 (.loop c_slices_IndexFunc_int64_int64_l0))) (.seq (.reg c_slices_IndexFunc_int64_int64_8) (.ret)))
theorem c_slices_IndexFunc_int64_int64_d : decFn Try.prog Try.f222 = some (19, [.t 4], c_slices_IndexFunc_int64_int64) := by kernel_rfl
theorem c_slices_IndexFunc_int64_int64_i {args : List Value} {G : GH} {K : Value → GH → Prop} (hn : args.length ≤ 19) (h : gW Try.prog c_slices_IndexFunc_int64_int64 (RetK [.t 4] K) (T0 args) G) : GC Try.prog 222 args G K := GC_intro mixed Try.func222 c_slices_IndexFunc_int64_int64_d hn h
abbrev c_slices_Index_int64_int64_0 : List GOp := [oo 4 (.mv (ci 0))]
abbrev c_slices_Index_int64_int64_1 : List GOp := [oo 6 (.mv (tt 0)), oo 7 (.len (tt 6)), oo 8 (.mv (ci 0))]
abbrev c_slices_Index_int64_int64_2 : List GOp := [oo 9 (.bin .lss (tt 8) (tt 7))]
abbrev c_slices_Index_int64_int64_3 : List GOp := [oo 10 (.mv (tt 8)), oo 5 (.mv (tt 10))]
abbrev c_slices_Index_int64_int64_4 : List GOp := [oo 11 (.mv (tt 1)), oo 12 (.mv (tt 0)), oo 13 (.mv (tt 5)), oo 14 (.ia 1 (tt 12) (tt 13)), oo 15 (.ld (tt 14)), oo 16 (.bin .eql (tt 11) (tt 15))]
abbrev c_slices_Index_int64_int64_5 : List GOp := [oo 17 (.mv (tt 5)), oo 4 (.mv (tt 17))]
abbrev c_slices_Index_int64_int64_6 : List GOp := [oo 18 (.bin .add (tt 8) (ci 1)), oo 8 (.mv (tt 18))]
abbrev c_slices_Index_int64_int64_l0 : GCode := .seq (.reg c_slices_Index_int64_int64_2) (.seq (.cond (tt 9) (.skip) (.exit 0)) (.seq (.blk 1 (.seq (.reg c_slices_Index_int64_int64_3) (.seq (.reg c_slices_Index_int64_int64_4) (.cond (tt 16) (.seq (.reg c_slices_Index_int64_int64_5) (.ret)) (.skip))))) (.reg c_slices_Index_int64_int64_6)))
abbrev c_slices_Index_int64_int64_8 : List GOp := [oo 4 (.mv (ci (-1)))]
abbrev c_slices_Index_int64_int64 : GCode := .seq (.reg c_slices_Index_int64_int64_0) (.seq (.seq (.reg c_slices_Index_int64_int64_1) (.blk 0 (.loop c_slices_Index_int64_int64_l0))) (.seq (.reg c_slices_Index_int64_int64_8) (.ret)))
theorem c_slices_Index_int64_int64_d : decFn Try.prog Try.f166 = some (19, [.t 4], c_slices_Index_int64_int64) := by kernel_rfl
theorem c_slices_Index_int64_int64_i {args : List Value} {G : GH} {K : Value → GH → Prop} (hn : args.length ≤ 19) (h : gW Try.prog c_slices_Index_int64_int64 (RetK [.t 4] K) (T0 args) G) : GC Try.prog 166 args G K := GC_intro mixed Try.func166 c_slices_Index_int64_int64_d hn h
abbrev c_spec_DrawComponentsOf_0 : List GOp := [oo 2 (.al [.int .i64 0, .slice none 0 0])]
abbrev c_spec_DrawComponentsOf_1 : List GOp := [oo 4 (.mv (tt 0)), oo 5 (.call (ff 145) [tt 4]), oo 3 (.mv (tt 5))]
abbrev c_spec_DrawComponentsOf_2 : List GOp := [oo 6 (.mv (tt 3)), oo 7 (.call (ff 146) [tt 6]), on (.st 2 (tt 2) (tt 7))]
abbrev c_spec_DrawComponentsOf : GCode := .seq (.reg c_spec_DrawComponentsOf_0) (.seq (.reg c_spec_DrawComponentsOf_1) (.seq (.reg c_spec_DrawComponentsOf_2) (.ret)))
theorem c_spec_DrawComponentsOf_d : decFn Try.prog Try.f62 = some (8, [.cn 2 2], c_spec_DrawComponentsOf) := by kernel_rfl
theorem c_spec_DrawComponentsOf_i {args : List Value} {G : GH} {K : Value → GH → Prop} (hn : args.length ≤ 8) (h : gW Try.prog c_spec_DrawComponentsOf (RetK [.cn 2 2] K) (T0 args) G) : GC Try.prog 62 args G K := GC_intro mixed Try.func62 c_spec_DrawComponentsOf_d hn h
abbrev c_spec_DrawEnergyOf_0 : List GOp := [oo 2 (.al [.int .i64 0, .slice none 0 0]), oo 3 (.mv (.const (.slice none 0 0)))]
abbrev c_spec_DrawEnergyOf_1 : List GOp := [oo 6 (.mv (tt 0)), oo 7 (.call (ff 145) [tt 6]), oo 4 (.mv (tt 7))]
abbrev c_spec_DrawEnergyOf_2 : List GOp := [oo 8 (.mv (tt 4)), oo 9 (.call (ff 146) [tt 8]), oo 5 (.al [.int .i64 0, .slice none 0 0]), on (.st 2 (tt 5) (tt 9))]
abbrev c_spec_DrawEnergyOf_3 : List DOp := [dl 0 (oo 10 (.ldn 2 (tt 5))), dl 1 (oo 11 (.mv (tt 4))), dh 2 [0] (oo 12 (.call (ff 147) [tt 11, tt 5])), dh 3 [] (on (.st 2 (tt 2) (tt 10))), dl 4 (oo 3 (.mv (tt 12)))]
abbrev c_spec_DrawEnergyOf : GCode := .seq (.reg c_spec_DrawEnergyOf_0) (.seq (.reg c_spec_DrawEnergyOf_1) (.seq (.reg c_spec_DrawEnergyOf_2) (.seq (.dreg c_spec_DrawEnergyOf_3) (.ret))))
theorem c_spec_DrawEnergyOf_d : decFn Try.prog Try.f57 = some (13, [.cn 2 2, .t 3], c_spec_DrawEnergyOf) := by kernel_rfl
theorem c_spec_DrawEnergyOf_i {args : List Value} {G : GH} {K : Value → GH → Prop} (hn : args.length ≤ 13) (h : gW Try.prog c_spec_DrawEnergyOf (RetK [.cn 2 2, .t 3] K) (T0 args) G) : GC Try.prog 57 args G K := GC_intro mixed Try.func57 c_spec_DrawEnergyOf_d hn h
abbrev c_spec_l00From_0 : List GOp := [oo 2 (.mv (.const (.pointer none)))]
abbrev c_spec_l00From_1 : List GOp := [oo 3 (.mv (tt 0)), oo 4 (.bld [.slice none 0 0, .int .i64 0, .int .u64 0] [(0, 1, (tt 3))]), oo 5 (.bx (tt 4)), oo 2 (.mv (tt 5))]
abbrev c_spec_l00From : GCode := .seq (.reg c_spec_l00From_0) (.seq (.reg c_spec_l00From_1) (.ret))
theorem c_spec_l00From_d : decFn Try.prog Try.f145 = some (6, [.t 2], c_spec_l00From) := by kernel_rfl
theorem c_spec_l00From_i {args : List Value} {G : GH} {K : Value → GH → Prop} (hn : args.length ≤ 6) (h : gW Try.prog c_spec_l00From (RetK [.t 2] K) (T0 args) G) : GC Try.prog 145 args G K := GC_intro mixed Try.func145 c_spec_l00From_d hn h
abbrev c_spec_l00Src_among_0 : List GOp := [oo 4 (.mv (ci 0))]
abbrev c_spec_l00Src_among_1 : List GOp := [oo 5 (.mv (tt 1)), oo 6 (.mv (tt 0)), oo 7 (.mv (tt 1)), oo 8 (.len (tt 7)), oo 9 (.call (ff 220) [tt 6, tt 8]), oo 10 (.ia 1 (tt 5) (tt 9)), oo 11 (.ld (tt 10)), oo 4 (.mv (tt 11))]
abbrev c_spec_l00Src_among : GCode := .seq (.reg c_spec_l00Src_among_0) (.seq (.reg c_spec_l00Src_among_1) (.ret))
theorem c_spec_l00Src_among_d : decFn Try.prog Try.f157 = some (12, [.t 4], c_spec_l00Src_among) := by kernel_rfl
theorem c_spec_l00Src_among_i {args : List Value} {G : GH} {K : Value → GH → Prop} (hn : args.length ≤ 12) (h : gW Try.prog c_spec_l00Src_among (RetK [.t 4] K) (T0 args) G) : GC Try.prog 157 args G K := GC_intro mixed Try.func157 c_spec_l00Src_among_d hn h
abbrev c_spec_l00Src_next_0 : List GOp := [oo 2 (.mv (ci 0))]
abbrev c_spec_l00Src_next_1 : List GOp := [oo 3 (.mv (ci 0))]
abbrev c_spec_l00Src_next_2 : List DOp := [dl 0 (oo 4 (.mv (tt 0))), dl 1 (oo 5 (.nc (tt 4))), dl 2 (oo 6 (.fa 1 (tt 5))), dl 3 (oo 7 (.ld (tt 6))), dl 4 (oo 8 (.mv (tt 0))), dl 5 (oo 9 (.nc (tt 8))), dl 6 (oo 10 (.fa 0 (tt 9))), dl 7 (oo 11 (.ld (tt 10))), dl 8 (oo 12 (.len (tt 11))), dl 9 (oo 13 (.bin .lss (tt 7) (tt 12)))]
abbrev c_spec_l00Src_next_3 : List DOp := [dl 0 (oo 14 (.mv (tt 0))), dl 1 (oo 15 (.nc (tt 14))), dl 2 (oo 16 (.fa 0 (tt 15))), dl 3 (oo 17 (.ld (tt 16))), dl 4 (oo 18 (.mv (tt 0))), dl 5 (oo 19 (.nc (tt 18))), dl 6 (oo 20 (.fa 1 (tt 19))), dl 7 (oo 21 (.ld (tt 20))), dl 8 (oo 22 (.ia 1 (tt 17) (tt 21))), dl 9 (oo 23 (.ld (tt 22))), dl 10 (oo 24 (.cvi .i64 (tt 23))), dl 11 (oo 3 (.mv (tt 24)))]
abbrev c_spec_l00Src_next_4 : List GOp := [oo 25 (.mv (tt 0)), oo 26 (.nc (tt 25)), oo 27 (.fa 1 (tt 26)), oo 28 (.ld (tt 27)), oo 29 (.bin .add (tt 28) (ci 1)), oo 30 (.nc (tt 25)), oo 31 (.fa 1 (tt 30)), on (.st 1 (tt 31) (tt 29))]
abbrev c_spec_l00Src_next_5 : List GOp := [oo 32 (.mv (tt 0)), oo 33 (.mv (tt 0)), oo 34 (.nc (tt 33)), oo 35 (.fa 2 (tt 34)), oo 36 (.ld (tt 35)), oo 37 (.bin .mul (tt 36) (.const (.int .u64 6364136223846793005))), oo 38 (.mv (tt 3)), oo 39 (.cvi .u64 (tt 38)), oo 40 (.bin .add (tt 37) (tt 39)), oo 41 (.bin .add (tt 40) (.const (.int .u64 1442695040888963407))), oo 42 (.nc (tt 32)), oo 43 (.fa 2 (tt 42)), on (.st 1 (tt 43) (tt 41))]
abbrev c_spec_l00Src_next_6 : List DOp := [dl 0 (oo 44 (.mv (tt 0))), dl 1 (oo 45 (.nc (tt 44))), dl 2 (oo 46 (.fa 1 (tt 45))), dl 3 (oo 47 (.ld (tt 46))), dl 4 (oo 48 (.mv (tt 0))), dl 5 (oo 49 (.nc (tt 48))), dl 6 (oo 50 (.fa 0 (tt 49))), dl 7 (oo 51 (.ld (tt 50))), dl 8 (oo 52 (.len (tt 51))), dl 9 (oo 53 (.bin .leq (tt 47) (tt 52)))]
abbrev c_spec_l00Src_next_7 : List GOp := [oo 54 (.mv (tt 3)), oo 2 (.mv (tt 54))]
abbrev c_spec_l00Src_next_8 : List GOp := [oo 55 (.mv (tt 0)), oo 56 (.nc (tt 55)), oo 57 (.fa 2 (tt 56)), oo 58 (.ld (tt 57)), oo 59 (.bin .shr (tt 58) (.const (.int .u64 40))), oo 60 (.bin .and (tt 59) (.const (.int .u64 255))), oo 61 (.cvi .i64 (tt 60)), oo 2 (.mv (tt 61))]
abbrev c_spec_l00Src_next : GCode := .seq (.reg c_spec_l00Src_next_0) (.seq (.reg c_spec_l00Src_next_1) (.seq (.seq (.dreg c_spec_l00Src_next_2) (.cond (tt 13) (.dreg c_spec_l00Src_next_3) (.skip))) (.seq (.reg c_spec_l00Src_next_4) (.seq (.reg c_spec_l00Src_next_5) (.seq (.seq (.dreg c_spec_l00Src_next_6) (.cond (tt 53) (.seq (.reg c_spec_l00Src_next_7) (.ret)) (.skip))) (.seq (.reg c_spec_l00Src_next_8) (.ret)))))))
theorem c_spec_l00Src_next_d : decFn Try.prog Try.f249 = some (62, [.t 2], c_spec_l00Src_next) := by kernel_rfl
theorem c_spec_l00Src_next_i {args : List Value} {G : GH} {K : Value → GH → Prop} (hn : args.length ≤ 62) (h : gW Try.prog c_spec_l00Src_next (RetK [.t 2] K) (T0 args) G) : GC Try.prog 249 args G K := GC_intro mixed Try.func249 c_spec_l00Src_next_d hn h
abbrev c_spec_l00Src_one_0 : List GOp := [oo 4 (.mv (cb  false))]
abbrev c_spec_l00Src_one_1 : List GOp := [oo 5 (.mv (tt 0)), oo 6 (.mv (tt 1)), oo 7 (.call (ff 220) [tt 5, tt 6]), oo 8 (.bin .eql (tt 7) (ci 0)), oo 4 (.mv (tt 8))]
abbrev c_spec_l00Src_one : GCode := .seq (.reg c_spec_l00Src_one_0) (.seq (.reg c_spec_l00Src_one_1) (.ret))
theorem c_spec_l00Src_one_d : decFn Try.prog Try.f221 = some (9, [.t 4], c_spec_l00Src_one) := by kernel_rfl
theorem c_spec_l00Src_one_i {args : List Value} {G : GH} {K : Value → GH → Prop} (hn : args.length ≤ 9) (h : gW Try.prog c_spec_l00Src_one (RetK [.t 4] K) (T0 args) G) : GC Try.prog 221 args G K := GC_intro mixed Try.func221 c_spec_l00Src_one_d hn h
abbrev c_spec_l00Src_pick_0 : List GOp := [oo 4 (.mv (ci 0))]
abbrev c_spec_l00Src_pick_1 : List GOp := [oo 6 (.mv (tt 1)), oo 7 (.bin .leq (tt 6) (ci 1))]
abbrev c_spec_l00Src_pick_2 : List GOp := [oo 4 (.mv (ci 0))]
abbrev c_spec_l00Src_pick_3 : List GOp := [oo 8 (.mv (tt 0)), oo 9 (.call (ff 249) [tt 8]), oo 5 (.mv (tt 9))]
abbrev c_spec_l00Src_pick_4 : List GOp := [oo 10 (.mv (tt 1)), oo 11 (.bin .gtr (tt 10) (ci 200))]
abbrev c_spec_l00Src_pick_5 : List GOp := [oo 12 (.mv (tt 5)), oo 13 (.bin .mul (tt 12) (ci 256)), oo 14 (.mv (tt 0)), oo 15 (.call (ff 249) [tt 14]), oo 16 (.bin .add (tt 13) (tt 15)), oo 5 (.mv (tt 16))]
abbrev c_spec_l00Src_pick_6 : List GOp := [oo 17 (.mv (tt 5)), oo 18 (.mv (tt 1)), oo 19 (.bin .rem (tt 17) (tt 18)), oo 4 (.mv (tt 19))]
abbrev c_spec_l00Src_pick : GCode := .seq (.reg c_spec_l00Src_pick_0) (.seq (.seq (.reg c_spec_l00Src_pick_1) (.cond (tt 7) (.seq (.reg c_spec_l00Src_pick_2) (.ret)) (.skip))) (.seq (.reg c_spec_l00Src_pick_3) (.seq (.seq (.reg c_spec_l00Src_pick_4) (.cond (tt 11) (.reg c_spec_l00Src_pick_5) (.skip))) (.seq (.reg c_spec_l00Src_pick_6) (.ret)))))
theorem c_spec_l00Src_pick_d : decFn Try.prog Try.f220 = some (20, [.t 4], c_spec_l00Src_pick) := by kernel_rfl
theorem c_spec_l00Src_pick_i {args : List Value} {G : GH} {K : Value → GH → Prop} (hn : args.length ≤ 20) (h : gW Try.prog c_spec_l00Src_pick (RetK [.t 4] K) (T0 args) G) : GC Try.prog 220 args G K := GC_intro mixed Try.func220 c_spec_l00Src_pick_d hn h
abbrev c_spec_l16Draw_0 : List GOp := [oo 2 (.al [.int .i64 0, .slice none 0 0])]
abbrev c_spec_l16Draw_1 : List GOp := [oo 6 (.mv (tt 0)), oo 7 (.call (ff 219) [tt 6]), oo 3 (.al [.int .i64 0, .slice none 0 0]), on (.st 2 (tt 3) (tt 7))]
abbrev c_spec_l16Draw_2 : List GOp := [oo 8 (.mv (tt 0)), oo 9 (.call (ff 220) [tt 8, (ci 20)])]
abbrev c_spec_l16Draw_3 : List GOp := [oo 11 (.bin .eql (tt 9) (ci 0)), oo 10 (.mv (tt 11))]
abbrev c_spec_l16Draw_4 : List GOp := [oo 12 (.mv (tt 0)), oo 13 (.bs 1 [(ci 0), (ci 12), (ci 13)]), oo 14 (.call (ff 157) [tt 12, tt 13]), oo 15 (.fa 0 (tt 3)), on (.st 1 (tt 15) (tt 14))]
abbrev c_spec_l16Draw_5 : List GOp := [oo 17 (.bin .eql (tt 9) (ci 1)), oo 16 (.mv (tt 17))]
abbrev c_spec_l16Draw_6 : List DOp := [dl 0 (oo 18 (.fa 1 (tt 3))), dl 1 (oo 19 (.ld (tt 18))), dl 2 (oo 20 (.mv (tt 0))), dl 4 (oo 22 (.mv (tt 0))), dh 3 [1] (oo 21 (.call (ff 220) [tt 20, (ci 3)])), dh 5 [1] (oo 23 (.call (ff 220) [tt 22, (ci 4)])), dl 6 (oo 24 (.bld [.int .i64 0, .int .i64 0, .int .i64 0] [(0, 1, (tt 21)), (1, 1, (tt 23)), (2, 1, (ci 1))])), dh 7 [1] (oo 25 (.bs 3 [tt 24])), dh 8 [] (oo 26 (.ap 3 24 [.int .i64 0, .int .i64 0, .int .i64 0] (tt 19) (tt 25))), dl 9 (oo 27 (.fa 1 (tt 3))), dh 10 [] (on (.st 1 (tt 27) (tt 26)))]
abbrev c_spec_l16Draw_7 : List GOp := [oo 29 (.bin .eql (tt 9) (ci 2)), oo 28 (.mv (tt 29))]
abbrev c_spec_l16Draw_8 : List GOp := [oo 30 (.fa 1 (tt 3)), oo 31 (.ld (tt 30)), oo 32 (.len (tt 31)), oo 33 (.bin .gtr (tt 32) (ci 0))]
abbrev c_spec_l16Draw_9 : List DOp := [dl 0 (oo 34 (.fa 1 (tt 3))), dl 1 (oo 35 (.ld (tt 34))), dl 2 (oo 36 (.mv (tt 0))), dh 3 [1] (oo 37 (.bs 1 [(ci 0), (ci 9), (ci 10)])), dh 4 [1] (oo 38 (.call (ff 157) [tt 36, tt 37])), dl 5 (oo 39 (.ia 3 (tt 35) (ci 0))), dl 6 (oo 40 (.fa 2 (tt 39))), dh 7 [] (on (.st 1 (tt 40) (tt 38)))]
abbrev c_spec_l16Draw_10 : List GOp := [oo 42 (.bin .eql (tt 9) (ci 3)), oo 41 (.mv (tt 42))]
abbrev c_spec_l16Draw_11 : List GOp := [oo 43 (.mv (tt 0)), oo 44 (.bs 1 [(ci 24), (ci 25)]), oo 45 (.call (ff 157) [tt 43, tt 44]), oo 4 (.mv (tt 45))]
abbrev c_spec_l16Draw_12 : List GOp := [oo 46 (.bld [.int .i64 0, .slice none 0 0] [(0, 1, (ci 12))]), on (.st 2 (tt 3) (tt 46))]
abbrev c_spec_l16Draw_13 : List GOp := [oo 5 (.mv (ci 0))]
abbrev c_spec_l16Draw_14 : List GOp := [oo 47 (.mv (tt 5)), oo 48 (.mv (tt 4)), oo 49 (.bin .lss (tt 47) (tt 48))]
abbrev c_spec_l16Draw_15 : List GOp := [oo 52 (.fa 1 (tt 3)), oo 53 (.ld (tt 52)), oo 54 (.mv (tt 5)), oo 55 (.bin .quo (tt 54) (ci 8)), oo 56 (.mv (tt 5)), oo 57 (.bin .rem (tt 56) (ci 8)), oo 58 (.bin .add (ci 3) (tt 57)), oo 59 (.bld [.int .i64 0, .int .i64 0, .int .i64 0] [(0, 1, (tt 55)), (1, 1, (tt 58)), (2, 1, (ci 1))]), oo 60 (.bs 3 [tt 59]), oo 61 (.ap 3 24 [.int .i64 0, .int .i64 0, .int .i64 0] (tt 53) (tt 60)), oo 62 (.fa 1 (tt 3)), on (.st 1 (tt 62) (tt 61))]
abbrev c_spec_l16Draw_16 : List GOp := [oo 50 (.mv (tt 5)), oo 51 (.bin .add (tt 50) (ci 1)), oo 5 (.mv (tt 51))]
abbrev c_spec_l16Draw_l0 : GCode := .seq (.seq (.reg c_spec_l16Draw_14) (.cond (tt 49) (.skip) (.exit 1))) (.seq (.blk 2 (.reg c_spec_l16Draw_15)) (.reg c_spec_l16Draw_16))
abbrev c_spec_l16Draw_18 : List GOp := [oo 63 (.ldn 2 (tt 3)), on (.st 2 (tt 2) (tt 63))]
abbrev c_spec_l16Draw : GCode := .seq (.reg c_spec_l16Draw_0) (.seq (.reg c_spec_l16Draw_1) (.seq (.seq (.reg c_spec_l16Draw_2) (.blk 0 (.seq (.reg c_spec_l16Draw_3) (.cond (tt 10) (.reg c_spec_l16Draw_4) (.seq (.reg c_spec_l16Draw_5) (.cond (tt 16) (.dreg c_spec_l16Draw_6) (.seq (.reg c_spec_l16Draw_7) (.cond (tt 28) (.seq (.reg c_spec_l16Draw_8) (.cond (tt 33) (.dreg c_spec_l16Draw_9) (.skip))) (.seq (.reg c_spec_l16Draw_10) (.cond (tt 41) (.seq (.reg c_spec_l16Draw_11) (.seq (.reg c_spec_l16Draw_12) (.seq (.reg c_spec_l16Draw_13) (.blk 1 (.loop c_spec_l16Draw_l0))))) (.skip))))))))))) (.seq (.reg c_spec_l16Draw_18) (.ret))))
theorem c_spec_l16Draw_d : decFn Try.prog Try.f146 = some (64, [.cn 2 2], c_spec_l16Draw) := by kernel_rfl
theorem c_spec_l16Draw_i {args : List Value} {G : GH} {K : Value → GH → Prop} (hn : args.length ≤ 64) (h : gW Try.prog c_spec_l16Draw (RetK [.cn 2 2] K) (T0 args) G) : GC Try.prog 146 args G K := GC_intro mixed Try.func146 c_spec_l16Draw_d hn h
abbrev c_spec_l16DrawOk_0 : List GOp := [oo 2 (.al [.int .i64 0, .slice none 0 0])]
abbrev c_spec_l16DrawOk_1 : List GOp := [oo 7 (.mv (tt 0)), oo 8 (.call (ff 220) [tt 7, (ci 6)]), oo 9 (.bin .add (ci 1) (tt 8)), oo 10 (.bld [.int .i64 0, .slice none 0 0] [(0, 1, (tt 9))]), oo 3 (.al [.int .i64 0, .slice none 0 0]), on (.st 2 (tt 3) (tt 10))]
abbrev c_spec_l16DrawOk_2 : List GOp := [oo 11 (.mv (tt 0)), oo 12 (.bs 1 [(ci 2), (ci 2), (ci 3), (ci 9)]), oo 13 (.call (ff 157) [tt 11, tt 12]), oo 4 (.mv (tt 13))]
abbrev c_spec_l16DrawOk_3 : List GOp := [oo 14 (.mv (tt 0)), oo 15 (.call (ff 221) [tt 14, (ci 14)])]
abbrev c_spec_l16DrawOk_4 : List GOp := [oo 16 (.fa 0 (tt 3)), on (.st 1 (tt 16) (ci 12))]
abbrev c_spec_l16DrawOk_5 : List GOp := [oo 4 (.mv (ci 4))]
abbrev c_spec_l16DrawOk_6 : List GOp := [oo 5 (.mv (ci 0))]
abbrev c_spec_l16DrawOk_7 : List GOp := [oo 17 (.mv (tt 5)), oo 18 (.fa 0 (tt 3)), oo 19 (.ld (tt 18)), oo 20 (.bin .lss (tt 17) (tt 19))]
abbrev c_spec_l16DrawOk_8 : List GOp := [oo 23 (.mv (tt 5)), oo 24 (.bin .add (tt 23) (ci 1)), oo 6 (.mv (tt 24))]
abbrev c_spec_l16DrawOk_9 : List GOp := [oo 25 (.mv (tt 6)), oo 26 (.fa 0 (tt 3)), oo 27 (.ld (tt 26)), oo 28 (.bin .lss (tt 25) (tt 27))]
abbrev c_spec_l16DrawOk_10 : List GOp := [oo 31 (.mv (tt 0)), oo 32 (.mv (tt 4)), oo 33 (.call (ff 221) [tt 31, tt 32]), oo 34 (.un .not (tt 33)), oo 35 (.mv (tt 34)), og 36 35 true (.fa 1 (tt 3)), og 37 35 true (.ld (tt 36)), og 38 35 true (.len (tt 37)), og 39 35 true (.bin .lss (tt 38) (ci 24)), oo 40 (.pick (tt 35) (tt 39) (cb  false))]
abbrev c_spec_l16DrawOk_11 : List DOp := [dl 0 (oo 41 (.fa 1 (tt 3))), dl 1 (oo 42 (.ld (tt 41))), dl 2 (oo 43 (.mv (tt 5))), dl 3 (oo 44 (.mv (tt 6))), dl 4 (oo 45 (.mv (tt 0))), dh 5 [1] (oo 46 (.bs 1 [(ci 1), (ci 1), (ci 2), (ci 3), (ci 9)])), dh 6 [1] (oo 47 (.call (ff 157) [tt 45, tt 46])), dl 7 (oo 48 (.bld [.int .i64 0, .int .i64 0, .int .i64 0] [(0, 1, (tt 43)), (1, 1, (tt 44)), (2, 1, (tt 47))])), dh 8 [1] (oo 49 (.bs 3 [tt 48])), dh 9 [] (oo 50 (.ap 3 24 [.int .i64 0, .int .i64 0, .int .i64 0] (tt 42) (tt 49))), dl 10 (oo 51 (.fa 1 (tt 3))), dh 11 [] (on (.st 1 (tt 51) (tt 50)))]
abbrev c_spec_l16DrawOk_12 : List GOp := [oo 29 (.mv (tt 6)), oo 30 (.bin .add (tt 29) (ci 1)), oo 6 (.mv (tt 30))]
abbrev c_spec_l16DrawOk_l0 : GCode := .seq (.seq (.reg c_spec_l16DrawOk_9) (.cond (tt 28) (.skip) (.exit 2))) (.seq (.blk 3 (.seq (.reg c_spec_l16DrawOk_10) (.cond (tt 40) (.dreg c_spec_l16DrawOk_11) (.skip)))) (.reg c_spec_l16DrawOk_12))
abbrev c_spec_l16DrawOk_14 : List GOp := [oo 21 (.mv (tt 5)), oo 22 (.bin .add (tt 21) (ci 1)), oo 5 (.mv (tt 22))]
abbrev c_spec_l16DrawOk_l1 : GCode := .seq (.seq (.reg c_spec_l16DrawOk_7) (.cond (tt 20) (.skip) (.exit 0))) (.seq (.blk 1 (.seq (.reg c_spec_l16DrawOk_8) (.blk 2 (.loop c_spec_l16DrawOk_l0)))) (.reg c_spec_l16DrawOk_14))
abbrev c_spec_l16DrawOk_16 : List GOp := [oo 52 (.ldn 2 (tt 3)), on (.st 2 (tt 2) (tt 52))]
abbrev c_spec_l16DrawOk : GCode := .seq (.reg c_spec_l16DrawOk_0) (.seq (.reg c_spec_l16DrawOk_1) (.seq (.reg c_spec_l16DrawOk_2) (.seq (.seq (.reg c_spec_l16DrawOk_3) (.cond (tt 15) (.seq (.reg c_spec_l16DrawOk_4) (.reg c_spec_l16DrawOk_5)) (.skip))) (.seq (.seq (.reg c_spec_l16DrawOk_6) (.blk 0 (.loop c_spec_l16DrawOk_l1))) (.seq (.reg c_spec_l16DrawOk_16) (.ret))))))
theorem c_spec_l16DrawOk_d : decFn Try.prog Try.f219 = some (53, [.cn 2 2], c_spec_l16DrawOk) := by kernel_rfl
theorem c_spec_l16DrawOk_i {args : List Value} {G : GH} {K : Value → GH → Prop} (hn : args.length ≤ 53) (h : gW Try.prog c_spec_l16DrawOk (RetK [.cn 2 2] K) (T0 args) G) : GC Try.prog 219 args G K := GC_intro mixed Try.func219 c_spec_l16DrawOk_d hn h
abbrev c_spec_l16DrawVector_0 : List GOp := [oo 4 (.mv (.const (.slice none 0 0)))]
abbrev c_spec_l16DrawVector_1 : List GOp := [oo 7 (.bs 1 []), oo 5 (.mv (tt 7))]
abbrev c_spec_l16DrawVector_2 : List GOp := [oo 6 (.mv (ci 0))]
abbrev c_spec_l16DrawVector_3 : List GOp := [oo 8 (.mv (tt 6)), oo 9 (.mv (tt 1)), oo 10 (.nc (tt 9)), oo 11 (.fa 0 (tt 10)), oo 12 (.ld (tt 11)), oo 13 (.bin .lss (tt 8) (tt 12)), oo 14 (.mv (tt 13)), og 15 14 true (.mv (tt 6)), og 16 14 true (.bin .lss (tt 15) (ci 20)), oo 17 (.pick (tt 14) (tt 16) (cb  false))]
abbrev c_spec_l16DrawVector_4 : List GOp := [oo 20 (.mv (tt 5)), oo 21 (.mv (tt 0)), oo 22 (.bs 1 [(ci 0), (ci 1), (ci (-3)), (ci 7), (ci 1000000), (ci (-1000000)), (ci 2)]), oo 23 (.call (ff 157) [tt 21, tt 22]), oo 24 (.bs 1 [tt 23]), oo 25 (.ap 1 8 [.int .i64 0] (tt 20) (tt 24)), oo 5 (.mv (tt 25))]
abbrev c_spec_l16DrawVector_5 : List GOp := [oo 18 (.mv (tt 6)), oo 19 (.bin .add (tt 18) (ci 1)), oo 6 (.mv (tt 19))]
abbrev c_spec_l16DrawVector_l0 : GCode := .seq (.seq (.reg c_spec_l16DrawVector_3) (.cond (tt 17) (.skip) (.exit 0))) (.seq (.blk 1 (.reg c_spec_l16DrawVector_4)) (.reg c_spec_l16DrawVector_5))
abbrev c_spec_l16DrawVector_7 : List GOp := [oo 26 (.mv (tt 0)), oo 27 (.call (ff 220) [tt 26, (ci 16)])]
abbrev c_spec_l16DrawVector_8 : List GOp := [oo 29 (.bin .eql (tt 27) (ci 0)), oo 28 (.mv (tt 29))]
abbrev c_spec_l16DrawVector_9 : List GOp := [oo 30 (.mv (tt 5)), oo 31 (.bs 1 [(ci 0)]), oo 32 (.ap 1 8 [.int .i64 0] (tt 30) (tt 31)), oo 5 (.mv (tt 32))]
abbrev c_spec_l16DrawVector_10 : List GOp := [oo 34 (.bin .eql (tt 27) (ci 1)), oo 33 (.mv (tt 34))]
abbrev c_spec_l16DrawVector_11 : List GOp := [oo 35 (.mv (tt 5)), oo 36 (.len (tt 35)), oo 37 (.bin .gtr (tt 36) (ci 0))]
abbrev c_spec_l16DrawVector_12 : List GOp := [oo 38 (.mv (tt 5)), oo 39 (.mv (tt 0)), oo 40 (.bs 1 [(ci (-1000001)), (ci 1000001)]), oo 41 (.call (ff 157) [tt 39, tt 40]), oo 42 (.ia 1 (tt 38) (ci 0)), on (.st 1 (tt 42) (tt 41))]
abbrev c_spec_l16DrawVector_13 : List GOp := [oo 43 (.mv (tt 5)), oo 4 (.mv (tt 43))]
abbrev c_spec_l16DrawVector : GCode := .seq (.reg c_spec_l16DrawVector_0) (.seq (.reg c_spec_l16DrawVector_1) (.seq (.seq (.reg c_spec_l16DrawVector_2) (.blk 0 (.loop c_spec_l16DrawVector_l0))) (.seq (.seq (.reg c_spec_l16DrawVector_7) (.blk 2 (.seq (.reg c_spec_l16DrawVector_8) (.cond (tt 28) (.reg c_spec_l16DrawVector_9) (.seq (.reg c_spec_l16DrawVector_10) (.cond (tt 33) (.seq (.reg c_spec_l16DrawVector_11) (.cond (tt 37) (.reg c_spec_l16DrawVector_12) (.skip))) (.skip))))))) (.seq (.reg c_spec_l16DrawVector_13) (.ret)))))
theorem c_spec_l16DrawVector_d : decFn Try.prog Try.f147 = some (44, [.t 4], c_spec_l16DrawVector) := by kernel_rfl
theorem c_spec_l16DrawVector_i {args : List Value} {G : GH} {K : Value → GH → Prop} (hn : args.length ≤ 44) (h : gW Try.prog c_spec_l16DrawVector (RetK [.t 4] K) (T0 args) G) : GC Try.prog 147 args G K := GC_intro mixed Try.func147 c_spec_l16DrawVector_d hn h

end Go.Proofs.Ytmlkgpoakkgjbaa.Gh
