/- Code trees that the law IsHarmonic reaches: each is what the decoding gives (checked by the kernel). -/
import Derived.Test.YtmlkgpoakkgjbaaC0
import Derived.Test.YtmlkgpoakkgjbaaFm
import Derived.Test.YtmlkgpoakkgjbaaFz
namespace Go.Proofs.Ytmlkgpoakkgjbaa.Gh
open Go Go.RowKit Go.Proofs
set_option linter.unusedVariables false
set_option linter.unusedSimpArgs false
set_option maxHeartbeats 4000000

abbrev c_cmp_Compare_int64_0 : List GOp := [oo 4 (.mv (ci 0))]
abbrev c_cmp_Compare_int64_1 : List GOp := [oo 7 (.mv (tt 0)), oo 8 (.call (ff 248) [tt 7]), oo 5 (.mv (tt 8))]
abbrev c_cmp_Compare_int64_2 : List GOp := [oo 9 (.mv (tt 1)), oo 10 (.call (ff 248) [tt 9]), oo 6 (.mv (tt 10))]
abbrev c_cmp_Compare_int64_3 : List GOp := [oo 11 (.mv (tt 5))]
abbrev c_cmp_Compare_int64_4 : List GOp := [oo 12 (.mv (tt 6))]
abbrev c_cmp_Compare_int64_5 : List GOp := [oo 4 (.mv (ci 0))]
abbrev c_cmp_Compare_int64_6 : List GOp := [oo 4 (.mv (ci (-1)))]
abbrev c_cmp_Compare_int64_7 : List GOp := [oo 13 (.mv (tt 6))]
abbrev c_cmp_Compare_int64_8 : List GOp := [oo 4 (.mv (ci 1))]
abbrev c_cmp_Compare_int64_9 : List GOp := [oo 14 (.mv (tt 0)), oo 15 (.mv (tt 1)), oo 16 (.bin .lss (tt 14) (tt 15))]
abbrev c_cmp_Compare_int64_10 : List GOp := [oo 4 (.mv (ci (-1)))]
abbrev c_cmp_Compare_int64_11 : List GOp := [oo 17 (.mv (tt 0)), oo 18 (.mv (tt 1)), oo 19 (.bin .gtr (tt 17) (tt 18))]
abbrev c_cmp_Compare_int64_12 : List GOp := [oo 4 (.mv (ci 1))]
abbrev c_cmp_Compare_int64_13 : List GOp := [oo 4 (.mv (ci 0))]
abbrev c_cmp_Compare_int64 : GCode := .seq (.reg c_cmp_Compare_int64_0) (.seq (.reg c_cmp_Compare_int64_1) (.seq (.reg c_cmp_Compare_int64_2) (.seq (.seq (.reg c_cmp_Compare_int64_3) (.cond (tt 11) (.seq (.seq (.reg c_cmp_Compare_int64_4) (.cond (tt 12) (.seq (.reg c_cmp_Compare_int64_5) (.ret)) (.skip))) (.seq (.reg c_cmp_Compare_int64_6) (.ret))) (.skip))) (.seq (.seq (.reg c_cmp_Compare_int64_7) (.cond (tt 13) (.seq (.reg c_cmp_Compare_int64_8) (.ret)) (.skip))) (.seq (.seq (.reg c_cmp_Compare_int64_9) (.cond (tt 16) (.seq (.reg c_cmp_Compare_int64_10) (.ret)) (.skip))) (.seq (.seq (.reg c_cmp_Compare_int64_11) (.cond (tt 19) (.seq (.reg c_cmp_Compare_int64_12) (.ret)) (.skip))) (.seq (.reg c_cmp_Compare_int64_13) (.ret))))))))
theorem c_cmp_Compare_int64_d : decFn Try.prog Try.f218 = some (20, [.t 4], c_cmp_Compare_int64) := by kernel_rfl
theorem c_cmp_Compare_int64_i {args : List Value} {G : GH} {K : Value → GH → Prop} (hn : args.length ≤ 20) (h : gW Try.prog c_cmp_Compare_int64 (RetK [.t 4] K) (T0 args) G) : GC Try.prog 218 args G K := GC_intro mixed Try.func218 c_cmp_Compare_int64_d hn h
abbrev c_cmp_Or_int_0 : List GOp := [oo 2 (.mv (ci 0))]
abbrev c_cmp_Or_int_1 : List GOp := [oo 3 (.mv (ci 0))]
abbrev c_cmp_Or_int_2 : List GOp := [oo 6 (.mv (tt 0)), oo 7 (.len (tt 6)), oo 8 (.mv (ci 0))]
abbrev c_cmp_Or_int_3 : List GOp := [oo 9 (.bin .lss (tt 8) (tt 7))]
abbrev c_cmp_Or_int_4 : List GOp := [oo 10 (.ia 1 (tt 6) (tt 8)), oo 11 (.ld (tt 10)), oo 5 (.mv (tt 11))]
abbrev c_cmp_Or_int_5 : List GOp := [oo 12 (.mv (tt 5)), oo 13 (.mv (tt 3)), oo 14 (.bin .neq (tt 12) (tt 13))]
abbrev c_cmp_Or_int_6 : List GOp := [oo 15 (.mv (tt 5)), oo 2 (.mv (tt 15))]
abbrev c_cmp_Or_int_7 : List GOp := [oo 16 (.bin .add (tt 8) (ci 1)), oo 8 (.mv (tt 16))]
abbrev c_cmp_Or_int_l0 : GCode := .seq (.reg c_cmp_Or_int_3) (.seq (.cond (tt 9) (.skip) (.exit 0)) (.seq (.blk 1 (.seq (.reg c_cmp_Or_int_4) (.seq (.reg c_cmp_Or_int_5) (.cond (tt 14) (.seq (.reg c_cmp_Or_int_6) (.ret)) (.skip))))) (.reg c_cmp_Or_int_7)))
abbrev c_cmp_Or_int_9 : List GOp := [oo 17 (.mv (tt 3)), oo 2 (.mv (tt 17))]
abbrev c_cmp_Or_int : GCode := .seq (.reg c_cmp_Or_int_0) (.seq (.reg c_cmp_Or_int_1) (.seq (.seq (.reg c_cmp_Or_int_2) (.blk 0 (.loop c_cmp_Or_int_l0))) (.seq (.reg c_cmp_Or_int_9) (.ret))))
theorem c_cmp_Or_int_d : decFn Try.prog Try.f241 = some (18, [.t 2], c_cmp_Or_int) := by kernel_rfl
theorem c_cmp_Or_int_i {args : List Value} {G : GH} {K : Value → GH → Prop} (hn : args.length ≤ 18) (h : gW Try.prog c_cmp_Or_int (RetK [.t 2] K) (T0 args) G) : GC Try.prog 241 args G K := GC_intro mixed Try.func241 c_cmp_Or_int_d hn h
abbrev c_cmp_isNaN_int64_0 : List GOp := [oo 2 (.mv (cb  false))]
abbrev c_cmp_isNaN_int64_1 : List GOp := [oo 3 (.mv (tt 0)), oo 4 (.mv (tt 0)), oo 5 (.bin .neq (tt 3) (tt 4)), oo 2 (.mv (tt 5))]
abbrev c_cmp_isNaN_int64 : GCode := .seq (.reg c_cmp_isNaN_int64_0) (.seq (.reg c_cmp_isNaN_int64_1) (.ret))
theorem c_cmp_isNaN_int64_d : decFn Try.prog Try.f248 = some (6, [.t 2], c_cmp_isNaN_int64) := by kernel_rfl
theorem c_cmp_isNaN_int64_i {args : List Value} {G : GH} {K : Value → GH → Prop} (hn : args.length ≤ 6) (h : gW Try.prog c_cmp_isNaN_int64 (RetK [.t 2] K) (T0 args) G) : GC Try.prog 248 args G K := GC_intro mixed Try.func248 c_cmp_isNaN_int64_d hn h
abbrev c_impl_IsHarmonic_0 : List GOp := [oo 3 (.bx (tt 0)), oo 6 (.mv (cb  false))]
abbrev c_impl_IsHarmonic_1 : List GOp := [oo 9 (.ldn 2 (tt 3)), oo 10 (.mv (tt 1)), oo 11 (.call (ff 102) [tt 9, tt 10]), oo 12 (.bin .neq (tt 11) (ci 0)), oo 13 (.mv (tt 12)), og 14 13 false (.ldn 2 (tt 3)), og 15 13 false (.mv (tt 2)), og 16 13 false (.call (ff 135) [tt 14, tt 15]), og 17 13 false (.un .not (tt 16)), oo 18 (.pick (tt 13) (cb  true) (tt 17))]
abbrev c_impl_IsHarmonic_2 : List GOp := [oo 6 (.mv (cb  false))]
abbrev c_impl_IsHarmonic_3 : List GOp := [oo 19 (.ldn 2 (tt 3)), oo 20 (.mv (tt 1)), oo 21 (.call (ff 136) [tt 19, tt 20]), oo 22 (.len (tt 21)), oo 23 (.mv (ci 0))]
abbrev c_impl_IsHarmonic_4 : List GOp := [oo 24 (.bin .lss (tt 23) (tt 22))]
abbrev c_impl_IsHarmonic_5 : List GOp := [oo 25 (.mv (tt 23)), oo 26 (.ia 1 (tt 21) (tt 23)), oo 27 (.ld (tt 26)), oo 7 (.mv (tt 25)), oo 8 (.mv (tt 27))]
abbrev c_impl_IsHarmonic_6 : List GOp := [oo 28 (.mv (tt 8)), oo 29 (.bin .neq (tt 28) (ci 0)), oo 30 (.mv (tt 29)), og 31 30 true (.mv (tt 2)), og 32 30 true (.mv (tt 7)), og 33 30 true (.call (ff 137) [tt 31, tt 32]), og 34 30 true (.un .not (tt 33)), oo 35 (.pick (tt 30) (tt 34) (cb  false))]
abbrev c_impl_IsHarmonic_7 : List GOp := [oo 6 (.mv (cb  false))]
abbrev c_impl_IsHarmonic_8 : List GOp := [oo 36 (.bin .add (tt 23) (ci 1)), oo 23 (.mv (tt 36))]
abbrev c_impl_IsHarmonic_l0 : GCode := .seq (.reg c_impl_IsHarmonic_4) (.seq (.cond (tt 24) (.skip) (.exit 0)) (.seq (.blk 1 (.seq (.reg c_impl_IsHarmonic_5) (.seq (.reg c_impl_IsHarmonic_6) (.cond (tt 35) (.seq (.reg c_impl_IsHarmonic_7) (.ret)) (.skip))))) (.reg c_impl_IsHarmonic_8)))
abbrev c_impl_IsHarmonic_10 : List GOp := [oo 6 (.mv (cb  true))]
abbrev c_impl_IsHarmonic : GCode := .seq (.reg c_impl_IsHarmonic_0) (.seq (.seq (.reg c_impl_IsHarmonic_1) (.cond (tt 18) (.seq (.reg c_impl_IsHarmonic_2) (.ret)) (.skip))) (.seq (.seq (.reg c_impl_IsHarmonic_3) (.blk 0 (.loop c_impl_IsHarmonic_l0))) (.seq (.reg c_impl_IsHarmonic_10) (.ret))))
theorem c_impl_IsHarmonic_d : decFn Try.prog Try.f53 = some (37, [.t 6], c_impl_IsHarmonic) := by kernel_rfl
theorem c_impl_IsHarmonic_i {args : List Value} {G : GH} {K : Value → GH → Prop} (hn : args.length ≤ 37) (h : gW Try.prog c_impl_IsHarmonic (RetK [.t 6] K) (T0 args) G) : GC Try.prog 53 args G K := GC_intro mixed Try.func53 c_impl_IsHarmonic_d hn h
abbrev c_impl_ValidGraph_0 : List GOp := [oo 1 (.bx (tt 0)), oo 2 (.mv (cb  false))]
abbrev c_impl_ValidGraph_1 : List GOp := [oo 5 (.fa 1 (tt 1)), oo 6 (.ld (tt 5)), oo 7 (.len (tt 6)), oo 8 (.mv (ci 0))]
abbrev c_impl_ValidGraph_2 : List GOp := [oo 9 (.bin .lss (tt 8) (tt 7))]
abbrev c_impl_ValidGraph_3 : List GOp := [oo 10 (.mv (tt 8)), oo 11 (.ia 3 (tt 6) (tt 8)), oo 12 (.ldn 3 (tt 11)), oo 4 (.al [.int .i64 0, .int .i64 0, .int .i64 0]), oo 3 (.mv (tt 10)), on (.st 3 (tt 4) (tt 12))]
abbrev c_impl_ValidGraph_4 : List DOp := [dl 0 (oo 13 (.fa 0 (tt 4))), dl 1 (oo 14 (.ld (tt 13))), dl 2 (oo 15 (.bin .lss (tt 14) (ci 0))), dl 3 (oo 16 (.mv (tt 15))), dl 4 (og 17 16 false (.fa 0 (tt 4))), dl 5 (og 18 16 false (.ld (tt 17))), dl 6 (og 19 16 false (.fa 1 (tt 4))), dl 7 (og 20 16 false (.ld (tt 19))), dl 8 (og 21 16 false (.bin .geq (tt 18) (tt 20))), dl 9 (oo 22 (.pick (tt 16) (cb  true) (tt 21))), dl 10 (oo 23 (.mv (tt 22))), dl 11 (og 24 23 false (.fa 1 (tt 4))), dl 12 (og 25 23 false (.ld (tt 24))), dl 13 (og 26 23 false (.fa 0 (tt 1))), dl 14 (og 27 23 false (.ld (tt 26))), dl 15 (og 28 23 false (.bin .geq (tt 25) (tt 27))), dl 16 (oo 29 (.pick (tt 23) (cb  true) (tt 28))), dl 17 (oo 30 (.mv (tt 29))), dl 18 (og 31 30 false (.fa 2 (tt 4))), dl 19 (og 32 30 false (.ld (tt 31))), dh 20 [14, 12, 7, 5, 1] (og 33 30 false (.call (ff 122) [tt 32, (ci 1), (ci 9)])), dl 21 (og 34 30 false (.un .not (tt 33))), dl 22 (oo 35 (.pick (tt 30) (cb  true) (tt 34))), dl 23 (oo 36 (.mv (tt 35))), dl 24 (og 37 36 false (.mv (tt 3))), dl 25 (og 38 36 false (.bin .gtr (tt 37) (ci 0))), dl 26 (og 39 36 false (.mv (tt 38))), dl 27 (og 40 39 true (.fa 1 (tt 1))), dl 28 (og 41 39 true (.ld (tt 40))), dl 29 (og 42 39 true (.mv (tt 3))), dl 30 (og 43 39 true (.bin .sub (tt 42) (ci 1))), dl 31 (og 44 39 true (.ia 3 (tt 41) (tt 43))), dl 32 (og 45 39 true (.ldn 3 (tt 44))), dl 33 (og 46 39 true (.ldn 3 (tt 4))), dh 34 [28, 19, 14, 12, 7, 5, 1] (og 47 39 true (.call (ff 217) [tt 45, tt 46])), dl 35 (og 48 39 true (.bin .geq (tt 47) (ci 0))), dl 36 (og 49 36 false (.pick (tt 39) (tt 48) (cb  false))), dl 37 (oo 50 (.pick (tt 36) (cb  true) (tt 49)))]
abbrev c_impl_ValidGraph_5 : List GOp := [oo 2 (.mv (cb  false))]
abbrev c_impl_ValidGraph_6 : List GOp := [oo 51 (.bin .add (tt 8) (ci 1)), oo 8 (.mv (tt 51))]
abbrev c_impl_ValidGraph_l0 : GCode := .seq (.reg c_impl_ValidGraph_2) (.seq (.cond (tt 9) (.skip) (.exit 0)) (.seq (.blk 1 (.seq (.reg c_impl_ValidGraph_3) (.seq (.dreg c_impl_ValidGraph_4) (.cond (tt 50) (.seq (.reg c_impl_ValidGraph_5) (.ret)) (.skip))))) (.reg c_impl_ValidGraph_6)))
abbrev c_impl_ValidGraph_8 : List GOp := [oo 52 (.fa 0 (tt 1)), oo 53 (.ld (tt 52)), oo 54 (.call (ff 122) [tt 53, (ci 1), (ci 12)]), oo 55 (.mv (tt 54)), og 56 55 true (.fa 1 (tt 1)), og 57 55 true (.ld (tt 56)), og 58 55 true (.len (tt 57)), og 59 55 true (.bin .leq (tt 58) (ci 24)), oo 60 (.pick (tt 55) (tt 59) (cb  false)), oo 2 (.mv (tt 60))]
abbrev c_impl_ValidGraph : GCode := .seq (.reg c_impl_ValidGraph_0) (.seq (.seq (.reg c_impl_ValidGraph_1) (.blk 0 (.loop c_impl_ValidGraph_l0))) (.seq (.reg c_impl_ValidGraph_8) (.ret)))
theorem c_impl_ValidGraph_d : decFn Try.prog Try.f141 = some (61, [.t 2], c_impl_ValidGraph) := by kernel_rfl
theorem c_impl_ValidGraph_i {args : List Value} {G : GH} {K : Value → GH → Prop} (hn : args.length ≤ 61) (h : gW Try.prog c_impl_ValidGraph (RetK [.t 2] K) (T0 args) G) : GC Try.prog 141 args G K := GC_intro mixed Try.func141 c_impl_ValidGraph_d hn h
abbrev c_impl_areElements_0 : List GOp := [oo 3 (.bx (tt 1)), oo 4 (.mv (cb  false))]
abbrev c_impl_areElements_1 : List GOp := [oo 5 (.mv (tt 0)), oo 6 (.mf (.func 247) [] [tt 3]), oo 7 (.call (ff 152) [tt 5, tt 6]), oo 8 (.un .not (tt 7)), oo 4 (.mv (tt 8))]
abbrev c_impl_areElements : GCode := .seq (.reg c_impl_areElements_0) (.seq (.reg c_impl_areElements_1) (.ret))
theorem c_impl_areElements_d : decFn Try.prog Try.f216 = some (9, [.t 4], c_impl_areElements) := by kernel_rfl
theorem c_impl_areElements_i {args : List Value} {G : GH} {K : Value → GH → Prop} (hn : args.length ≤ 9) (h : gW Try.prog c_impl_areElements (RetK [.t 4] K) (T0 args) G) : GC Try.prog 216 args G K := GC_intro mixed Try.func216 c_impl_areElements_d hn h
abbrev c_impl_areElements_fn1_0 : List GOp := [oo 3 (.mv (cb  false))]
abbrev c_impl_areElements_fn1_1 : List GOp := [oo 4 (.mv (tt 0)), oo 5 (.ld (tt 1)), oo 6 (.call (ff 180) [tt 4, tt 5]), oo 7 (.un .not (tt 6)), oo 3 (.mv (tt 7))]
abbrev c_impl_areElements_fn1 : GCode := .seq (.reg c_impl_areElements_fn1_0) (.seq (.reg c_impl_areElements_fn1_1) (.ret))
theorem c_impl_areElements_fn1_d : decFn Try.prog Try.f247 = some (8, [.t 3], c_impl_areElements_fn1) := by kernel_rfl
theorem c_impl_areElements_fn1_i {args : List Value} {G : GH} {K : Value → GH → Prop} (hn : args.length ≤ 8) (h : gW Try.prog c_impl_areElements_fn1 (RetK [.t 3] K) (T0 args) G) : GC Try.prog 247 args G K := GC_intro mixed Try.func247 c_impl_areElements_fn1_d hn h
abbrev c_impl_compareEdges_0 : List GOp := [oo 2 (.bx (tt 0)), oo 3 (.bx (tt 1)), oo 4 (.mv (ci 0))]
abbrev c_impl_compareEdges_1 : List DOp := [dl 0 (oo 5 (.fa 0 (tt 2))), dl 1 (oo 6 (.ld (tt 5))), dl 2 (oo 7 (.fa 0 (tt 3))), dl 3 (oo 8 (.ld (tt 7))), dl 5 (oo 10 (.fa 1 (tt 2))), dl 6 (oo 11 (.ld (tt 10))), dl 7 (oo 12 (.fa 1 (tt 3))), dl 8 (oo 13 (.ld (tt 12))), dh 4 [8, 6] (oo 9 (.call (ff 218) [tt 6, tt 8])), dh 9 [3, 1] (oo 14 (.call (ff 218) [tt 11, tt 13])), dh 10 [8, 6, 3, 1] (oo 15 (.bs 1 [tt 9, tt 14])), dh 11 [8, 6, 3, 1] (oo 16 (.call (ff 241) [tt 15])), dl 12 (oo 4 (.mv (tt 16)))]
abbrev c_impl_compareEdges : GCode := .seq (.reg c_impl_compareEdges_0) (.seq (.dreg c_impl_compareEdges_1) (.ret))
theorem c_impl_compareEdges_d : decFn Try.prog Try.f217 = some (17, [.t 4], c_impl_compareEdges) := by kernel_rfl
theorem c_impl_compareEdges_i {args : List Value} {G : GH} {K : Value → GH → Prop} (hn : args.length ≤ 17) (h : gW Try.prog c_impl_compareEdges (RetK [.t 4] K) (T0 args) G) : GC Try.prog 217 args G K := GC_intro mixed Try.func217 c_impl_compareEdges_d hn h
abbrev c_impl_isElement_0 : List GOp := [oo 4 (.mv (cb  false))]
abbrev c_impl_isElement_1 : List GOp := [oo 5 (.mv (tt 0)), oo 6 (.mv (tt 1)), oo 7 (.bin .sub (tt 6) (ci 1)), oo 8 (.call (ff 122) [tt 5, (ci 0), tt 7]), oo 4 (.mv (tt 8))]
abbrev c_impl_isElement : GCode := .seq (.reg c_impl_isElement_0) (.seq (.reg c_impl_isElement_1) (.ret))
theorem c_impl_isElement_d : decFn Try.prog Try.f180 = some (9, [.t 4], c_impl_isElement) := by kernel_rfl
theorem c_impl_isElement_i {args : List Value} {G : GH} {K : Value → GH → Prop} (hn : args.length ≤ 9) (h : gW Try.prog c_impl_isElement (RetK [.t 4] K) (T0 args) G) : GC Try.prog 180 args G K := GC_intro mixed Try.func180 c_impl_isElement_d hn h
abbrev c_impl_isGraphVector_0 : List GOp := [oo 2 (.bx (tt 0)), oo 4 (.mv (cb  false))]
abbrev c_impl_isGraphVector_1 : List DOp := [dl 0 (oo 5 (.mv (tt 1))), dl 2 (oo 7 (.fa 0 (tt 2))), dl 3 (oo 8 (.ld (tt 7))), dh 1 [3] (oo 6 (.call (ff 213) [tt 5])), dl 4 (oo 9 (.bin .eql (tt 6) (tt 8))), dl 5 (oo 10 (.mv (tt 9))), dl 6 (og 11 10 true (.mv (tt 1))), dh 7 [3] (og 12 10 true (.call (ff 152) [tt 11, (ff 246)])), dl 8 (og 13 10 true (.un .not (tt 12))), dl 9 (oo 14 (.pick (tt 10) (tt 13) (cb  false))), dl 10 (oo 4 (.mv (tt 14)))]
abbrev c_impl_isGraphVector : GCode := .seq (.reg c_impl_isGraphVector_0) (.seq (.dreg c_impl_isGraphVector_1) (.ret))
theorem c_impl_isGraphVector_d : decFn Try.prog Try.f201 = some (15, [.t 4], c_impl_isGraphVector) := by kernel_rfl
theorem c_impl_isGraphVector_i {args : List Value} {G : GH} {K : Value → GH → Prop} (hn : args.length ≤ 15) (h : gW Try.prog c_impl_isGraphVector (RetK [.t 4] K) (T0 args) G) : GC Try.prog 201 args G K := GC_intro mixed Try.func201 c_impl_isGraphVector_d hn h
abbrev c_impl_isGraphVector_fn1_0 : List GOp := [oo 2 (.mv (cb  false))]
abbrev c_impl_isGraphVector_fn1_1 : List GOp := [oo 3 (.mv (tt 0)), oo 4 (.call (ff 122) [tt 3, (ci (-1000000)), (ci 1000000)]), oo 5 (.un .not (tt 4)), oo 2 (.mv (tt 5))]
abbrev c_impl_isGraphVector_fn1 : GCode := .seq (.reg c_impl_isGraphVector_fn1_0) (.seq (.reg c_impl_isGraphVector_fn1_1) (.ret))
theorem c_impl_isGraphVector_fn1_d : decFn Try.prog Try.f246 = some (6, [.t 2], c_impl_isGraphVector_fn1) := by kernel_rfl
theorem c_impl_isGraphVector_fn1_i {args : List Value} {G : GH} {K : Value → GH → Prop} (hn : args.length ≤ 6) (h : gW Try.prog c_impl_isGraphVector_fn1 (RetK [.t 2] K) (T0 args) G) : GC Try.prog 246 args G K := GC_intro mixed Try.func246 c_impl_isGraphVector_fn1_d hn h
abbrev c_impl_isRising_0 : List GOp := [oo 2 (.mv (cb  false))]
abbrev c_impl_isRising_1 : List GOp := [oo 3 (.mv (ci 1))]
abbrev c_impl_isRising_2 : List GOp := [oo 4 (.mv (tt 3)), oo 5 (.mv (tt 0)), oo 6 (.len (tt 5)), oo 7 (.bin .lss (tt 4) (tt 6))]
abbrev c_impl_isRising_3 : List DOp := [dl 0 (oo 10 (.mv (tt 0))), dl 1 (oo 11 (.mv (tt 3))), dl 2 (oo 12 (.bin .sub (tt 11) (ci 1))), dl 3 (oo 13 (.ia 1 (tt 10) (tt 12))), dl 4 (oo 14 (.ld (tt 13))), dl 5 (oo 15 (.mv (tt 0))), dl 6 (oo 16 (.mv (tt 3))), dl 7 (oo 17 (.ia 1 (tt 15) (tt 16))), dl 8 (oo 18 (.ld (tt 17))), dl 9 (oo 19 (.bin .geq (tt 14) (tt 18)))]
abbrev c_impl_isRising_4 : List GOp := [oo 2 (.mv (cb  false))]
abbrev c_impl_isRising_5 : List GOp := [oo 8 (.mv (tt 3)), oo 9 (.bin .add (tt 8) (ci 1)), oo 3 (.mv (tt 9))]
abbrev c_impl_isRising_l0 : GCode := .seq (.seq (.reg c_impl_isRising_2) (.cond (tt 7) (.skip) (.exit 0))) (.seq (.blk 1 (.seq (.dreg c_impl_isRising_3) (.cond (tt 19) (.seq (.reg c_impl_isRising_4) (.ret)) (.skip)))) (.reg c_impl_isRising_5))
abbrev c_impl_isRising_7 : List GOp := [oo 2 (.mv (cb  true))]
abbrev c_impl_isRising : GCode := .seq (.reg c_impl_isRising_0) (.seq (.seq (.reg c_impl_isRising_1) (.blk 0 (.loop c_impl_isRising_l0))) (.seq (.reg c_impl_isRising_7) (.ret)))
theorem c_impl_isRising_d : decFn Try.prog Try.f215 = some (20, [.t 2], c_impl_isRising) := by kernel_rfl
theorem c_impl_isRising_i {args : List Value} {G : GH} {K : Value → GH → Prop} (hn : args.length ≤ 20) (h : gW Try.prog c_impl_isRising (RetK [.t 2] K) (T0 args) G) : GC Try.prog 215 args G K := GC_intro mixed Try.func215 c_impl_isRising_d hn h
abbrev c_impl_isSet_0 : List GOp := [oo 2 (.bx (tt 0)), oo 4 (.mv (cb  false))]
abbrev c_impl_isSet_1 : List GOp := [oo 5 (.mv (tt 1)), oo 6 (.call (ff 215) [tt 5]), oo 7 (.mv (tt 6)), og 8 7 true (.mv (tt 1)), og 9 7 true (.fa 0 (tt 2)), og 10 7 true (.ld (tt 9)), og 11 7 true (.call (ff 216) [tt 8, tt 10]), oo 12 (.pick (tt 7) (tt 11) (cb  false)), oo 4 (.mv (tt 12))]
abbrev c_impl_isSet : GCode := .seq (.reg c_impl_isSet_0) (.seq (.reg c_impl_isSet_1) (.ret))
theorem c_impl_isSet_d : decFn Try.prog Try.f135 = some (13, [.t 4], c_impl_isSet) := by kernel_rfl
theorem c_impl_isSet_i {args : List Value} {G : GH} {K : Value → GH → Prop} (hn : args.length ≤ 13) (h : gW Try.prog c_impl_isSet (RetK [.t 4] K) (T0 args) G) : GC Try.prog 135 args G K := GC_intro mixed Try.func135 c_impl_isSet_d hn h
abbrev c_impl_laplace_0 : List GOp := [oo 2 (.bx (tt 0)), oo 4 (.mv (.const (.slice none 0 0)))]
abbrev c_impl_laplace_1 : List GOp := [oo 5 (.mv (.const (.slice none 0 0)))]
abbrev c_impl_laplace_2 : List GOp := [oo 11 (.ldn 2 (tt 2)), oo 12 (.call (ff 148) [tt 11]), oo 13 (.len (tt 12)), oo 14 (.mv (ci 0))]
abbrev c_impl_laplace_3 : List GOp := [oo 15 (.bin .lss (tt 14) (tt 13))]
abbrev c_impl_laplace_4 : List GOp := [oo 16 (.ia 1 (tt 12) (tt 14)), oo 17 (.ld (tt 16)), oo 7 (.mv (tt 17))]
abbrev c_impl_laplace_5 : List GOp := [oo 8 (.mv (ci 0))]
abbrev c_impl_laplace_6 : List GOp := [oo 18 (.mv (tt 7)), oo 19 (.len (tt 18)), oo 20 (.mv (ci 0))]
abbrev c_impl_laplace_7 : List GOp := [oo 21 (.bin .lss (tt 20) (tt 19))]
abbrev c_impl_laplace_8 : List GOp := [oo 22 (.mv (tt 20)), oo 23 (.ia 1 (tt 18) (tt 20)), oo 24 (.ld (tt 23)), oo 9 (.mv (tt 22)), oo 10 (.mv (tt 24))]
abbrev c_impl_laplace_9 : List GOp := [oo 25 (.mv (tt 8)), oo 26 (.mv (tt 10)), oo 27 (.mv (tt 1)), oo 28 (.mv (tt 9)), oo 29 (.ia 1 (tt 27) (tt 28)), oo 30 (.ld (tt 29)), oo 31 (.bin .mul (tt 26) (tt 30)), oo 32 (.bin .add (tt 25) (tt 31)), oo 8 (.mv (tt 32))]
abbrev c_impl_laplace_10 : List GOp := [oo 33 (.bin .add (tt 20) (ci 1)), oo 20 (.mv (tt 33))]
abbrev c_impl_laplace_l0 : GCode := .seq (.reg c_impl_laplace_7) (.seq (.cond (tt 21) (.skip) (.exit 2)) (.seq (.blk 3 (.seq (.reg c_impl_laplace_8) (.reg c_impl_laplace_9))) (.reg c_impl_laplace_10)))
abbrev c_impl_laplace_12 : List GOp := [oo 34 (.mv (tt 5)), oo 35 (.mv (tt 8)), oo 36 (.bs 1 [tt 35]), oo 37 (.ap 1 8 [.int .i64 0] (tt 34) (tt 36)), oo 5 (.mv (tt 37))]
abbrev c_impl_laplace_13 : List GOp := [oo 38 (.bin .add (tt 14) (ci 1)), oo 14 (.mv (tt 38))]
abbrev c_impl_laplace_l1 : GCode := .seq (.reg c_impl_laplace_3) (.seq (.cond (tt 15) (.skip) (.exit 0)) (.seq (.blk 1 (.seq (.reg c_impl_laplace_4) (.seq (.reg c_impl_laplace_5) (.seq (.seq (.reg c_impl_laplace_6) (.blk 2 (.loop c_impl_laplace_l0))) (.reg c_impl_laplace_12))))) (.reg c_impl_laplace_13)))
abbrev c_impl_laplace_15 : List GOp := [oo 39 (.mv (tt 5)), oo 4 (.mv (tt 39))]
abbrev c_impl_laplace : GCode := .seq (.reg c_impl_laplace_0) (.seq (.reg c_impl_laplace_1) (.seq (.seq (.reg c_impl_laplace_2) (.blk 0 (.loop c_impl_laplace_l1))) (.seq (.reg c_impl_laplace_15) (.ret))))
theorem c_impl_laplace_d : decFn Try.prog Try.f136 = some (40, [.t 4], c_impl_laplace) := by kernel_rfl
theorem c_impl_laplace_i {args : List Value} {G : GH} {K : Value → GH → Prop} (hn : args.length ≤ 40) (h : gW Try.prog c_impl_laplace (RetK [.t 4] K) (T0 args) G) : GC Try.prog 136 args G K := GC_intro mixed Try.func136 c_impl_laplace_d hn h
abbrev c_impl_laplacian_0 : List GOp := [oo 1 (.bx (tt 0)), oo 2 (.mv (.const (.slice none 0 0)))]
abbrev c_impl_laplacian_1 : List GOp := [oo 7 (.fa 0 (tt 1)), oo 8 (.ld (tt 7)), oo 9 (.mk 1 24 [.slice none 0 0] (tt 8) (tt 8)), oo 3 (.mv (tt 9))]
abbrev c_impl_laplacian_2 : List GOp := [oo 10 (.mv (tt 3)), oo 11 (.len (tt 10)), oo 12 (.mv (ci 0))]
abbrev c_impl_laplacian_3 : List GOp := [oo 13 (.bin .lss (tt 12) (tt 11))]
abbrev c_impl_laplacian_4 : List GOp := [oo 14 (.mv (tt 12)), oo 4 (.mv (tt 14))]
abbrev c_impl_laplacian_5 : List GOp := [oo 15 (.mv (tt 3)), oo 16 (.mv (tt 4)), oo 17 (.fa 0 (tt 1)), oo 18 (.ld (tt 17)), oo 19 (.mk 1 8 [.int .i64 0] (tt 18) (tt 18)), oo 20 (.ia 1 (tt 15) (tt 16)), on (.st 1 (tt 20) (tt 19))]
abbrev c_impl_laplacian_6 : List GOp := [oo 21 (.bin .add (tt 12) (ci 1)), oo 12 (.mv (tt 21))]
abbrev c_impl_laplacian_l0 : GCode := .seq (.reg c_impl_laplacian_3) (.seq (.cond (tt 13) (.skip) (.exit 0)) (.seq (.blk 1 (.seq (.reg c_impl_laplacian_4) (.reg c_impl_laplacian_5))) (.reg c_impl_laplacian_6)))
abbrev c_impl_laplacian_8 : List GOp := [oo 22 (.fa 1 (tt 1)), oo 23 (.ld (tt 22)), oo 24 (.len (tt 23)), oo 25 (.mv (ci 0))]
abbrev c_impl_laplacian_9 : List GOp := [oo 26 (.bin .lss (tt 25) (tt 24))]
abbrev c_impl_laplacian_10 : List GOp := [oo 27 (.ia 3 (tt 23) (tt 25)), oo 28 (.ldn 3 (tt 27)), oo 6 (.al [.int .i64 0, .int .i64 0, .int .i64 0]), on (.st 3 (tt 6) (tt 28))]
abbrev c_impl_laplacian_11 : List DOp := [dl 0 (oo 29 (.mv (tt 3))), dl 1 (oo 30 (.fa 0 (tt 6))), dl 2 (oo 31 (.ld (tt 30))), dl 3 (oo 32 (.ia 1 (tt 29) (tt 31))), dl 4 (oo 33 (.ld (tt 32))), dl 5 (oo 34 (.fa 0 (tt 6))), dl 6 (oo 35 (.ld (tt 34))), dl 7 (oo 36 (.ia 1 (tt 33) (tt 35))), dl 8 (oo 37 (.ld (tt 36))), dl 9 (oo 38 (.fa 2 (tt 6))), dl 10 (oo 39 (.ld (tt 38))), dl 11 (oo 40 (.bin .add (tt 37) (tt 39))), dl 12 (oo 41 (.ia 1 (tt 33) (tt 35))), dh 13 [] (on (.st 1 (tt 41) (tt 40)))]
abbrev c_impl_laplacian_12 : List DOp := [dl 0 (oo 42 (.mv (tt 3))), dl 1 (oo 43 (.fa 1 (tt 6))), dl 2 (oo 44 (.ld (tt 43))), dl 3 (oo 45 (.ia 1 (tt 42) (tt 44))), dl 4 (oo 46 (.ld (tt 45))), dl 5 (oo 47 (.fa 1 (tt 6))), dl 6 (oo 48 (.ld (tt 47))), dl 7 (oo 49 (.ia 1 (tt 46) (tt 48))), dl 8 (oo 50 (.ld (tt 49))), dl 9 (oo 51 (.fa 2 (tt 6))), dl 10 (oo 52 (.ld (tt 51))), dl 11 (oo 53 (.bin .add (tt 50) (tt 52))), dl 12 (oo 54 (.ia 1 (tt 46) (tt 48))), dh 13 [] (on (.st 1 (tt 54) (tt 53)))]
abbrev c_impl_laplacian_13 : List DOp := [dl 0 (oo 55 (.mv (tt 3))), dl 1 (oo 56 (.fa 0 (tt 6))), dl 2 (oo 57 (.ld (tt 56))), dl 3 (oo 58 (.ia 1 (tt 55) (tt 57))), dl 4 (oo 59 (.ld (tt 58))), dl 5 (oo 60 (.fa 1 (tt 6))), dl 6 (oo 61 (.ld (tt 60))), dl 7 (oo 62 (.fa 2 (tt 6))), dl 8 (oo 63 (.ld (tt 62))), dl 9 (oo 64 (.un .neg (tt 63))), dl 10 (oo 65 (.ia 1 (tt 59) (tt 61))), dh 11 [] (on (.st 1 (tt 65) (tt 64)))]
abbrev c_impl_laplacian_14 : List DOp := [dl 0 (oo 66 (.mv (tt 3))), dl 1 (oo 67 (.fa 1 (tt 6))), dl 2 (oo 68 (.ld (tt 67))), dl 3 (oo 69 (.ia 1 (tt 66) (tt 68))), dl 4 (oo 70 (.ld (tt 69))), dl 5 (oo 71 (.fa 0 (tt 6))), dl 6 (oo 72 (.ld (tt 71))), dl 7 (oo 73 (.fa 2 (tt 6))), dl 8 (oo 74 (.ld (tt 73))), dl 9 (oo 75 (.un .neg (tt 74))), dl 10 (oo 76 (.ia 1 (tt 70) (tt 72))), dh 11 [] (on (.st 1 (tt 76) (tt 75)))]
abbrev c_impl_laplacian_15 : List GOp := [oo 77 (.bin .add (tt 25) (ci 1)), oo 25 (.mv (tt 77))]
abbrev c_impl_laplacian_l1 : GCode := .seq (.reg c_impl_laplacian_9) (.seq (.cond (tt 26) (.skip) (.exit 2)) (.seq (.blk 3 (.seq (.reg c_impl_laplacian_10) (.seq (.dreg c_impl_laplacian_11) (.seq (.dreg c_impl_laplacian_12) (.seq (.dreg c_impl_laplacian_13) (.dreg c_impl_laplacian_14)))))) (.reg c_impl_laplacian_15)))
abbrev c_impl_laplacian_17 : List GOp := [oo 78 (.mv (tt 3)), oo 2 (.mv (tt 78))]
abbrev c_impl_laplacian : GCode := .seq (.reg c_impl_laplacian_0) (.seq (.reg c_impl_laplacian_1) (.seq (.seq (.reg c_impl_laplacian_2) (.blk 0 (.loop c_impl_laplacian_l0))) (.seq (.seq (.reg c_impl_laplacian_8) (.blk 2 (.loop c_impl_laplacian_l1))) (.seq (.reg c_impl_laplacian_17) (.ret)))))
theorem c_impl_laplacian_d : decFn Try.prog Try.f148 = some (79, [.t 2], c_impl_laplacian) := by kernel_rfl
theorem c_impl_laplacian_i {args : List Value} {G : GH} {K : Value → GH → Prop} (hn : args.length ≤ 79) (h : gW Try.prog c_impl_laplacian (RetK [.t 2] K) (T0 args) G) : GC Try.prog 148 args G K := GC_intro mixed Try.func148 c_impl_laplacian_d hn h
abbrev c_impl_size_int64_0 : List GOp := [oo 2 (.mv (ci 0))]
abbrev c_impl_size_int64_1 : List GOp := [oo 3 (.mv (tt 0)), oo 4 (.len (tt 3)), oo 2 (.mv (tt 4))]
abbrev c_impl_size_int64 : GCode := .seq (.reg c_impl_size_int64_0) (.seq (.reg c_impl_size_int64_1) (.ret))
theorem c_impl_size_int64_d : decFn Try.prog Try.f213 = some (5, [.t 2], c_impl_size_int64) := by kernel_rfl
theorem c_impl_size_int64_i {args : List Value} {G : GH} {K : Value → GH → Prop} (hn : args.length ≤ 5) (h : gW Try.prog c_impl_size_int64 (RetK [.t 2] K) (T0 args) G) : GC Try.prog 213 args G K := GC_intro mixed Try.func213 c_impl_size_int64_d hn h
abbrev c_impl_withVector_0 : List GOp := [oo 2 (.bx (tt 0)), oo 4 (.mv (ci 0))]
abbrev c_impl_withVector_1 : List GOp := [oo 6 (.ldn 2 (tt 2)), oo 7 (.call (ff 141) [tt 6]), oo 8 (.un .not (tt 7)), oo 5 (.mv (tt 8))]
abbrev c_impl_withVector_2 : List GOp := [oo 4 (.mv (ci 1))]
abbrev c_impl_withVector_3 : List GOp := [oo 10 (.ldn 2 (tt 2)), oo 11 (.mv (tt 1)), oo 12 (.call (ff 201) [tt 10, tt 11]), oo 13 (.un .not (tt 12)), oo 9 (.mv (tt 13))]
abbrev c_impl_withVector_4 : List GOp := [oo 4 (.mv (ci 2))]
abbrev c_impl_withVector_5 : List GOp := [oo 4 (.mv (ci 0))]
abbrev c_impl_withVector : GCode := .seq (.reg c_impl_withVector_0) (.seq (.blk 0 (.seq (.reg c_impl_withVector_1) (.cond (tt 5) (.seq (.reg c_impl_withVector_2) (.ret)) (.seq (.reg c_impl_withVector_3) (.cond (tt 9) (.seq (.reg c_impl_withVector_4) (.ret)) (.skip)))))) (.seq (.reg c_impl_withVector_5) (.ret)))
theorem c_impl_withVector_d : decFn Try.prog Try.f102 = some (14, [.t 4], c_impl_withVector) := by kernel_rfl
theorem c_impl_withVector_i {args : List Value} {G : GH} {K : Value → GH → Prop} (hn : args.length ≤ 14) (h : gW Try.prog c_impl_withVector (RetK [.t 4] K) (T0 args) G) : GC Try.prog 102 args G K := GC_intro mixed Try.func102 c_impl_withVector_d hn h
abbrev c_impl_within_0 : List GOp := [oo 6 (.mv (cb  false))]
abbrev c_impl_within_1 : List GOp := [oo 7 (.mv (tt 0)), oo 8 (.mv (tt 1)), oo 9 (.bin .geq (tt 7) (tt 8)), oo 10 (.mv (tt 9)), og 11 10 true (.mv (tt 0)), og 12 10 true (.mv (tt 2)), og 13 10 true (.bin .leq (tt 11) (tt 12)), oo 14 (.pick (tt 10) (tt 13) (cb  false)), oo 6 (.mv (tt 14))]
abbrev c_impl_within : GCode := .seq (.reg c_impl_within_0) (.seq (.reg c_impl_within_1) (.ret))
theorem c_impl_within_d : decFn Try.prog Try.f122 = some (15, [.t 6], c_impl_within) := by kernel_rfl
theorem c_impl_within_i {args : List Value} {G : GH} {K : Value → GH → Prop} (hn : args.length ≤ 15) (h : gW Try.prog c_impl_within (RetK [.t 6] K) (T0 args) G) : GC Try.prog 122 args G K := GC_intro mixed Try.func122 c_impl_within_d hn h
abbrev c_laws_FnExactIsHarmonic_0 : List GOp := [oo 3 (.bx (tt 0)), oo 6 (.mv (cb  false))]
abbrev c_laws_FnExactIsHarmonic_1 : List GOp := [oo 13 (.mv (tt 1)), oo 14 (.len (tt 13)), oo 15 (.bin .gtr (tt 14) (ci 1048576))]
abbrev c_laws_FnExactIsHarmonic_2 : List GOp := [oo 6 (.mv (cb  true))]
abbrev c_laws_FnExactIsHarmonic_3 : List GOp := [oo 16 (.mv (tt 2)), oo 17 (.len (tt 16)), oo 18 (.bin .gtr (tt 17) (ci 1048576))]
abbrev c_laws_FnExactIsHarmonic_4 : List GOp := [oo 6 (.mv (cb  true))]
abbrev c_laws_FnExactIsHarmonic_5 : List GOp := [oo 7 (.mv (ci 1048576))]
abbrev c_laws_FnExactIsHarmonic_6 : List GOp := [oo 19 (.ldn 2 (tt 3)), oo 20 (.mv (tt 7)), oo 21 (.call (ff 26) [tt 19, tt 20]), oo 7 (.mv (tt 21))]
abbrev c_laws_FnExactIsHarmonic_7 : List GOp := [oo 22 (.mv (tt 7)), oo 23 (.bin .lss (tt 22) (ci 0))]
abbrev c_laws_FnExactIsHarmonic_8 : List GOp := [oo 6 (.mv (cb  true))]
abbrev c_laws_FnExactIsHarmonic_9 : List GOp := [oo 24 (.ldn 2 (tt 3)), oo 25 (.call (ff 28) [tt 24]), oo 26 (.mv (tt 1)), oo 27 (.call (ff 29) [tt 26]), oo 28 (.mv (tt 2)), oo 29 (.call (ff 29) [tt 28]), oo 30 (.call (ff 52) [tt 25, tt 27, tt 29]), oo 8 (.mv (tt 30))]
abbrev c_laws_FnExactIsHarmonic_10 : List GOp := [oo 31 (.ldn 2 (tt 3)), oo 32 (.call (ff 28) [tt 31]), oo 9 (.al [.int .i64 0, .slice none 0 0]), on (.st 2 (tt 9) (tt 32))]
abbrev c_laws_FnExactIsHarmonic_11 : List GOp := [oo 33 (.mv (tt 1)), oo 34 (.call (ff 29) [tt 33]), oo 10 (.mv (tt 34))]
abbrev c_laws_FnExactIsHarmonic_12 : List GOp := [oo 35 (.mv (tt 2)), oo 36 (.call (ff 29) [tt 35]), oo 11 (.mv (tt 36))]
abbrev c_laws_FnExactIsHarmonic_13 : List GOp := [oo 37 (.ldn 2 (tt 9)), oo 38 (.mv (tt 10)), oo 39 (.mv (tt 11)), oo 40 (.call (ff 53) [tt 37, tt 38, tt 39]), oo 12 (.mv (tt 40))]
abbrev c_laws_FnExactIsHarmonic_14 : List GOp := [oo 41 (.mv (tt 12)), oo 42 (.mv (tt 8)), oo 43 (.eqb true (tt 41) (tt 42))]
abbrev c_laws_FnExactIsHarmonic_15 : List GOp := [oo 6 (.mv (cb  false))]
abbrev c_laws_FnExactIsHarmonic_16 : List DOp := [dl 0 (oo 44 (.ldn 2 (tt 9))), dl 1 (oo 45 (.ldn 2 (tt 3))), dh 2 [0] (oo 46 (.call (ff 28) [tt 45])), dh 3 [1] (oo 47 (.call (ff 32) [tt 44, tt 46])), dl 4 (oo 48 (.un .not (tt 47)))]
abbrev c_laws_FnExactIsHarmonic_17 : List GOp := [oo 6 (.mv (cb  false))]
abbrev c_laws_FnExactIsHarmonic_18 : List GOp := [oo 49 (.mv (tt 10)), oo 50 (.mv (tt 1)), oo 51 (.call (ff 29) [tt 50]), oo 52 (.call (ff 31) [tt 49, tt 51]), oo 53 (.un .not (tt 52))]
abbrev c_laws_FnExactIsHarmonic_19 : List GOp := [oo 6 (.mv (cb  false))]
abbrev c_laws_FnExactIsHarmonic_20 : List GOp := [oo 54 (.mv (tt 11)), oo 55 (.mv (tt 2)), oo 56 (.call (ff 29) [tt 55]), oo 57 (.call (ff 31) [tt 54, tt 56]), oo 58 (.un .not (tt 57))]
abbrev c_laws_FnExactIsHarmonic_21 : List GOp := [oo 6 (.mv (cb  false))]
abbrev c_laws_FnExactIsHarmonic_22 : List GOp := [oo 6 (.mv (cb  true))]
abbrev c_laws_FnExactIsHarmonic : GCode := .seq (.reg c_laws_FnExactIsHarmonic_0) (.seq (.seq (.reg c_laws_FnExactIsHarmonic_1) (.cond (tt 15) (.seq (.reg c_laws_FnExactIsHarmonic_2) (.ret)) (.skip))) (.seq (.seq (.reg c_laws_FnExactIsHarmonic_3) (.cond (tt 18) (.seq (.reg c_laws_FnExactIsHarmonic_4) (.ret)) (.skip))) (.seq (.reg c_laws_FnExactIsHarmonic_5) (.seq (.reg c_laws_FnExactIsHarmonic_6) (.seq (.seq (.reg c_laws_FnExactIsHarmonic_7) (.cond (tt 23) (.seq (.reg c_laws_FnExactIsHarmonic_8) (.ret)) (.skip))) (.seq (.reg c_laws_FnExactIsHarmonic_9) (.seq (.reg c_laws_FnExactIsHarmonic_10) (.seq (.reg c_laws_FnExactIsHarmonic_11) (.seq (.reg c_laws_FnExactIsHarmonic_12) (.seq (.reg c_laws_FnExactIsHarmonic_13) (.seq (.seq (.reg c_laws_FnExactIsHarmonic_14) (.cond (tt 43) (.seq (.reg c_laws_FnExactIsHarmonic_15) (.ret)) (.skip))) (.seq (.seq (.dreg c_laws_FnExactIsHarmonic_16) (.cond (tt 48) (.seq (.reg c_laws_FnExactIsHarmonic_17) (.ret)) (.skip))) (.seq (.seq (.reg c_laws_FnExactIsHarmonic_18) (.cond (tt 53) (.seq (.reg c_laws_FnExactIsHarmonic_19) (.ret)) (.skip))) (.seq (.seq (.reg c_laws_FnExactIsHarmonic_20) (.cond (tt 58) (.seq (.reg c_laws_FnExactIsHarmonic_21) (.ret)) (.skip))) (.seq (.reg c_laws_FnExactIsHarmonic_22) (.ret))))))))))))))))
theorem c_laws_FnExactIsHarmonic_d : decFn Try.prog Try.f12 = some (59, [.t 6], c_laws_FnExactIsHarmonic) := by kernel_rfl
theorem c_laws_FnExactIsHarmonic_i {args : List Value} {G : GH} {K : Value → GH → Prop} (hn : args.length ≤ 59) (h : gW Try.prog c_laws_FnExactIsHarmonic (RetK [.t 6] K) (T0 args) G) : GC Try.prog 12 args G K := GC_intro mixed Try.func12 c_laws_FnExactIsHarmonic_d hn h
abbrev c_laws_eqEdge_0 : List GOp := [oo 2 (.bx (tt 0)), oo 3 (.bx (tt 1)), oo 4 (.mv (cb  false))]
abbrev c_laws_eqEdge_1 : List GOp := [oo 5 (.fa 0 (tt 2)), oo 6 (.ld (tt 5)), oo 7 (.fa 0 (tt 3)), oo 8 (.ld (tt 7)), oo 9 (.bin .neq (tt 6) (tt 8))]
abbrev c_laws_eqEdge_2 : List GOp := [oo 4 (.mv (cb  false))]
abbrev c_laws_eqEdge_3 : List GOp := [oo 10 (.fa 1 (tt 2)), oo 11 (.ld (tt 10)), oo 12 (.fa 1 (tt 3)), oo 13 (.ld (tt 12)), oo 14 (.bin .neq (tt 11) (tt 13))]
abbrev c_laws_eqEdge_4 : List GOp := [oo 4 (.mv (cb  false))]
abbrev c_laws_eqEdge_5 : List GOp := [oo 15 (.fa 2 (tt 2)), oo 16 (.ld (tt 15)), oo 17 (.fa 2 (tt 3)), oo 18 (.ld (tt 17)), oo 19 (.bin .neq (tt 16) (tt 18))]
abbrev c_laws_eqEdge_6 : List GOp := [oo 4 (.mv (cb  false))]
abbrev c_laws_eqEdge_7 : List GOp := [oo 4 (.mv (cb  true))]
abbrev c_laws_eqEdge : GCode := .seq (.reg c_laws_eqEdge_0) (.seq (.seq (.reg c_laws_eqEdge_1) (.cond (tt 9) (.seq (.reg c_laws_eqEdge_2) (.ret)) (.skip))) (.seq (.seq (.reg c_laws_eqEdge_3) (.cond (tt 14) (.seq (.reg c_laws_eqEdge_4) (.ret)) (.skip))) (.seq (.seq (.reg c_laws_eqEdge_5) (.cond (tt 19) (.seq (.reg c_laws_eqEdge_6) (.ret)) (.skip))) (.seq (.reg c_laws_eqEdge_7) (.ret)))))
theorem c_laws_eqEdge_d : decFn Try.prog Try.f203 = some (20, [.t 4], c_laws_eqEdge) := by kernel_rfl
theorem c_laws_eqEdge_i {args : List Value} {G : GH} {K : Value → GH → Prop} (hn : args.length ≤ 20) (h : gW Try.prog c_laws_eqEdge (RetK [.t 4] K) (T0 args) G) : GC Try.prog 203 args G K := GC_intro mixed Try.func203 c_laws_eqEdge_d hn h
abbrev c_laws_eqEdgeS_0 : List GOp := [oo 4 (.mv (cb  false))]
abbrev c_laws_eqEdgeS_1 : List GOp := [oo 6 (.mv (tt 0)), oo 7 (.len (tt 6)), oo 8 (.mv (tt 1)), oo 9 (.len (tt 8)), oo 10 (.bin .neq (tt 7) (tt 9))]
abbrev c_laws_eqEdgeS_2 : List GOp := [oo 4 (.mv (cb  false))]
abbrev c_laws_eqEdgeS_3 : List GOp := [oo 5 (.mv (ci 0))]
abbrev c_laws_eqEdgeS_4 : List GOp := [oo 11 (.mv (tt 5)), oo 12 (.mv (tt 0)), oo 13 (.len (tt 12)), oo 14 (.bin .lss (tt 11) (tt 13))]
abbrev c_laws_eqEdgeS_5 : List DOp := [dl 0 (oo 17 (.mv (tt 0))), dl 1 (oo 18 (.mv (tt 5))), dl 2 (oo 19 (.ia 3 (tt 17) (tt 18))), dl 3 (oo 20 (.ldn 3 (tt 19))), dl 4 (oo 21 (.mv (tt 1))), dl 5 (oo 22 (.mv (tt 5))), dl 6 (oo 23 (.ia 3 (tt 21) (tt 22))), dl 7 (oo 24 (.ldn 3 (tt 23))), dh 8 [] (oo 25 (.call (ff 203) [tt 20, tt 24])), dl 9 (oo 26 (.un .not (tt 25)))]
abbrev c_laws_eqEdgeS_6 : List GOp := [oo 4 (.mv (cb  false))]
abbrev c_laws_eqEdgeS_7 : List GOp := [oo 15 (.mv (tt 5)), oo 16 (.bin .add (tt 15) (ci 1)), oo 5 (.mv (tt 16))]
abbrev c_laws_eqEdgeS_l0 : GCode := .seq (.seq (.reg c_laws_eqEdgeS_4) (.cond (tt 14) (.skip) (.exit 0))) (.seq (.blk 1 (.seq (.dreg c_laws_eqEdgeS_5) (.cond (tt 26) (.seq (.reg c_laws_eqEdgeS_6) (.ret)) (.skip)))) (.reg c_laws_eqEdgeS_7))
abbrev c_laws_eqEdgeS_9 : List GOp := [oo 4 (.mv (cb  true))]
abbrev c_laws_eqEdgeS : GCode := .seq (.reg c_laws_eqEdgeS_0) (.seq (.seq (.reg c_laws_eqEdgeS_1) (.cond (tt 10) (.seq (.reg c_laws_eqEdgeS_2) (.ret)) (.skip))) (.seq (.seq (.reg c_laws_eqEdgeS_3) (.blk 0 (.loop c_laws_eqEdgeS_l0))) (.seq (.reg c_laws_eqEdgeS_9) (.ret))))
theorem c_laws_eqEdgeS_d : decFn Try.prog Try.f105 = some (27, [.t 4], c_laws_eqEdgeS) := by kernel_rfl
theorem c_laws_eqEdgeS_i {args : List Value} {G : GH} {K : Value → GH → Prop} (hn : args.length ≤ 27) (h : gW Try.prog c_laws_eqEdgeS (RetK [.t 4] K) (T0 args) G) : GC Try.prog 105 args G K := GC_intro mixed Try.func105 c_laws_eqEdgeS_d hn h
abbrev c_laws_eqGraph_0 : List GOp := [oo 2 (.bx (tt 0)), oo 3 (.bx (tt 1)), oo 4 (.mv (cb  false))]
abbrev c_laws_eqGraph_1 : List GOp := [oo 5 (.fa 0 (tt 2)), oo 6 (.ld (tt 5)), oo 7 (.fa 0 (tt 3)), oo 8 (.ld (tt 7)), oo 9 (.bin .neq (tt 6) (tt 8))]
abbrev c_laws_eqGraph_2 : List GOp := [oo 4 (.mv (cb  false))]
abbrev c_laws_eqGraph_3 : List GOp := [oo 10 (.fa 1 (tt 2)), oo 11 (.ld (tt 10)), oo 12 (.fa 1 (tt 3)), oo 13 (.ld (tt 12)), oo 14 (.call (ff 105) [tt 11, tt 13]), oo 15 (.un .not (tt 14))]
abbrev c_laws_eqGraph_4 : List GOp := [oo 4 (.mv (cb  false))]
abbrev c_laws_eqGraph_5 : List GOp := [oo 4 (.mv (cb  true))]
abbrev c_laws_eqGraph : GCode := .seq (.reg c_laws_eqGraph_0) (.seq (.seq (.reg c_laws_eqGraph_1) (.cond (tt 9) (.seq (.reg c_laws_eqGraph_2) (.ret)) (.skip))) (.seq (.seq (.reg c_laws_eqGraph_3) (.cond (tt 15) (.seq (.reg c_laws_eqGraph_4) (.ret)) (.skip))) (.seq (.reg c_laws_eqGraph_5) (.ret))))
theorem c_laws_eqGraph_d : decFn Try.prog Try.f32 = some (16, [.t 4], c_laws_eqGraph) := by kernel_rfl
theorem c_laws_eqGraph_i {args : List Value} {G : GH} {K : Value → GH → Prop} (hn : args.length ≤ 16) (h : gW Try.prog c_laws_eqGraph (RetK [.t 4] K) (T0 args) G) : GC Try.prog 32 args G K := GC_intro mixed Try.func32 c_laws_eqGraph_d hn h
abbrev c_laws_eqInt64S_0 : List GOp := [oo 4 (.mv (cb  false))]
abbrev c_laws_eqInt64S_1 : List GOp := [oo 6 (.mv (tt 0)), oo 7 (.len (tt 6)), oo 8 (.mv (tt 1)), oo 9 (.len (tt 8)), oo 10 (.bin .neq (tt 7) (tt 9))]
abbrev c_laws_eqInt64S_2 : List GOp := [oo 4 (.mv (cb  false))]
abbrev c_laws_eqInt64S_3 : List GOp := [oo 5 (.mv (ci 0))]
abbrev c_laws_eqInt64S_4 : List GOp := [oo 11 (.mv (tt 5)), oo 12 (.mv (tt 0)), oo 13 (.len (tt 12)), oo 14 (.bin .lss (tt 11) (tt 13))]
abbrev c_laws_eqInt64S_5 : List DOp := [dl 0 (oo 17 (.mv (tt 0))), dl 1 (oo 18 (.mv (tt 5))), dl 2 (oo 19 (.ia 1 (tt 17) (tt 18))), dl 3 (oo 20 (.ld (tt 19))), dl 4 (oo 21 (.mv (tt 1))), dl 5 (oo 22 (.mv (tt 5))), dl 6 (oo 23 (.ia 1 (tt 21) (tt 22))), dl 7 (oo 24 (.ld (tt 23))), dl 8 (oo 25 (.bin .neq (tt 20) (tt 24)))]
abbrev c_laws_eqInt64S_6 : List GOp := [oo 4 (.mv (cb  false))]
abbrev c_laws_eqInt64S_7 : List GOp := [oo 15 (.mv (tt 5)), oo 16 (.bin .add (tt 15) (ci 1)), oo 5 (.mv (tt 16))]
abbrev c_laws_eqInt64S_l0 : GCode := .seq (.seq (.reg c_laws_eqInt64S_4) (.cond (tt 14) (.skip) (.exit 0))) (.seq (.blk 1 (.seq (.dreg c_laws_eqInt64S_5) (.cond (tt 25) (.seq (.reg c_laws_eqInt64S_6) (.ret)) (.skip)))) (.reg c_laws_eqInt64S_7))
abbrev c_laws_eqInt64S_9 : List GOp := [oo 4 (.mv (cb  true))]
abbrev c_laws_eqInt64S : GCode := .seq (.reg c_laws_eqInt64S_0) (.seq (.seq (.reg c_laws_eqInt64S_1) (.cond (tt 10) (.seq (.reg c_laws_eqInt64S_2) (.ret)) (.skip))) (.seq (.seq (.reg c_laws_eqInt64S_3) (.blk 0 (.loop c_laws_eqInt64S_l0))) (.seq (.reg c_laws_eqInt64S_9) (.ret))))
theorem c_laws_eqInt64S_d : decFn Try.prog Try.f31 = some (26, [.t 4], c_laws_eqInt64S) := by kernel_rfl
theorem c_laws_eqInt64S_i {args : List Value} {G : GH} {K : Value → GH → Prop} (hn : args.length ≤ 26) (h : gW Try.prog c_laws_eqInt64S (RetK [.t 4] K) (T0 args) G) : GC Try.prog 31 args G K := GC_intro mixed Try.func31 c_laws_eqInt64S_d hn h
abbrev c_laws_szEdgeS_0 : List GOp := [oo 4 (.mv (ci 0))]
abbrev c_laws_szEdgeS_1 : List GOp := [oo 5 (.mv (tt 1)), oo 6 (.mv (tt 0)), oo 7 (.len (tt 6)), oo 8 (.bin .sub (tt 5) (tt 7)), oo 1 (.mv (tt 8))]
abbrev c_laws_szEdgeS_2 : List GOp := [oo 9 (.mv (tt 1)), oo 10 (.bin .lss (tt 9) (ci 0))]
abbrev c_laws_szEdgeS_3 : List GOp := [oo 4 (.mv (ci (-1)))]
abbrev c_laws_szEdgeS_4 : List GOp := [oo 11 (.mv (tt 1)), oo 4 (.mv (tt 11))]
abbrev c_laws_szEdgeS : GCode := .seq (.reg c_laws_szEdgeS_0) (.seq (.reg c_laws_szEdgeS_1) (.seq (.seq (.reg c_laws_szEdgeS_2) (.cond (tt 10) (.seq (.reg c_laws_szEdgeS_3) (.ret)) (.skip))) (.seq (.reg c_laws_szEdgeS_4) (.ret))))
theorem c_laws_szEdgeS_d : decFn Try.prog Try.f99 = some (12, [.t 4], c_laws_szEdgeS) := by kernel_rfl
theorem c_laws_szEdgeS_i {args : List Value} {G : GH} {K : Value → GH → Prop} (hn : args.length ≤ 12) (h : gW Try.prog c_laws_szEdgeS (RetK [.t 4] K) (T0 args) G) : GC Try.prog 99 args G K := GC_intro mixed Try.func99 c_laws_szEdgeS_d hn h
abbrev c_laws_szGraph_0 : List GOp := [oo 2 (.bx (tt 0)), oo 4 (.mv (ci 0))]
abbrev c_laws_szGraph_1 : List GOp := [oo 5 (.fa 1 (tt 2)), oo 6 (.ld (tt 5)), oo 7 (.mv (tt 1)), oo 8 (.call (ff 99) [tt 6, tt 7]), oo 1 (.mv (tt 8))]
abbrev c_laws_szGraph_2 : List GOp := [oo 9 (.mv (tt 1)), oo 10 (.bin .lss (tt 9) (ci 0))]
abbrev c_laws_szGraph_3 : List GOp := [oo 4 (.mv (ci (-1)))]
abbrev c_laws_szGraph_4 : List GOp := [oo 11 (.mv (tt 1)), oo 4 (.mv (tt 11))]
abbrev c_laws_szGraph : GCode := .seq (.reg c_laws_szGraph_0) (.seq (.reg c_laws_szGraph_1) (.seq (.seq (.reg c_laws_szGraph_2) (.cond (tt 10) (.seq (.reg c_laws_szGraph_3) (.ret)) (.skip))) (.seq (.reg c_laws_szGraph_4) (.ret))))
theorem c_laws_szGraph_d : decFn Try.prog Try.f26 = some (12, [.t 4], c_laws_szGraph) := by kernel_rfl
theorem c_laws_szGraph_i {args : List Value} {G : GH} {K : Value → GH → Prop} (hn : args.length ≤ 12) (h : gW Try.prog c_laws_szGraph (RetK [.t 4] K) (T0 args) G) : GC Try.prog 26 args G K := GC_intro mixed Try.func26 c_laws_szGraph_d hn h
abbrev c_laws_toEdge_0 : List GOp := [oo 1 (.bx (tt 0)), oo 2 (.al [.int .i64 0, .int .i64 0, .int .i64 0])]
abbrev c_laws_toEdge_1 : List GOp := [oo 3 (.al [.int .i64 0, .int .i64 0, .int .i64 0])]
abbrev c_laws_toEdge_2 : List GOp := [oo 4 (.fa 0 (tt 1)), oo 5 (.ld (tt 4)), oo 6 (.fa 0 (tt 3)), on (.st 1 (tt 6) (tt 5))]
abbrev c_laws_toEdge_3 : List GOp := [oo 7 (.fa 1 (tt 1)), oo 8 (.ld (tt 7)), oo 9 (.fa 1 (tt 3)), on (.st 1 (tt 9) (tt 8))]
abbrev c_laws_toEdge_4 : List GOp := [oo 10 (.fa 2 (tt 1)), oo 11 (.ld (tt 10)), oo 12 (.fa 2 (tt 3)), on (.st 1 (tt 12) (tt 11))]
abbrev c_laws_toEdge_5 : List GOp := [oo 13 (.ldn 3 (tt 3)), on (.st 3 (tt 2) (tt 13))]
abbrev c_laws_toEdge : GCode := .seq (.reg c_laws_toEdge_0) (.seq (.reg c_laws_toEdge_1) (.seq (.reg c_laws_toEdge_2) (.seq (.reg c_laws_toEdge_3) (.seq (.reg c_laws_toEdge_4) (.seq (.reg c_laws_toEdge_5) (.ret))))))
theorem c_laws_toEdge_d : decFn Try.prog Try.f200 = some (14, [.cn 2 3], c_laws_toEdge) := by kernel_rfl
theorem c_laws_toEdge_i {args : List Value} {G : GH} {K : Value → GH → Prop} (hn : args.length ≤ 14) (h : gW Try.prog c_laws_toEdge (RetK [.cn 2 3] K) (T0 args) G) : GC Try.prog 200 args G K := GC_intro mixed Try.func200 c_laws_toEdge_d hn h
abbrev c_laws_toEdgeS_0 : List GOp := [oo 2 (.mv (.const (.slice none 0 0)))]
abbrev c_laws_toEdgeS_1 : List GOp := [oo 5 (.mv (tt 0)), oo 6 (.len (tt 5)), oo 7 (.mk 3 24 [.int .i64 0, .int .i64 0, .int .i64 0] (tt 6) (tt 6)), oo 3 (.mv (tt 7))]
abbrev c_laws_toEdgeS_2 : List GOp := [oo 4 (.mv (ci 0))]
abbrev c_laws_toEdgeS_3 : List GOp := [oo 8 (.mv (tt 4)), oo 9 (.mv (tt 0)), oo 10 (.len (tt 9)), oo 11 (.bin .lss (tt 8) (tt 10))]
abbrev c_laws_toEdgeS_4 : List GOp := [oo 14 (.mv (tt 3)), oo 15 (.mv (tt 4)), oo 16 (.mv (tt 0)), oo 17 (.mv (tt 4)), oo 18 (.ia 3 (tt 16) (tt 17)), oo 19 (.ldn 3 (tt 18)), oo 20 (.call (ff 200) [tt 19]), oo 21 (.ia 3 (tt 14) (tt 15)), on (.st 3 (tt 21) (tt 20))]
abbrev c_laws_toEdgeS_5 : List GOp := [oo 12 (.mv (tt 4)), oo 13 (.bin .add (tt 12) (ci 1)), oo 4 (.mv (tt 13))]
abbrev c_laws_toEdgeS_l0 : GCode := .seq (.seq (.reg c_laws_toEdgeS_3) (.cond (tt 11) (.skip) (.exit 0))) (.seq (.blk 1 (.reg c_laws_toEdgeS_4)) (.reg c_laws_toEdgeS_5))
abbrev c_laws_toEdgeS_7 : List GOp := [oo 22 (.mv (tt 3)), oo 2 (.mv (tt 22))]
abbrev c_laws_toEdgeS : GCode := .seq (.reg c_laws_toEdgeS_0) (.seq (.reg c_laws_toEdgeS_1) (.seq (.seq (.reg c_laws_toEdgeS_2) (.blk 0 (.loop c_laws_toEdgeS_l0))) (.seq (.reg c_laws_toEdgeS_7) (.ret))))
theorem c_laws_toEdgeS_d : decFn Try.prog Try.f101 = some (23, [.t 2], c_laws_toEdgeS) := by kernel_rfl
theorem c_laws_toEdgeS_i {args : List Value} {G : GH} {K : Value → GH → Prop} (hn : args.length ≤ 23) (h : gW Try.prog c_laws_toEdgeS (RetK [.t 2] K) (T0 args) G) : GC Try.prog 101 args G K := GC_intro mixed Try.func101 c_laws_toEdgeS_d hn h
abbrev c_laws_toGraph_0 : List GOp := [oo 1 (.bx (tt 0)), oo 2 (.al [.int .i64 0, .slice none 0 0])]
abbrev c_laws_toGraph_1 : List GOp := [oo 3 (.al [.int .i64 0, .slice none 0 0])]
abbrev c_laws_toGraph_2 : List GOp := [oo 4 (.fa 0 (tt 1)), oo 5 (.ld (tt 4)), oo 6 (.fa 0 (tt 3)), on (.st 1 (tt 6) (tt 5))]
abbrev c_laws_toGraph_3 : List GOp := [oo 7 (.fa 1 (tt 1)), oo 8 (.ld (tt 7)), oo 9 (.call (ff 101) [tt 8]), oo 10 (.fa 1 (tt 3)), on (.st 1 (tt 10) (tt 9))]
abbrev c_laws_toGraph_4 : List GOp := [oo 11 (.ldn 2 (tt 3)), on (.st 2 (tt 2) (tt 11))]
abbrev c_laws_toGraph : GCode := .seq (.reg c_laws_toGraph_0) (.seq (.reg c_laws_toGraph_1) (.seq (.reg c_laws_toGraph_2) (.seq (.reg c_laws_toGraph_3) (.seq (.reg c_laws_toGraph_4) (.ret)))))
theorem c_laws_toGraph_d : decFn Try.prog Try.f28 = some (12, [.cn 2 2], c_laws_toGraph) := by kernel_rfl
theorem c_laws_toGraph_i {args : List Value} {G : GH} {K : Value → GH → Prop} (hn : args.length ≤ 12) (h : gW Try.prog c_laws_toGraph (RetK [.cn 2 2] K) (T0 args) G) : GC Try.prog 28 args G K := GC_intro mixed Try.func28 c_laws_toGraph_d hn h
abbrev c_laws_toInt64S_0 : List GOp := [oo 2 (.mv (.const (.slice none 0 0)))]
abbrev c_laws_toInt64S_1 : List GOp := [oo 5 (.mv (tt 0)), oo 6 (.len (tt 5)), oo 7 (.mk 1 8 [.int .i64 0] (tt 6) (tt 6)), oo 3 (.mv (tt 7))]
abbrev c_laws_toInt64S_2 : List GOp := [oo 4 (.mv (ci 0))]
abbrev c_laws_toInt64S_3 : List GOp := [oo 8 (.mv (tt 4)), oo 9 (.mv (tt 0)), oo 10 (.len (tt 9)), oo 11 (.bin .lss (tt 8) (tt 10))]
abbrev c_laws_toInt64S_4 : List GOp := [oo 14 (.mv (tt 3)), oo 15 (.mv (tt 4)), oo 16 (.mv (tt 0)), oo 17 (.mv (tt 4)), oo 18 (.ia 1 (tt 16) (tt 17)), oo 19 (.ld (tt 18)), oo 20 (.ia 1 (tt 14) (tt 15)), on (.st 1 (tt 20) (tt 19))]
abbrev c_laws_toInt64S_5 : List GOp := [oo 12 (.mv (tt 4)), oo 13 (.bin .add (tt 12) (ci 1)), oo 4 (.mv (tt 13))]
abbrev c_laws_toInt64S_l0 : GCode := .seq (.seq (.reg c_laws_toInt64S_3) (.cond (tt 11) (.skip) (.exit 0))) (.seq (.blk 1 (.reg c_laws_toInt64S_4)) (.reg c_laws_toInt64S_5))
abbrev c_laws_toInt64S_7 : List GOp := [oo 21 (.mv (tt 3)), oo 2 (.mv (tt 21))]
abbrev c_laws_toInt64S : GCode := .seq (.reg c_laws_toInt64S_0) (.seq (.reg c_laws_toInt64S_1) (.seq (.seq (.reg c_laws_toInt64S_2) (.blk 0 (.loop c_laws_toInt64S_l0))) (.seq (.reg c_laws_toInt64S_7) (.ret))))
theorem c_laws_toInt64S_d : decFn Try.prog Try.f29 = some (22, [.t 2], c_laws_toInt64S) := by kernel_rfl
theorem c_laws_toInt64S_i {args : List Value} {G : GH} {K : Value → GH → Prop} (hn : args.length ≤ 22) (h : gW Try.prog c_laws_toInt64S (RetK [.t 2] K) (T0 args) G) : GC Try.prog 29 args G K := GC_intro mixed Try.func29 c_laws_toInt64S_d hn h
abbrev c_slices_ContainsFunc_int64_int64_0 : List GOp := [oo 4 (.mv (cb  false))]
abbrev c_slices_ContainsFunc_int64_int64_1 : List GOp := [oo 5 (.mv (tt 0)), oo 6 (.mv (tt 1)), oo 7 (.call (ff 222) [tt 5, tt 6]), oo 8 (.bin .geq (tt 7) (ci 0)), oo 4 (.mv (tt 8))]
abbrev c_slices_ContainsFunc_int64_int64 : GCode := .seq (.reg c_slices_ContainsFunc_int64_int64_0) (.seq (.reg c_slices_ContainsFunc_int64_int64_1) (.ret))
theorem c_slices_ContainsFunc_int64_int64_d : decFn Try.prog Try.f152 = some (9, [.t 4], c_slices_ContainsFunc_int64_int64) := by kernel_rfl
theorem c_slices_ContainsFunc_int64_int64_i {args : List Value} {G : GH} {K : Value → GH → Prop} (hn : args.length ≤ 9) (h : gW Try.prog c_slices_ContainsFunc_int64_int64 (RetK [.t 4] K) (T0 args) G) : GC Try.prog 152 args G K := GC_intro mixed Try.func152 c_slices_ContainsFunc_int64_int64_d hn h
abbrev c_slices_Contains_int64_int64_0 : List GOp := [oo 4 (.mv (cb  false))]
abbrev c_slices_Contains_int64_int64_1 : List GOp := [oo 5 (.mv (tt 0)), oo 6 (.mv (tt 1)), oo 7 (.call (ff 166) [tt 5, tt 6]), oo 8 (.bin .geq (tt 7) (ci 0)), oo 4 (.mv (tt 8))]
abbrev c_slices_Contains_int64_int64 : GCode := .seq (.reg c_slices_Contains_int64_int64_0) (.seq (.reg c_slices_Contains_int64_int64_1) (.ret))
theorem c_slices_Contains_int64_int64_d : decFn Try.prog Try.f137 = some (9, [.t 4], c_slices_Contains_int64_int64) := by kernel_rfl
theorem c_slices_Contains_int64_int64_i {args : List Value} {G : GH} {K : Value → GH → Prop} (hn : args.length ≤ 9) (h : gW Try.prog c_slices_Contains_int64_int64 (RetK [.t 4] K) (T0 args) G) : GC Try.prog 137 args G K := GC_intro mixed Try.func137 c_slices_Contains_int64_int64_d hn h
abbrev c_slices_IndexFunc_int64_int64_0 : List GOp := [oo 4 (.mv (ci 0))]
abbrev c_slices_IndexFunc_int64_int64_1 : List GOp := [oo 6 (.mv (tt 0)), oo 7 (.len (tt 6)), oo 8 (.mv (ci 0))]
abbrev c_slices_IndexFunc_int64_int64_2 : List GOp := [oo 9 (.bin .lss (tt 8) (tt 7))]
abbrev c_slices_IndexFunc_int64_int64_3 : List GOp := [oo 10 (.mv (tt 8)), oo 5 (.mv (tt 10))]
abbrev c_slices_IndexFunc_int64_int64_4 : List GOp := [oo 11 (.mv (tt 1)), oo 12 (.mv (tt 0)), oo 13 (.mv (tt 5)), oo 14 (.ia 1 (tt 12) (tt 13)), oo 15 (.ld (tt 14)), oo 16 (.call (tt 11) [tt 15])]
abbrev c_slices_IndexFunc_int64_int64_5 : List GOp := [oo 17 (.mv (tt 5)), oo 4 (.mv (tt 17))]
abbrev c_slices_IndexFunc_int64_int64_6 : List GOp := [oo 18 (.bin .add (tt 8) (ci 1)), oo 8 (.mv (tt 18))]
abbrev c_slices_IndexFunc_int64_int64_l0 : GCode := .seq (.reg c_slices_IndexFunc_int64_int64_2) (.seq (.cond (tt 9) (.skip) (.exit 0)) (.seq (.blk 1 (.seq (.reg c_slices_IndexFunc_int64_int64_3) (.seq (.reg c_slices_IndexFunc_int64_int64_4) (.cond (tt 16) (.seq (.reg c_slices_IndexFunc_int64_int64_5) (.ret)) (.skip))))) (.reg c_slices_IndexFunc_int64_int64_6)))
abbrev c_slices_IndexFunc_int64_int64_8 : List GOp := [oo 4 (.mv (ci (-1)))]
abbrev c_slices_IndexFunc_int64_int64 : GCode := .seq (.reg c_slices_IndexFunc_int64_int64_0) (.seq (.seq (.reg c_slices_IndexFunc_int64_int64_1) (.blk 0 (.loop c_slices_IndexFunc_int64_int64_l0))) (.seq (.reg c_slices_IndexFunc_int64_int64_8) (.ret)))
theorem c_slices_IndexFunc_int64_int64_d : decFn Try.prog Try.f222 = some (19, [.t 4], c_slices_IndexFunc_int64_int64) := by kernel_rfl
theorem c_slices_IndexFunc_int64_int64_i {args : List Value} {G : GH} {K : Value → GH → Prop} (hn : args.length ≤ 19) (h : gW Try.prog c_slices_IndexFunc_int64_int64 (RetK [.t 4] K) (T0 args) G) : GC Try.prog 222 args G K := GC_intro mixed Try.func222 c_slices_IndexFunc_int64_int64_d hn h
abbrev c_slices_Index_int64_int64_0 : List GOp := [oo 4 (.mv (ci 0))]
abbrev c_slices_Index_int64_int64_1 : List GOp := [oo 6 (.mv (tt 0)), oo 7 (.len (tt 6)), oo 8 (.mv (ci 0))]
abbrev c_slices_Index_int64_int64_2 : List GOp := [oo 9 (.bin .lss (tt 8) (tt 7))]
abbrev c_slices_Index_int64_int64_3 : List GOp := [oo 10 (.mv (tt 8)), oo 5 (.mv (tt 10))]
abbrev c_slices_Index_int64_int64_4 : List GOp := [oo 11 (.mv (tt 1)), oo 12 (.mv (tt 0)), oo 13 (.mv (tt 5)), oo 14 (.ia 1 (tt 12) (tt 13)), oo 15 (.ld (tt 14)), oo 16 (.bin .eql (tt 11) (tt 15))]
abbrev c_slices_Index_int64_int64_5 : List GOp := [oo 17 (.mv (tt 5)), oo 4 (.mv (tt 17))]
abbrev c_slices_Index_int64_int64_6 : List GOp := [oo 18 (.bin .add (tt 8) (ci 1)), oo 8 (.mv (tt 18))]
abbrev c_slices_Index_int64_int64_l0 : GCode := .seq (.reg c_slices_Index_int64_int64_2) (.seq (.cond (tt 9) (.skip) (.exit 0)) (.seq (.blk 1 (.seq (.reg c_slices_Index_int64_int64_3) (.seq (.reg c_slices_Index_int64_int64_4) (.cond (tt 16) (.seq (.reg c_slices_Index_int64_int64_5) (.ret)) (.skip))))) (.reg c_slices_Index_int64_int64_6)))
abbrev c_slices_Index_int64_int64_8 : List GOp := [oo 4 (.mv (ci (-1)))]
abbrev c_slices_Index_int64_int64 : GCode := .seq (.reg c_slices_Index_int64_int64_0) (.seq (.seq (.reg c_slices_Index_int64_int64_1) (.blk 0 (.loop c_slices_Index_int64_int64_l0))) (.seq (.reg c_slices_Index_int64_int64_8) (.ret)))
theorem c_slices_Index_int64_int64_d : decFn Try.prog Try.f166 = some (19, [.t 4], c_slices_Index_int64_int64) := by kernel_rfl
theorem c_slices_Index_int64_int64_i {args : List Value} {G : GH} {K : Value → GH → Prop} (hn : args.length ≤ 19) (h : gW Try.prog c_slices_Index_int64_int64 (RetK [.t 4] K) (T0 args) G) : GC Try.prog 166 args G K := GC_intro mixed Try.func166 c_slices_Index_int64_int64_d hn h
abbrev c_spec_IsHarmonic_0 : List GOp := [oo 3 (.bx (tt 0)), oo 6 (.mv (cb  false))]
abbrev c_spec_IsHarmonic_1 : List GOp := [oo 9 (.mv (tt 1)), oo 10 (.call (ff 100) [tt 3, tt 9]), oo 11 (.bin .neq (tt 10) (ci 0)), oo 12 (.mv (tt 11)), og 13 12 false (.mv (tt 2)), og 14 12 false (.call (ff 132) [tt 3, tt 13]), og 15 12 false (.un .not (tt 14)), oo 16 (.pick (tt 12) (cb  true) (tt 15))]
abbrev c_spec_IsHarmonic_2 : List GOp := [oo 6 (.mv (cb  false))]
abbrev c_spec_IsHarmonic_3 : List GOp := [oo 17 (.mv (tt 1)), oo 18 (.call (ff 133) [tt 3, tt 17]), oo 7 (.mv (tt 18))]
abbrev c_spec_IsHarmonic_4 : List GOp := [oo 8 (.mv (ci 0))]
abbrev c_spec_IsHarmonic_5 : List GOp := [oo 19 (.mv (tt 8)), oo 20 (.fa 0 (tt 3)), oo 21 (.ld (tt 20)), oo 22 (.bin .lss (tt 19) (tt 21))]
abbrev c_spec_IsHarmonic_6 : List GOp := [oo 25 (.mv (tt 7)), oo 26 (.mv (tt 8)), oo 27 (.ia 1 (tt 25) (tt 26)), oo 28 (.ld (tt 27)), oo 29 (.bin .neq (tt 28) (ci 0)), oo 30 (.mv (tt 29)), og 31 30 true (.mv (tt 2)), og 32 30 true (.mv (tt 8)), og 33 30 true (.call (ff 134) [tt 31, tt 32]), og 34 30 true (.un .not (tt 33)), oo 35 (.pick (tt 30) (tt 34) (cb  false))]
abbrev c_spec_IsHarmonic_7 : List GOp := [oo 6 (.mv (cb  false))]
abbrev c_spec_IsHarmonic_8 : List GOp := [oo 23 (.mv (tt 8)), oo 24 (.bin .add (tt 23) (ci 1)), oo 8 (.mv (tt 24))]
abbrev c_spec_IsHarmonic_l0 : GCode := .seq (.seq (.reg c_spec_IsHarmonic_5) (.cond (tt 22) (.skip) (.exit 0))) (.seq (.blk 1 (.seq (.reg c_spec_IsHarmonic_6) (.cond (tt 35) (.seq (.reg c_spec_IsHarmonic_7) (.ret)) (.skip)))) (.reg c_spec_IsHarmonic_8))
abbrev c_spec_IsHarmonic_10 : List GOp := [oo 6 (.mv (cb  true))]
abbrev c_spec_IsHarmonic : GCode := .seq (.reg c_spec_IsHarmonic_0) (.seq (.seq (.reg c_spec_IsHarmonic_1) (.cond (tt 16) (.seq (.reg c_spec_IsHarmonic_2) (.ret)) (.skip))) (.seq (.reg c_spec_IsHarmonic_3) (.seq (.seq (.reg c_spec_IsHarmonic_4) (.blk 0 (.loop c_spec_IsHarmonic_l0))) (.seq (.reg c_spec_IsHarmonic_10) (.ret)))))
theorem c_spec_IsHarmonic_d : decFn Try.prog Try.f52 = some (36, [.t 6], c_spec_IsHarmonic) := by kernel_rfl
theorem c_spec_IsHarmonic_i {args : List Value} {G : GH} {K : Value → GH → Prop} (hn : args.length ≤ 36) (h : gW Try.prog c_spec_IsHarmonic (RetK [.t 6] K) (T0 args) G) : GC Try.prog 52 args G K := GC_intro mixed Try.func52 c_spec_IsHarmonic_d hn h
abbrev c_spec_l00Has_0 : List GOp := [oo 4 (.mv (cb  false))]
abbrev c_spec_l00Has_1 : List GOp := [oo 5 (.mv (ci 0))]
abbrev c_spec_l00Has_2 : List GOp := [oo 6 (.mv (tt 5)), oo 7 (.mv (tt 0)), oo 8 (.len (tt 7)), oo 9 (.bin .lss (tt 6) (tt 8))]
abbrev c_spec_l00Has_3 : List GOp := [oo 12 (.mv (tt 0)), oo 13 (.mv (tt 5)), oo 14 (.ia 1 (tt 12) (tt 13)), oo 15 (.ld (tt 14)), oo 16 (.mv (tt 1)), oo 17 (.bin .eql (tt 15) (tt 16))]
abbrev c_spec_l00Has_4 : List GOp := [oo 4 (.mv (cb  true))]
abbrev c_spec_l00Has_5 : List GOp := [oo 10 (.mv (tt 5)), oo 11 (.bin .add (tt 10) (ci 1)), oo 5 (.mv (tt 11))]
abbrev c_spec_l00Has_l0 : GCode := .seq (.seq (.reg c_spec_l00Has_2) (.cond (tt 9) (.skip) (.exit 0))) (.seq (.blk 1 (.seq (.reg c_spec_l00Has_3) (.cond (tt 17) (.seq (.reg c_spec_l00Has_4) (.ret)) (.skip)))) (.reg c_spec_l00Has_5))
abbrev c_spec_l00Has_7 : List GOp := [oo 4 (.mv (cb  false))]
abbrev c_spec_l00Has : GCode := .seq (.reg c_spec_l00Has_0) (.seq (.seq (.reg c_spec_l00Has_1) (.blk 0 (.loop c_spec_l00Has_l0))) (.seq (.reg c_spec_l00Has_7) (.ret)))
theorem c_spec_l00Has_d : decFn Try.prog Try.f134 = some (18, [.t 4], c_spec_l00Has) := by kernel_rfl
theorem c_spec_l00Has_i {args : List Value} {G : GH} {K : Value → GH → Prop} (hn : args.length ≤ 18) (h : gW Try.prog c_spec_l00Has (RetK [.t 4] K) (T0 args) G) : GC Try.prog 134 args G K := GC_intro mixed Try.func134 c_spec_l00Has_d hn h
abbrev c_spec_l00In_0 : List GOp := [oo 6 (.mv (cb  false))]
abbrev c_spec_l00In_1 : List GOp := [oo 7 (.mv (tt 0)), oo 8 (.mv (tt 1)), oo 9 (.bin .geq (tt 7) (tt 8)), oo 10 (.mv (tt 9)), og 11 10 true (.mv (tt 0)), og 12 10 true (.mv (tt 2)), og 13 10 true (.bin .leq (tt 11) (tt 12)), oo 14 (.pick (tt 10) (tt 13) (cb  false)), oo 6 (.mv (tt 14))]
abbrev c_spec_l00In : GCode := .seq (.reg c_spec_l00In_0) (.seq (.reg c_spec_l00In_1) (.ret))
theorem c_spec_l00In_d : decFn Try.prog Try.f121 = some (15, [.t 6], c_spec_l00In) := by kernel_rfl
theorem c_spec_l00In_i {args : List Value} {G : GH} {K : Value → GH → Prop} (hn : args.length ≤ 15) (h : gW Try.prog c_spec_l00In (RetK [.t 6] K) (T0 args) G) : GC Try.prog 121 args G K := GC_intro mixed Try.func121 c_spec_l00In_d hn h
abbrev c_spec_l00Rises_0 : List GOp := [oo 6 (.mv (cb  false))]
abbrev c_spec_l00Rises_1 : List GOp := [oo 7 (.mv (ci 0))]
abbrev c_spec_l00Rises_2 : List GOp := [oo 8 (.mv (tt 7)), oo 9 (.mv (tt 0)), oo 10 (.len (tt 9)), oo 11 (.bin .lss (tt 8) (tt 10))]
abbrev c_spec_l00Rises_3 : List DOp := [dl 0 (oo 14 (.mv (tt 0))), dl 1 (oo 15 (.mv (tt 7))), dl 2 (oo 16 (.ia 1 (tt 14) (tt 15))), dl 3 (oo 17 (.ld (tt 16))), dl 4 (oo 18 (.mv (tt 1))), dl 5 (oo 19 (.mv (tt 2))), dh 6 [] (oo 20 (.call (ff 121) [tt 17, tt 18, tt 19])), dl 7 (oo 21 (.un .not (tt 20))), dl 8 (oo 22 (.mv (tt 21))), dl 9 (og 23 22 false (.mv (tt 7))), dl 10 (og 24 22 false (.bin .gtr (tt 23) (ci 0))), dl 11 (og 25 22 false (.mv (tt 24))), dl 12 (og 26 25 true (.mv (tt 0))), dl 13 (og 27 25 true (.mv (tt 7))), dl 14 (og 28 25 true (.bin .sub (tt 27) (ci 1))), dl 15 (og 29 25 true (.ia 1 (tt 26) (tt 28))), dl 16 (og 30 25 true (.ld (tt 29))), dl 17 (og 31 25 true (.mv (tt 0))), dl 18 (og 32 25 true (.mv (tt 7))), dl 19 (og 33 25 true (.ia 1 (tt 31) (tt 32))), dl 20 (og 34 25 true (.ld (tt 33))), dl 21 (og 35 25 true (.bin .geq (tt 30) (tt 34))), dl 22 (og 36 22 false (.pick (tt 25) (tt 35) (cb  false))), dl 23 (oo 37 (.pick (tt 22) (cb  true) (tt 36)))]
abbrev c_spec_l00Rises_4 : List GOp := [oo 6 (.mv (cb  false))]
abbrev c_spec_l00Rises_5 : List GOp := [oo 12 (.mv (tt 7)), oo 13 (.bin .add (tt 12) (ci 1)), oo 7 (.mv (tt 13))]
abbrev c_spec_l00Rises_l0 : GCode := .seq (.seq (.reg c_spec_l00Rises_2) (.cond (tt 11) (.skip) (.exit 0))) (.seq (.blk 1 (.seq (.dreg c_spec_l00Rises_3) (.cond (tt 37) (.seq (.reg c_spec_l00Rises_4) (.ret)) (.skip)))) (.reg c_spec_l00Rises_5))
abbrev c_spec_l00Rises_7 : List GOp := [oo 6 (.mv (cb  true))]
abbrev c_spec_l00Rises : GCode := .seq (.reg c_spec_l00Rises_0) (.seq (.seq (.reg c_spec_l00Rises_1) (.blk 0 (.loop c_spec_l00Rises_l0))) (.seq (.reg c_spec_l00Rises_7) (.ret)))
theorem c_spec_l00Rises_d : decFn Try.prog Try.f214 = some (38, [.t 6], c_spec_l00Rises) := by kernel_rfl
theorem c_spec_l00Rises_i {args : List Value} {G : GH} {K : Value → GH → Prop} (hn : args.length ≤ 38) (h : gW Try.prog c_spec_l00Rises (RetK [.t 6] K) (T0 args) G) : GC Try.prog 214 args G K := GC_intro mixed Try.func214 c_spec_l00Rises_d hn h
abbrev c_spec_l16Apply_0 : List GOp := [oo 4 (.mv (.const (.slice none 0 0)))]
abbrev c_spec_l16Apply_1 : List GOp := [oo 9 (.mv (tt 0)), oo 10 (.nc (tt 9)), oo 11 (.fa 0 (tt 10)), oo 12 (.ld (tt 11)), oo 13 (.mk 1 8 [.int .i64 0] (tt 12) (tt 12)), oo 5 (.mv (tt 13))]
abbrev c_spec_l16Apply_2 : List GOp := [oo 6 (.mv (ci 0))]
abbrev c_spec_l16Apply_3 : List GOp := [oo 14 (.mv (tt 6)), oo 15 (.mv (tt 0)), oo 16 (.nc (tt 15)), oo 17 (.fa 1 (tt 16)), oo 18 (.ld (tt 17)), oo 19 (.len (tt 18)), oo 20 (.bin .lss (tt 14) (tt 19))]
abbrev c_spec_l16Apply_4 : List GOp := [oo 23 (.mv (tt 0)), oo 24 (.nc (tt 23)), oo 25 (.fa 1 (tt 24)), oo 26 (.ld (tt 25)), oo 27 (.mv (tt 6)), oo 28 (.ia 3 (tt 26) (tt 27)), oo 29 (.ldn 3 (tt 28)), oo 7 (.al [.int .i64 0, .int .i64 0, .int .i64 0]), on (.st 3 (tt 7) (tt 29))]
abbrev c_spec_l16Apply_5 : List DOp := [dl 0 (oo 30 (.fa 2 (tt 7))), dl 1 (oo 31 (.ld (tt 30))), dl 2 (oo 32 (.mv (tt 1))), dl 3 (oo 33 (.fa 0 (tt 7))), dl 4 (oo 34 (.ld (tt 33))), dl 5 (oo 35 (.ia 1 (tt 32) (tt 34))), dl 6 (oo 36 (.ld (tt 35))), dl 7 (oo 37 (.mv (tt 1))), dl 8 (oo 38 (.fa 1 (tt 7))), dl 9 (oo 39 (.ld (tt 38))), dl 10 (oo 40 (.ia 1 (tt 37) (tt 39))), dl 11 (oo 41 (.ld (tt 40))), dl 12 (oo 42 (.bin .sub (tt 36) (tt 41))), dl 13 (oo 43 (.bin .mul (tt 31) (tt 42))), dl 14 (oo 8 (.mv (tt 43)))]
abbrev c_spec_l16Apply_6 : List GOp := [oo 44 (.mv (tt 5)), oo 45 (.fa 0 (tt 7)), oo 46 (.ld (tt 45)), oo 47 (.ia 1 (tt 44) (tt 46)), oo 48 (.ld (tt 47)), oo 49 (.mv (tt 8)), oo 50 (.bin .add (tt 48) (tt 49)), oo 51 (.ia 1 (tt 44) (tt 46)), on (.st 1 (tt 51) (tt 50))]
abbrev c_spec_l16Apply_7 : List GOp := [oo 52 (.mv (tt 5)), oo 53 (.fa 1 (tt 7)), oo 54 (.ld (tt 53)), oo 55 (.ia 1 (tt 52) (tt 54)), oo 56 (.ld (tt 55)), oo 57 (.mv (tt 8)), oo 58 (.bin .sub (tt 56) (tt 57)), oo 59 (.ia 1 (tt 52) (tt 54)), on (.st 1 (tt 59) (tt 58))]
abbrev c_spec_l16Apply_8 : List GOp := [oo 21 (.mv (tt 6)), oo 22 (.bin .add (tt 21) (ci 1)), oo 6 (.mv (tt 22))]
abbrev c_spec_l16Apply_l0 : GCode := .seq (.seq (.reg c_spec_l16Apply_3) (.cond (tt 20) (.skip) (.exit 0))) (.seq (.blk 1 (.seq (.reg c_spec_l16Apply_4) (.seq (.dreg c_spec_l16Apply_5) (.seq (.reg c_spec_l16Apply_6) (.reg c_spec_l16Apply_7))))) (.reg c_spec_l16Apply_8))
abbrev c_spec_l16Apply_10 : List GOp := [oo 60 (.mv (tt 5)), oo 4 (.mv (tt 60))]
abbrev c_spec_l16Apply : GCode := .seq (.reg c_spec_l16Apply_0) (.seq (.reg c_spec_l16Apply_1) (.seq (.seq (.reg c_spec_l16Apply_2) (.blk 0 (.loop c_spec_l16Apply_l0))) (.seq (.reg c_spec_l16Apply_10) (.ret))))
theorem c_spec_l16Apply_d : decFn Try.prog Try.f133 = some (61, [.t 4], c_spec_l16Apply) := by kernel_rfl
theorem c_spec_l16Apply_i {args : List Value} {G : GH} {K : Value → GH → Prop} (hn : args.length ≤ 61) (h : gW Try.prog c_spec_l16Apply (RetK [.t 4] K) (T0 args) G) : GC Try.prog 133 args G K := GC_intro mixed Try.func133 c_spec_l16Apply_d hn h
abbrev c_spec_l16Ask_0 : List GOp := [oo 4 (.mv (ci 0))]
abbrev c_spec_l16Ask_1 : List GOp := [oo 5 (.mv (tt 0)), oo 6 (.call (ff 138) [tt 5]), oo 7 (.un .not (tt 6))]
abbrev c_spec_l16Ask_2 : List GOp := [oo 4 (.mv (ci 1))]
abbrev c_spec_l16Ask_3 : List GOp := [oo 8 (.mv (tt 0)), oo 9 (.mv (tt 1)), oo 10 (.call (ff 199) [tt 8, tt 9]), oo 11 (.un .not (tt 10))]
abbrev c_spec_l16Ask_4 : List GOp := [oo 4 (.mv (ci 2))]
abbrev c_spec_l16Ask_5 : List GOp := [oo 4 (.mv (ci 0))]
abbrev c_spec_l16Ask : GCode := .seq (.reg c_spec_l16Ask_0) (.seq (.seq (.reg c_spec_l16Ask_1) (.cond (tt 7) (.seq (.reg c_spec_l16Ask_2) (.ret)) (.skip))) (.seq (.seq (.reg c_spec_l16Ask_3) (.cond (tt 11) (.seq (.reg c_spec_l16Ask_4) (.ret)) (.skip))) (.seq (.reg c_spec_l16Ask_5) (.ret))))
theorem c_spec_l16Ask_d : decFn Try.prog Try.f100 = some (12, [.t 4], c_spec_l16Ask) := by kernel_rfl
theorem c_spec_l16Ask_i {args : List Value} {G : GH} {K : Value → GH → Prop} (hn : args.length ≤ 12) (h : gW Try.prog c_spec_l16Ask (RetK [.t 4] K) (T0 args) G) : GC Try.prog 100 args G K := GC_intro mixed Try.func100 c_spec_l16Ask_d hn h
abbrev c_spec_l16Ok_0 : List GOp := [oo 2 (.mv (cb  false))]
abbrev c_spec_l16Ok_1 : List GOp := [oo 5 (.mv (tt 0)), oo 6 (.nc (tt 5)), oo 7 (.fa 0 (tt 6)), oo 8 (.ld (tt 7)), oo 9 (.call (ff 121) [tt 8, (ci 1), (ci 12)]), oo 10 (.un .not (tt 9))]
abbrev c_spec_l16Ok_2 : List GOp := [oo 2 (.mv (cb  false))]
abbrev c_spec_l16Ok_3 : List GOp := [oo 3 (.mv (ci 0))]
abbrev c_spec_l16Ok_4 : List GOp := [oo 11 (.mv (tt 3)), oo 12 (.mv (tt 0)), oo 13 (.nc (tt 12)), oo 14 (.fa 1 (tt 13)), oo 15 (.ld (tt 14)), oo 16 (.len (tt 15)), oo 17 (.bin .lss (tt 11) (tt 16))]
abbrev c_spec_l16Ok_5 : List GOp := [oo 20 (.mv (tt 0)), oo 21 (.nc (tt 20)), oo 22 (.fa 1 (tt 21)), oo 23 (.ld (tt 22)), oo 24 (.mv (tt 3)), oo 25 (.ia 3 (tt 23) (tt 24)), oo 26 (.ldn 3 (tt 25)), oo 4 (.al [.int .i64 0, .int .i64 0, .int .i64 0]), on (.st 3 (tt 4) (tt 26))]
abbrev c_spec_l16Ok_6 : List DOp := [dl 0 (oo 27 (.fa 1 (tt 4))), dl 1 (oo 28 (.ld (tt 27))), dl 2 (oo 29 (.mv (tt 0))), dl 3 (oo 30 (.nc (tt 29))), dl 4 (oo 31 (.fa 0 (tt 30))), dl 5 (oo 32 (.ld (tt 31))), dl 6 (oo 33 (.bin .sub (tt 32) (ci 1))), dh 7 [5] (oo 34 (.call (ff 121) [tt 28, (ci 0), tt 33])), dl 8 (oo 35 (.un .not (tt 34))), dl 9 (oo 36 (.mv (tt 35))), dl 10 (og 37 36 false (.fa 0 (tt 4))), dl 11 (og 38 36 false (.ld (tt 37))), dl 12 (og 39 36 false (.fa 1 (tt 4))), dl 13 (og 40 36 false (.ld (tt 39))), dl 14 (og 41 36 false (.bin .sub (tt 40) (ci 1))), dh 15 [13, 5, 1] (og 42 36 false (.call (ff 121) [tt 38, (ci 0), tt 41])), dl 16 (og 43 36 false (.un .not (tt 42))), dl 17 (oo 44 (.pick (tt 36) (cb  true) (tt 43))), dl 18 (oo 45 (.mv (tt 44))), dl 19 (og 46 45 false (.fa 2 (tt 4))), dl 20 (og 47 45 false (.ld (tt 46))), dh 21 [13, 11, 5, 1] (og 48 45 false (.call (ff 121) [tt 47, (ci 1), (ci 9)])), dl 22 (og 49 45 false (.un .not (tt 48))), dl 23 (oo 50 (.pick (tt 45) (cb  true) (tt 49)))]
abbrev c_spec_l16Ok_7 : List GOp := [oo 2 (.mv (cb  false))]
abbrev c_spec_l16Ok_8 : List DOp := [dl 0 (oo 51 (.mv (tt 3))), dl 1 (oo 52 (.bin .gtr (tt 51) (ci 0))), dl 2 (oo 53 (.mv (tt 52))), dl 3 (og 54 53 true (.mv (tt 0))), dl 4 (og 55 53 true (.nc (tt 54))), dl 5 (og 56 53 true (.fa 1 (tt 55))), dl 6 (og 57 53 true (.ld (tt 56))), dl 7 (og 58 53 true (.mv (tt 3))), dl 8 (og 59 53 true (.bin .sub (tt 58) (ci 1))), dl 9 (og 60 53 true (.ia 3 (tt 57) (tt 59))), dl 10 (og 61 53 true (.fa 0 (tt 60))), dl 11 (og 62 53 true (.ld (tt 61))), dl 12 (og 63 53 true (.fa 0 (tt 4))), dl 13 (og 64 53 true (.ld (tt 63))), dl 14 (og 65 53 true (.bin .gtr (tt 62) (tt 64))), dl 15 (og 66 53 true (.mv (tt 65))), dl 16 (og 67 66 false (.mv (tt 0))), dl 17 (og 68 66 false (.nc (tt 67))), dl 18 (og 69 66 false (.fa 1 (tt 68))), dl 19 (og 70 66 false (.ld (tt 69))), dl 20 (og 71 66 false (.mv (tt 3))), dl 21 (og 72 66 false (.bin .sub (tt 71) (ci 1))), dl 22 (og 73 66 false (.ia 3 (tt 70) (tt 72))), dl 23 (og 74 66 false (.fa 0 (tt 73))), dl 24 (og 75 66 false (.ld (tt 74))), dl 25 (og 76 66 false (.fa 0 (tt 4))), dl 26 (og 77 66 false (.ld (tt 76))), dl 27 (og 78 66 false (.bin .eql (tt 75) (tt 77))), dl 28 (og 79 66 false (.mv (tt 78))), dl 29 (og 80 79 true (.mv (tt 0))), dl 30 (og 81 79 true (.nc (tt 80))), dl 31 (og 82 79 true (.fa 1 (tt 81))), dl 32 (og 83 79 true (.ld (tt 82))), dl 33 (og 84 79 true (.mv (tt 3))), dl 34 (og 85 79 true (.bin .sub (tt 84) (ci 1))), dl 35 (og 86 79 true (.ia 3 (tt 83) (tt 85))), dl 36 (og 87 79 true (.fa 1 (tt 86))), dl 37 (og 88 79 true (.ld (tt 87))), dl 38 (og 89 79 true (.fa 1 (tt 4))), dl 39 (og 90 79 true (.ld (tt 89))), dl 40 (og 91 79 true (.bin .geq (tt 88) (tt 90))), dl 41 (og 92 66 false (.pick (tt 79) (tt 91) (cb  false))), dl 42 (og 93 53 true (.pick (tt 66) (cb  true) (tt 92))), dl 43 (oo 94 (.pick (tt 53) (tt 93) (cb  false)))]
abbrev c_spec_l16Ok_9 : List GOp := [oo 2 (.mv (cb  false))]
abbrev c_spec_l16Ok_10 : List GOp := [oo 18 (.mv (tt 3)), oo 19 (.bin .add (tt 18) (ci 1)), oo 3 (.mv (tt 19))]
abbrev c_spec_l16Ok_l0 : GCode := .seq (.seq (.reg c_spec_l16Ok_4) (.cond (tt 17) (.skip) (.exit 0))) (.seq (.blk 1 (.seq (.reg c_spec_l16Ok_5) (.seq (.seq (.dreg c_spec_l16Ok_6) (.cond (tt 50) (.seq (.reg c_spec_l16Ok_7) (.ret)) (.skip))) (.seq (.dreg c_spec_l16Ok_8) (.cond (tt 94) (.seq (.reg c_spec_l16Ok_9) (.ret)) (.skip)))))) (.reg c_spec_l16Ok_10))
abbrev c_spec_l16Ok_12 : List GOp := [oo 95 (.mv (tt 0)), oo 96 (.nc (tt 95)), oo 97 (.fa 1 (tt 96)), oo 98 (.ld (tt 97)), oo 99 (.len (tt 98)), oo 100 (.bin .leq (tt 99) (ci 24)), oo 2 (.mv (tt 100))]
abbrev c_spec_l16Ok : GCode := .seq (.reg c_spec_l16Ok_0) (.seq (.seq (.reg c_spec_l16Ok_1) (.cond (tt 10) (.seq (.reg c_spec_l16Ok_2) (.ret)) (.skip))) (.seq (.seq (.reg c_spec_l16Ok_3) (.blk 0 (.loop c_spec_l16Ok_l0))) (.seq (.reg c_spec_l16Ok_12) (.ret))))
theorem c_spec_l16Ok_d : decFn Try.prog Try.f138 = some (101, [.t 2], c_spec_l16Ok) := by kernel_rfl
theorem c_spec_l16Ok_i {args : List Value} {G : GH} {K : Value → GH → Prop} (hn : args.length ≤ 101) (h : gW Try.prog c_spec_l16Ok (RetK [.t 2] K) (T0 args) G) : GC Try.prog 138 args G K := GC_intro mixed Try.func138 c_spec_l16Ok_d hn h
abbrev c_spec_l16Set_0 : List GOp := [oo 4 (.mv (cb  false))]
abbrev c_spec_l16Set_1 : List GOp := [oo 5 (.mv (tt 1)), oo 6 (.mv (tt 0)), oo 7 (.nc (tt 6)), oo 8 (.fa 0 (tt 7)), oo 9 (.ld (tt 8)), oo 10 (.bin .sub (tt 9) (ci 1)), oo 11 (.call (ff 214) [tt 5, (ci 0), tt 10]), oo 4 (.mv (tt 11))]
abbrev c_spec_l16Set : GCode := .seq (.reg c_spec_l16Set_0) (.seq (.reg c_spec_l16Set_1) (.ret))
theorem c_spec_l16Set_d : decFn Try.prog Try.f132 = some (12, [.t 4], c_spec_l16Set) := by kernel_rfl
theorem c_spec_l16Set_i {args : List Value} {G : GH} {K : Value → GH → Prop} (hn : args.length ≤ 12) (h : gW Try.prog c_spec_l16Set (RetK [.t 4] K) (T0 args) G) : GC Try.prog 132 args G K := GC_intro mixed Try.func132 c_spec_l16Set_d hn h
abbrev c_spec_l16Vector_0 : List GOp := [oo 4 (.mv (cb  false))]
abbrev c_spec_l16Vector_1 : List GOp := [oo 5 (.mv (ci 0))]
abbrev c_spec_l16Vector_2 : List GOp := [oo 6 (.mv (tt 5)), oo 7 (.mv (tt 1)), oo 8 (.len (tt 7)), oo 9 (.bin .lss (tt 6) (tt 8))]
abbrev c_spec_l16Vector_3 : List GOp := [oo 12 (.mv (tt 1)), oo 13 (.mv (tt 5)), oo 14 (.ia 1 (tt 12) (tt 13)), oo 15 (.ld (tt 14)), oo 16 (.call (ff 121) [tt 15, (ci (-1000000)), (ci 1000000)]), oo 17 (.un .not (tt 16))]
abbrev c_spec_l16Vector_4 : List GOp := [oo 4 (.mv (cb  false))]
abbrev c_spec_l16Vector_5 : List GOp := [oo 10 (.mv (tt 5)), oo 11 (.bin .add (tt 10) (ci 1)), oo 5 (.mv (tt 11))]
abbrev c_spec_l16Vector_l0 : GCode := .seq (.seq (.reg c_spec_l16Vector_2) (.cond (tt 9) (.skip) (.exit 0))) (.seq (.blk 1 (.seq (.reg c_spec_l16Vector_3) (.cond (tt 17) (.seq (.reg c_spec_l16Vector_4) (.ret)) (.skip)))) (.reg c_spec_l16Vector_5))
abbrev c_spec_l16Vector_7 : List GOp := [oo 18 (.mv (tt 1)), oo 19 (.len (tt 18)), oo 20 (.mv (tt 0)), oo 21 (.nc (tt 20)), oo 22 (.fa 0 (tt 21)), oo 23 (.ld (tt 22)), oo 24 (.bin .eql (tt 19) (tt 23)), oo 4 (.mv (tt 24))]
abbrev c_spec_l16Vector : GCode := .seq (.reg c_spec_l16Vector_0) (.seq (.seq (.reg c_spec_l16Vector_1) (.blk 0 (.loop c_spec_l16Vector_l0))) (.seq (.reg c_spec_l16Vector_7) (.ret)))
theorem c_spec_l16Vector_d : decFn Try.prog Try.f199 = some (25, [.t 4], c_spec_l16Vector) := by kernel_rfl
theorem c_spec_l16Vector_i {args : List Value} {G : GH} {K : Value → GH → Prop} (hn : args.length ≤ 25) (h : gW Try.prog c_spec_l16Vector (RetK [.t 4] K) (T0 args) G) : GC Try.prog 199 args G K := GC_intro mixed Try.func199 c_spec_l16Vector_d hn h

end Go.Proofs.Ytmlkgpoakkgjbaa.Gh
