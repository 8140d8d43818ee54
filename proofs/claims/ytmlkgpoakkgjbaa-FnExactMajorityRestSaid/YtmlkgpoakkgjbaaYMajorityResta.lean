/- Code trees that the law MajorityRest reaches: each is what the decoding gives (checked by the kernel). -/
import Derived.Test.YtmlkgpoakkgjbaaC0
import Derived.Test.YtmlkgpoakkgjbaaFm
import Derived.Test.YtmlkgpoakkgjbaaFz
namespace Go.Proofs.Ytmlkgpoakkgjbaa.Gh
open Go Go.RowKit Go.Proofs
set_option linter.unusedVariables false
set_option linter.unusedSimpArgs false
set_option maxHeartbeats 4000000

abbrev c_cmp_Compare_int64_0 : List GOp := [oo 4 (.mv (ci 0))]
abbrev c_cmp_Compare_int64_1 : List GOp := [oo 7 (.mv (tt 0)), oo 8 (.call (ff 248) [tt 7]), oo 5 (.mv (tt 8))]
abbrev c_cmp_Compare_int64_2 : List GOp := [oo 9 (.mv (tt 1)), oo 10 (.call (ff 248) [tt 9]), oo 6 (.mv (tt 10))]
abbrev c_cmp_Compare_int64_3 : List GOp := [oo 11 (.mv (tt 5))]
abbrev c_cmp_Compare_int64_4 : List GOp := [oo 12 (.mv (tt 6))]
abbrev c_cmp_Compare_int64_5 : List GOp := [oo 4 (.mv (ci 0))]
abbrev c_cmp_Compare_int64_6 : List GOp := [oo 4 (.mv (ci (-1)))]
abbrev c_cmp_Compare_int64_7 : List GOp := [oo 13 (.mv (tt 6))]
abbrev c_cmp_Compare_int64_8 : List GOp := [oo 4 (.mv (ci 1))]
abbrev c_cmp_Compare_int64_9 : List GOp := [oo 14 (.mv (tt 0)), oo 15 (.mv (tt 1)), oo 16 (.bin .lss (tt 14) (tt 15))]
abbrev c_cmp_Compare_int64_10 : List GOp := [oo 4 (.mv (ci (-1)))]
abbrev c_cmp_Compare_int64_11 : List GOp := [oo 17 (.mv (tt 0)), oo 18 (.mv (tt 1)), oo 19 (.bin .gtr (tt 17) (tt 18))]
abbrev c_cmp_Compare_int64_12 : List GOp := [oo 4 (.mv (ci 1))]
abbrev c_cmp_Compare_int64_13 : List GOp := [oo 4 (.mv (ci 0))]
abbrev c_cmp_Compare_int64 : GCode := .seq (.reg c_cmp_Compare_int64_0) (.seq (.reg c_cmp_Compare_int64_1) (.seq (.reg c_cmp_Compare_int64_2) (.seq (.seq (.reg c_cmp_Compare_int64_3) (.cond (tt 11) (.seq (.seq (.reg c_cmp_Compare_int64_4) (.cond (tt 12) (.seq (.reg c_cmp_Compare_int64_5) (.ret)) (.skip))) (.seq (.reg c_cmp_Compare_int64_6) (.ret))) (.skip))) (.seq (.seq (.reg c_cmp_Compare_int64_7) (.cond (tt 13) (.seq (.reg c_cmp_Compare_int64_8) (.ret)) (.skip))) (.seq (.seq (.reg c_cmp_Compare_int64_9) (.cond (tt 16) (.seq (.reg c_cmp_Compare_int64_10) (.ret)) (.skip))) (.seq (.seq (.reg c_cmp_Compare_int64_11) (.cond (tt 19) (.seq (.reg c_cmp_Compare_int64_12) (.ret)) (.skip))) (.seq (.reg c_cmp_Compare_int64_13) (.ret))))))))
theorem c_cmp_Compare_int64_d : decFn Try.prog Try.f218 = some (20, [.t 4], c_cmp_Compare_int64) := by kernel_rfl
theorem c_cmp_Compare_int64_i {args : List Value} {G : GH} {K : Value → GH → Prop} (hn : args.length ≤ 20) (h : gW Try.prog c_cmp_Compare_int64 (RetK [.t 4] K) (T0 args) G) : GC Try.prog 218 args G K := GC_intro mixed Try.func218 c_cmp_Compare_int64_d hn h
abbrev c_cmp_Or_int_0 : List GOp := [oo 2 (.mv (ci 0))]
abbrev c_cmp_Or_int_1 : List GOp := [oo 3 (.mv (ci 0))]
abbrev c_cmp_Or_int_2 : List GOp := [oo 6 (.mv (tt 0)), oo 7 (.len (tt 6)), oo 8 (.mv (ci 0))]
abbrev c_cmp_Or_int_3 : List GOp := [oo 9 (.bin .lss (tt 8) (tt 7))]
abbrev c_cmp_Or_int_4 : List GOp := [oo 10 (.ia 1 (tt 6) (tt 8)), oo 11 (.ld (tt 10)), oo 5 (.mv (tt 11))]
abbrev c_cmp_Or_int_5 : List GOp := [oo 12 (.mv (tt 5)), oo 13 (.mv (tt 3)), oo 14 (.bin .neq (tt 12) (tt 13))]
abbrev c_cmp_Or_int_6 : List GOp := [oo 15 (.mv (tt 5)), oo 2 (.mv (tt 15))]
abbrev c_cmp_Or_int_7 : List GOp := [oo 16 (.bin .add (tt 8) (ci 1)), oo 8 (.mv (tt 16))]
abbrev c_cmp_Or_int_l0 : GCode := .seq (.reg c_cmp_Or_int_3) (.seq (.cond (tt 9) (.skip) (.exit 0)) (.seq (.blk 1 (.seq (.reg c_cmp_Or_int_4) (.seq (.reg c_cmp_Or_int_5) (.cond (tt 14) (.seq (.reg c_cmp_Or_int_6) (.ret)) (.skip))))) (.reg c_cmp_Or_int_7)))
abbrev c_cmp_Or_int_9 : List GOp := [oo 17 (.mv (tt 3)), oo 2 (.mv (tt 17))]
abbrev c_cmp_Or_int : GCode := .seq (.reg c_cmp_Or_int_0) (.seq (.reg c_cmp_Or_int_1) (.seq (.seq (.reg c_cmp_Or_int_2) (.blk 0 (.loop c_cmp_Or_int_l0))) (.seq (.reg c_cmp_Or_int_9) (.ret))))
theorem c_cmp_Or_int_d : decFn Try.prog Try.f241 = some (18, [.t 2], c_cmp_Or_int) := by kernel_rfl
theorem c_cmp_Or_int_i {args : List Value} {G : GH} {K : Value → GH → Prop} (hn : args.length ≤ 18) (h : gW Try.prog c_cmp_Or_int (RetK [.t 2] K) (T0 args) G) : GC Try.prog 241 args G K := GC_intro mixed Try.func241 c_cmp_Or_int_d hn h
abbrev c_cmp_isNaN_int64_0 : List GOp := [oo 2 (.mv (cb  false))]
abbrev c_cmp_isNaN_int64_1 : List GOp := [oo 3 (.mv (tt 0)), oo 4 (.mv (tt 0)), oo 5 (.bin .neq (tt 3) (tt 4)), oo 2 (.mv (tt 5))]
abbrev c_cmp_isNaN_int64 : GCode := .seq (.reg c_cmp_isNaN_int64_0) (.seq (.reg c_cmp_isNaN_int64_1) (.ret))
theorem c_cmp_isNaN_int64_d : decFn Try.prog Try.f248 = some (6, [.t 2], c_cmp_isNaN_int64) := by kernel_rfl
theorem c_cmp_isNaN_int64_i {args : List Value} {G : GH} {K : Value → GH → Prop} (hn : args.length ≤ 6) (h : gW Try.prog c_cmp_isNaN_int64 (RetK [.t 2] K) (T0 args) G) : GC Try.prog 248 args G K := GC_intro mixed Try.func248 c_cmp_isNaN_int64_d hn h
abbrev c_impl_MajorityRest_0 : List GOp := [oo 2 (.bx (tt 0)), oo 4 (.mv (ci 0)), oo 5 (.mv (.const (.slice none 0 0))), oo 6 (.mv (ci 0))]
abbrev c_impl_MajorityRest_1 : List GOp := [oo 10 (.ldn 2 (tt 2)), oo 11 (.mv (tt 1)), oo 12 (.call (ff 102) [tt 10, tt 11]), oo 7 (.mv (tt 12))]
abbrev c_impl_MajorityRest_2 : List GOp := [oo 13 (.mv (tt 7)), oo 14 (.bin .neq (tt 13) (ci 0))]
abbrev c_impl_MajorityRest_3 : List GOp := [oo 15 (.mv (tt 7)), oo 4 (.mv (ci 0)), oo 5 (.mv (.const (.slice none 0 0))), oo 6 (.mv (tt 15))]
abbrev c_impl_MajorityRest_4 : List GOp := [oo 17 (.mv (tt 1)), oo 18 (.mf (.func 112) [] [tt 2]), oo 19 (.call (ff 111) [tt 17, tt 18]), oo 16 (.mv (tt 19)), oo 20 (.ex 0 (tt 16)), oo 21 (.ex 1 (tt 16)), oo 8 (.mv (tt 20)), oo 9 (.mv (tt 21))]
abbrev c_impl_MajorityRest_5 : List GOp := [oo 22 (.mv (tt 8)), oo 23 (.bin .lss (tt 22) (ci 0))]
abbrev c_impl_MajorityRest_6 : List GOp := [oo 4 (.mv (ci 0)), oo 5 (.mv (.const (.slice none 0 0))), oo 6 (.mv (ci 3))]
abbrev c_impl_MajorityRest_7 : List GOp := [oo 24 (.mv (tt 8)), oo 25 (.mv (tt 9)), oo 4 (.mv (tt 24)), oo 5 (.mv (tt 25)), oo 6 (.mv (ci 0))]
abbrev c_impl_MajorityRest : GCode := .seq (.reg c_impl_MajorityRest_0) (.seq (.seq (.reg c_impl_MajorityRest_1) (.seq (.reg c_impl_MajorityRest_2) (.cond (tt 14) (.seq (.reg c_impl_MajorityRest_3) (.ret)) (.skip)))) (.seq (.reg c_impl_MajorityRest_4) (.seq (.seq (.reg c_impl_MajorityRest_5) (.cond (tt 23) (.seq (.reg c_impl_MajorityRest_6) (.ret)) (.skip))) (.seq (.reg c_impl_MajorityRest_7) (.ret)))))
theorem c_impl_MajorityRest_d : decFn Try.prog Try.f39 = some (26, [.t 4, .t 5, .t 6], c_impl_MajorityRest) := by kernel_rfl
theorem c_impl_MajorityRest_i {args : List Value} {G : GH} {K : Value → GH → Prop} (hn : args.length ≤ 26) (h : gW Try.prog c_impl_MajorityRest (RetK [.t 4, .t 5, .t 6] K) (T0 args) G) : GC Try.prog 39 args G K := GC_intro mixed Try.func39 c_impl_MajorityRest_d hn h
abbrev c_impl_MajorityRest_fn1_0 : List GOp := [oo 3 (.mv (.const (.slice none 0 0)))]
abbrev c_impl_MajorityRest_fn1_1 : List GOp := [oo 4 (.ldn 2 (tt 1)), oo 5 (.mv (tt 0)), oo 6 (.call (ff 108) [tt 4, tt 5]), oo 3 (.mv (tt 6))]
abbrev c_impl_MajorityRest_fn1 : GCode := .seq (.reg c_impl_MajorityRest_fn1_0) (.seq (.reg c_impl_MajorityRest_fn1_1) (.ret))
theorem c_impl_MajorityRest_fn1_d : decFn Try.prog Try.f112 = some (7, [.t 3], c_impl_MajorityRest_fn1) := by kernel_rfl
theorem c_impl_MajorityRest_fn1_i {args : List Value} {G : GH} {K : Value → GH → Prop} (hn : args.length ≤ 7) (h : gW Try.prog c_impl_MajorityRest_fn1 (RetK [.t 3] K) (T0 args) G) : GC Try.prog 112 args G K := GC_intro mixed Try.func112 c_impl_MajorityRest_fn1_d hn h
abbrev c_impl_ValidGraph_0 : List GOp := [oo 1 (.bx (tt 0)), oo 2 (.mv (cb  false))]
abbrev c_impl_ValidGraph_1 : List GOp := [oo 5 (.fa 1 (tt 1)), oo 6 (.ld (tt 5)), oo 7 (.len (tt 6)), oo 8 (.mv (ci 0))]
abbrev c_impl_ValidGraph_2 : List GOp := [oo 9 (.bin .lss (tt 8) (tt 7))]
abbrev c_impl_ValidGraph_3 : List GOp := [oo 10 (.mv (tt 8)), oo 11 (.ia 3 (tt 6) (tt 8)), oo 12 (.ldn 3 (tt 11)), oo 4 (.al [.int .i64 0, .int .i64 0, .int .i64 0]), oo 3 (.mv (tt 10)), on (.st 3 (tt 4) (tt 12))]
abbrev c_impl_ValidGraph_4 : List DOp := [dl 0 (oo 13 (.fa 0 (tt 4))), dl 1 (oo 14 (.ld (tt 13))), dl 2 (oo 15 (.bin .lss (tt 14) (ci 0))), dl 3 (oo 16 (.mv (tt 15))), dl 4 (og 17 16 false (.fa 0 (tt 4))), dl 5 (og 18 16 false (.ld (tt 17))), dl 6 (og 19 16 false (.fa 1 (tt 4))), dl 7 (og 20 16 false (.ld (tt 19))), dl 8 (og 21 16 false (.bin .geq (tt 18) (tt 20))), dl 9 (oo 22 (.pick (tt 16) (cb  true) (tt 21))), dl 10 (oo 23 (.mv (tt 22))), dl 11 (og 24 23 false (.fa 1 (tt 4))), dl 12 (og 25 23 false (.ld (tt 24))), dl 13 (og 26 23 false (.fa 0 (tt 1))), dl 14 (og 27 23 false (.ld (tt 26))), dl 15 (og 28 23 false (.bin .geq (tt 25) (tt 27))), dl 16 (oo 29 (.pick (tt 23) (cb  true) (tt 28))), dl 17 (oo 30 (.mv (tt 29))), dl 18 (og 31 30 false (.fa 2 (tt 4))), dl 19 (og 32 30 false (.ld (tt 31))), dh 20 [14, 12, 7, 5, 1] (og 33 30 false (.call (ff 122) [tt 32, (ci 1), (ci 9)])), dl 21 (og 34 30 false (.un .not (tt 33))), dl 22 (oo 35 (.pick (tt 30) (cb  true) (tt 34))), dl 23 (oo 36 (.mv (tt 35))), dl 24 (og 37 36 false (.mv (tt 3))), dl 25 (og 38 36 false (.bin .gtr (tt 37) (ci 0))), dl 26 (og 39 36 false (.mv (tt 38))), dl 27 (og 40 39 true (.fa 1 (tt 1))), dl 28 (og 41 39 true (.ld (tt 40))), dl 29 (og 42 39 true (.mv (tt 3))), dl 30 (og 43 39 true (.bin .sub (tt 42) (ci 1))), dl 31 (og 44 39 true (.ia 3 (tt 41) (tt 43))), dl 32 (og 45 39 true (.ldn 3 (tt 44))), dl 33 (og 46 39 true (.ldn 3 (tt 4))), dh 34 [28, 19, 14, 12, 7, 5, 1] (og 47 39 true (.call (ff 217) [tt 45, tt 46])), dl 35 (og 48 39 true (.bin .geq (tt 47) (ci 0))), dl 36 (og 49 36 false (.pick (tt 39) (tt 48) (cb  false))), dl 37 (oo 50 (.pick (tt 36) (cb  true) (tt 49)))]
abbrev c_impl_ValidGraph_5 : List GOp := [oo 2 (.mv (cb  false))]
abbrev c_impl_ValidGraph_6 : List GOp := [oo 51 (.bin .add (tt 8) (ci 1)), oo 8 (.mv (tt 51))]
abbrev c_impl_ValidGraph_l0 : GCode := .seq (.reg c_impl_ValidGraph_2) (.seq (.cond (tt 9) (.skip) (.exit 0)) (.seq (.blk 1 (.seq (.reg c_impl_ValidGraph_3) (.seq (.dreg c_impl_ValidGraph_4) (.cond (tt 50) (.seq (.reg c_impl_ValidGraph_5) (.ret)) (.skip))))) (.reg c_impl_ValidGraph_6)))
abbrev c_impl_ValidGraph_8 : List GOp := [oo 52 (.fa 0 (tt 1)), oo 53 (.ld (tt 52)), oo 54 (.call (ff 122) [tt 53, (ci 1), (ci 12)]), oo 55 (.mv (tt 54)), og 56 55 true (.fa 1 (tt 1)), og 57 55 true (.ld (tt 56)), og 58 55 true (.len (tt 57)), og 59 55 true (.bin .leq (tt 58) (ci 24)), oo 60 (.pick (tt 55) (tt 59) (cb  false)), oo 2 (.mv (tt 60))]
abbrev c_impl_ValidGraph : GCode := .seq (.reg c_impl_ValidGraph_0) (.seq (.seq (.reg c_impl_ValidGraph_1) (.blk 0 (.loop c_impl_ValidGraph_l0))) (.seq (.reg c_impl_ValidGraph_8) (.ret)))
theorem c_impl_ValidGraph_d : decFn Try.prog Try.f141 = some (61, [.t 2], c_impl_ValidGraph) := by kernel_rfl
theorem c_impl_ValidGraph_i {args : List Value} {G : GH} {K : Value → GH → Prop} (hn : args.length ≤ 61) (h : gW Try.prog c_impl_ValidGraph (RetK [.t 2] K) (T0 args) G) : GC Try.prog 141 args G K := GC_intro mixed Try.func141 c_impl_ValidGraph_d hn h
abbrev c_impl_compareEdges_0 : List GOp := [oo 2 (.bx (tt 0)), oo 3 (.bx (tt 1)), oo 4 (.mv (ci 0))]
abbrev c_impl_compareEdges_1 : List DOp := [dl 0 (oo 5 (.fa 0 (tt 2))), dl 1 (oo 6 (.ld (tt 5))), dl 2 (oo 7 (.fa 0 (tt 3))), dl 3 (oo 8 (.ld (tt 7))), dl 5 (oo 10 (.fa 1 (tt 2))), dl 6 (oo 11 (.ld (tt 10))), dl 7 (oo 12 (.fa 1 (tt 3))), dl 8 (oo 13 (.ld (tt 12))), dh 4 [8, 6] (oo 9 (.call (ff 218) [tt 6, tt 8])), dh 9 [3, 1] (oo 14 (.call (ff 218) [tt 11, tt 13])), dh 10 [8, 6, 3, 1] (oo 15 (.bs 1 [tt 9, tt 14])), dh 11 [8, 6, 3, 1] (oo 16 (.call (ff 241) [tt 15])), dl 12 (oo 4 (.mv (tt 16)))]
abbrev c_impl_compareEdges : GCode := .seq (.reg c_impl_compareEdges_0) (.seq (.dreg c_impl_compareEdges_1) (.ret))
theorem c_impl_compareEdges_d : decFn Try.prog Try.f217 = some (17, [.t 4], c_impl_compareEdges) := by kernel_rfl
theorem c_impl_compareEdges_i {args : List Value} {G : GH} {K : Value → GH → Prop} (hn : args.length ≤ 17) (h : gW Try.prog c_impl_compareEdges (RetK [.t 4] K) (T0 args) G) : GC Try.prog 217 args G K := GC_intro mixed Try.func217 c_impl_compareEdges_d hn h
abbrev c_impl_isGraphVector_0 : List GOp := [oo 2 (.bx (tt 0)), oo 4 (.mv (cb  false))]
abbrev c_impl_isGraphVector_1 : List DOp := [dl 0 (oo 5 (.mv (tt 1))), dl 2 (oo 7 (.fa 0 (tt 2))), dl 3 (oo 8 (.ld (tt 7))), dh 1 [3] (oo 6 (.call (ff 213) [tt 5])), dl 4 (oo 9 (.bin .eql (tt 6) (tt 8))), dl 5 (oo 10 (.mv (tt 9))), dl 6 (og 11 10 true (.mv (tt 1))), dh 7 [3] (og 12 10 true (.call (ff 152) [tt 11, (ff 246)])), dl 8 (og 13 10 true (.un .not (tt 12))), dl 9 (oo 14 (.pick (tt 10) (tt 13) (cb  false))), dl 10 (oo 4 (.mv (tt 14)))]
abbrev c_impl_isGraphVector : GCode := .seq (.reg c_impl_isGraphVector_0) (.seq (.dreg c_impl_isGraphVector_1) (.ret))
theorem c_impl_isGraphVector_d : decFn Try.prog Try.f201 = some (15, [.t 4], c_impl_isGraphVector) := by kernel_rfl
theorem c_impl_isGraphVector_i {args : List Value} {G : GH} {K : Value → GH → Prop} (hn : args.length ≤ 15) (h : gW Try.prog c_impl_isGraphVector (RetK [.t 4] K) (T0 args) G) : GC Try.prog 201 args G K := GC_intro mixed Try.func201 c_impl_isGraphVector_d hn h
abbrev c_impl_isGraphVector_fn1_0 : List GOp := [oo 2 (.mv (cb  false))]
abbrev c_impl_isGraphVector_fn1_1 : List GOp := [oo 3 (.mv (tt 0)), oo 4 (.call (ff 122) [tt 3, (ci (-1000000)), (ci 1000000)]), oo 5 (.un .not (tt 4)), oo 2 (.mv (tt 5))]
abbrev c_impl_isGraphVector_fn1 : GCode := .seq (.reg c_impl_isGraphVector_fn1_0) (.seq (.reg c_impl_isGraphVector_fn1_1) (.ret))
theorem c_impl_isGraphVector_fn1_d : decFn Try.prog Try.f246 = some (6, [.t 2], c_impl_isGraphVector_fn1) := by kernel_rfl
theorem c_impl_isGraphVector_fn1_i {args : List Value} {G : GH} {K : Value → GH → Prop} (hn : args.length ≤ 6) (h : gW Try.prog c_impl_isGraphVector_fn1 (RetK [.t 2] K) (T0 args) G) : GC Try.prog 246 args G K := GC_intro mixed Try.func246 c_impl_isGraphVector_fn1_d hn h
abbrev c_impl_majority_0 : List GOp := [oo 2 (.bx (tt 0)), oo 4 (.mv (.const (.slice none 0 0)))]
abbrev c_impl_majority_1 : List GOp := [oo 5 (.mv (.const (.slice none 0 0)))]
abbrev c_impl_majority_2 : List GOp := [oo 14 (.mv (tt 1)), oo 15 (.len (tt 14)), oo 16 (.mv (ci 0))]
abbrev c_impl_majority_3 : List GOp := [oo 17 (.bin .lss (tt 16) (tt 15))]
abbrev c_impl_majority_4 : List GOp := [oo 18 (.mv (tt 16)), oo 19 (.ia 1 (tt 14) (tt 16)), oo 20 (.ld (tt 19)), oo 6 (.mv (tt 18)), oo 7 (.mv (tt 20))]
abbrev c_impl_majority_5 : List GOp := [oo 21 (.mv (tt 7)), oo 22 (.ldn 2 (tt 2)), oo 23 (.mv (tt 1)), oo 24 (.mv (tt 6)), oo 25 (.mv (tt 7)), oo 26 (.call (ff 204) [tt 22, tt 23, tt 24, tt 25]), oo 8 (.mv (tt 21)), oo 9 (.mv (tt 26))]
abbrev c_impl_majority_6 : List GOp := [oo 10 (.mv (cb  false))]
abbrev c_impl_majority_7 : List GOp := [oo 27 (.mv (tt 1)), oo 28 (.len (tt 27)), oo 29 (.mv (ci 0))]
abbrev c_impl_majority_8 : List GOp := [oo 30 (.bin .lss (tt 29) (tt 28))]
abbrev c_impl_majority_9 : List GOp := [oo 31 (.ia 1 (tt 27) (tt 29)), oo 32 (.ld (tt 31)), oo 12 (.mv (tt 32))]
abbrev c_impl_majority_10 : List GOp := [oo 33 (.ldn 2 (tt 2)), oo 34 (.mv (tt 1)), oo 35 (.mv (tt 6)), oo 36 (.mv (tt 12)), oo 37 (.call (ff 204) [tt 33, tt 34, tt 35, tt 36]), oo 13 (.mv (tt 37))]
abbrev c_impl_majority_11 : List GOp := [oo 38 (.mv (tt 13)), oo 39 (.mv (tt 9)), oo 40 (.bin .gtr (tt 38) (tt 39)), oo 41 (.mv (tt 40)), og 42 41 false (.mv (tt 13)), og 43 41 false (.mv (tt 9)), og 44 41 false (.bin .eql (tt 42) (tt 43)), og 45 41 false (.mv (tt 44)), og 46 45 true (.mv (tt 10)), og 47 41 false (.pick (tt 45) (tt 46) (cb  false)), og 48 41 false (.mv (tt 47)), og 49 48 true (.mv (tt 12)), og 50 48 true (.mv (tt 8)), og 51 48 true (.bin .lss (tt 49) (tt 50)), og 52 41 false (.pick (tt 48) (tt 51) (cb  false)), oo 53 (.pick (tt 41) (cb  true) (tt 52))]
abbrev c_impl_majority_12 : List GOp := [oo 54 (.mv (tt 12)), oo 55 (.mv (tt 13)), oo 8 (.mv (tt 54)), oo 9 (.mv (tt 55)), oo 10 (.mv (cb  true))]
abbrev c_impl_majority_13 : List GOp := [oo 56 (.bin .add (tt 29) (ci 1)), oo 29 (.mv (tt 56))]
abbrev c_impl_majority_l0 : GCode := .seq (.reg c_impl_majority_8) (.seq (.cond (tt 30) (.skip) (.exit 2)) (.seq (.blk 3 (.seq (.reg c_impl_majority_9) (.seq (.reg c_impl_majority_10) (.seq (.reg c_impl_majority_11) (.cond (tt 53) (.reg c_impl_majority_12) (.skip)))))) (.reg c_impl_majority_13)))
abbrev c_impl_majority_15 : List GOp := [oo 57 (.mv (tt 5)), oo 58 (.mv (tt 8)), oo 59 (.bs 1 [tt 58]), oo 60 (.ap 1 8 [.int .i64 0] (tt 57) (tt 59)), oo 5 (.mv (tt 60))]
abbrev c_impl_majority_16 : List GOp := [oo 61 (.bin .add (tt 16) (ci 1)), oo 16 (.mv (tt 61))]
abbrev c_impl_majority_l1 : GCode := .seq (.reg c_impl_majority_3) (.seq (.cond (tt 17) (.skip) (.exit 0)) (.seq (.blk 1 (.seq (.reg c_impl_majority_4) (.seq (.reg c_impl_majority_5) (.seq (.reg c_impl_majority_6) (.seq (.seq (.reg c_impl_majority_7) (.blk 2 (.loop c_impl_majority_l0))) (.reg c_impl_majority_15)))))) (.reg c_impl_majority_16)))
abbrev c_impl_majority_18 : List GOp := [oo 62 (.mv (tt 5)), oo 4 (.mv (tt 62))]
abbrev c_impl_majority : GCode := .seq (.reg c_impl_majority_0) (.seq (.reg c_impl_majority_1) (.seq (.seq (.reg c_impl_majority_2) (.blk 0 (.loop c_impl_majority_l1))) (.seq (.reg c_impl_majority_18) (.ret))))
theorem c_impl_majority_d : decFn Try.prog Try.f108 = some (63, [.t 4], c_impl_majority) := by kernel_rfl
theorem c_impl_majority_i {args : List Value} {G : GH} {K : Value → GH → Prop} (hn : args.length ≤ 63) (h : gW Try.prog c_impl_majority (RetK [.t 4] K) (T0 args) G) : GC Try.prog 108 args G K := GC_intro mixed Try.func108 c_impl_majority_d hn h
abbrev c_impl_rest_0 : List GOp := [oo 4 (.mv (ci 0)), oo 5 (.mv (.const (.slice none 0 0)))]
abbrev c_impl_rest_1 : List GOp := [oo 6 (.mv (ci 0))]
abbrev c_impl_rest_2 : List GOp := [oo 8 (.mv (tt 6)), oo 9 (.bin .leq (tt 8) (ci 1000))]
abbrev c_impl_rest_3 : List GOp := [oo 12 (.mv (tt 1)), oo 13 (.mv (tt 0)), oo 14 (.call (tt 12) [tt 13]), oo 7 (.mv (tt 14))]
abbrev c_impl_rest_4 : List GOp := [oo 15 (.mv (tt 7)), oo 16 (.mv (tt 0)), oo 17 (.call (ff 205) [tt 15, tt 16])]
abbrev c_impl_rest_5 : List GOp := [oo 18 (.mv (tt 6)), oo 19 (.mv (tt 0)), oo 20 (.call (ff 123) [tt 19]), oo 4 (.mv (tt 18)), oo 5 (.mv (tt 20))]
abbrev c_impl_rest_6 : List GOp := [oo 21 (.mv (tt 7)), oo 0 (.mv (tt 21))]
abbrev c_impl_rest_7 : List GOp := [oo 10 (.mv (tt 6)), oo 11 (.bin .add (tt 10) (ci 1)), oo 6 (.mv (tt 11))]
abbrev c_impl_rest_l0 : GCode := .seq (.seq (.reg c_impl_rest_2) (.cond (tt 9) (.skip) (.exit 0))) (.seq (.blk 1 (.seq (.reg c_impl_rest_3) (.seq (.seq (.reg c_impl_rest_4) (.cond (tt 17) (.seq (.reg c_impl_rest_5) (.ret)) (.skip))) (.reg c_impl_rest_6)))) (.reg c_impl_rest_7))
abbrev c_impl_rest_9 : List GOp := [oo 4 (.mv (ci (-1))), oo 5 (.mv (.const (.slice none 0 0)))]
abbrev c_impl_rest : GCode := .seq (.reg c_impl_rest_0) (.seq (.seq (.reg c_impl_rest_1) (.blk 0 (.loop c_impl_rest_l0))) (.seq (.reg c_impl_rest_9) (.ret)))
theorem c_impl_rest_d : decFn Try.prog Try.f111 = some (22, [.t 4, .t 5], c_impl_rest) := by kernel_rfl
theorem c_impl_rest_i {args : List Value} {G : GH} {K : Value → GH → Prop} (hn : args.length ≤ 22) (h : gW Try.prog c_impl_rest (RetK [.t 4, .t 5] K) (T0 args) G) : GC Try.prog 111 args G K := GC_intro mixed Try.func111 c_impl_rest_d hn h
abbrev c_impl_size_int64_0 : List GOp := [oo 2 (.mv (ci 0))]
abbrev c_impl_size_int64_1 : List GOp := [oo 3 (.mv (tt 0)), oo 4 (.len (tt 3)), oo 2 (.mv (tt 4))]
abbrev c_impl_size_int64 : GCode := .seq (.reg c_impl_size_int64_0) (.seq (.reg c_impl_size_int64_1) (.ret))
theorem c_impl_size_int64_d : decFn Try.prog Try.f213 = some (5, [.t 2], c_impl_size_int64) := by kernel_rfl
theorem c_impl_size_int64_i {args : List Value} {G : GH} {K : Value → GH → Prop} (hn : args.length ≤ 5) (h : gW Try.prog c_impl_size_int64 (RetK [.t 2] K) (T0 args) G) : GC Try.prog 213 args G K := GC_intro mixed Try.func213 c_impl_size_int64_d hn h
abbrev c_impl_support_0 : List GOp := [oo 4 (.bx (tt 0)), oo 8 (.mv (ci 0))]
abbrev c_impl_support_1 : List GOp := [oo 9 (.mv (ci 0))]
abbrev c_impl_support_2 : List GOp := [oo 12 (.fa 1 (tt 4)), oo 13 (.ld (tt 12)), oo 14 (.len (tt 13)), oo 15 (.mv (ci 0))]
abbrev c_impl_support_3 : List GOp := [oo 16 (.bin .lss (tt 15) (tt 14))]
abbrev c_impl_support_4 : List GOp := [oo 17 (.ia 3 (tt 13) (tt 15)), oo 18 (.ldn 3 (tt 17)), oo 11 (.al [.int .i64 0, .int .i64 0, .int .i64 0]), on (.st 3 (tt 11) (tt 18))]
abbrev c_impl_support_5 : List GOp := [oo 19 (.fa 0 (tt 11)), oo 20 (.ld (tt 19)), oo 21 (.mv (tt 2)), oo 22 (.bin .eql (tt 20) (tt 21)), oo 23 (.mv (tt 22)), og 24 23 true (.mv (tt 1)), og 25 23 true (.fa 1 (tt 11)), og 26 23 true (.ld (tt 25)), og 27 23 true (.ia 1 (tt 24) (tt 26)), og 28 23 true (.ld (tt 27)), og 29 23 true (.mv (tt 3)), og 30 23 true (.bin .eql (tt 28) (tt 29)), oo 31 (.pick (tt 23) (tt 30) (cb  false)), oo 32 (.mv (tt 31)), og 33 32 false (.fa 1 (tt 11)), og 34 32 false (.ld (tt 33)), og 35 32 false (.mv (tt 2)), og 36 32 false (.bin .eql (tt 34) (tt 35)), og 37 32 false (.mv (tt 36)), og 38 37 true (.mv (tt 1)), og 39 37 true (.fa 0 (tt 11)), og 40 37 true (.ld (tt 39)), og 41 37 true (.ia 1 (tt 38) (tt 40)), og 42 37 true (.ld (tt 41)), og 43 37 true (.mv (tt 3)), og 44 37 true (.bin .eql (tt 42) (tt 43)), og 45 32 false (.pick (tt 37) (tt 44) (cb  false)), oo 46 (.pick (tt 32) (cb  true) (tt 45))]
abbrev c_impl_support_6 : List GOp := [oo 47 (.mv (tt 9)), oo 48 (.fa 2 (tt 11)), oo 49 (.ld (tt 48)), oo 50 (.bin .add (tt 47) (tt 49)), oo 9 (.mv (tt 50))]
abbrev c_impl_support_7 : List GOp := [oo 51 (.bin .add (tt 15) (ci 1)), oo 15 (.mv (tt 51))]
abbrev c_impl_support_l0 : GCode := .seq (.reg c_impl_support_3) (.seq (.cond (tt 16) (.skip) (.exit 0)) (.seq (.blk 1 (.seq (.reg c_impl_support_4) (.seq (.reg c_impl_support_5) (.cond (tt 46) (.reg c_impl_support_6) (.skip))))) (.reg c_impl_support_7)))
abbrev c_impl_support_9 : List GOp := [oo 52 (.mv (tt 9)), oo 8 (.mv (tt 52))]
abbrev c_impl_support : GCode := .seq (.reg c_impl_support_0) (.seq (.reg c_impl_support_1) (.seq (.seq (.reg c_impl_support_2) (.blk 0 (.loop c_impl_support_l0))) (.seq (.reg c_impl_support_9) (.ret))))
theorem c_impl_support_d : decFn Try.prog Try.f204 = some (53, [.t 8], c_impl_support) := by kernel_rfl
theorem c_impl_support_i {args : List Value} {G : GH} {K : Value → GH → Prop} (hn : args.length ≤ 53) (h : gW Try.prog c_impl_support (RetK [.t 8] K) (T0 args) G) : GC Try.prog 204 args G K := GC_intro mixed Try.func204 c_impl_support_d hn h
abbrev c_impl_withVector_0 : List GOp := [oo 2 (.bx (tt 0)), oo 4 (.mv (ci 0))]
abbrev c_impl_withVector_1 : List GOp := [oo 6 (.ldn 2 (tt 2)), oo 7 (.call (ff 141) [tt 6]), oo 8 (.un .not (tt 7)), oo 5 (.mv (tt 8))]
abbrev c_impl_withVector_2 : List GOp := [oo 4 (.mv (ci 1))]
abbrev c_impl_withVector_3 : List GOp := [oo 10 (.ldn 2 (tt 2)), oo 11 (.mv (tt 1)), oo 12 (.call (ff 201) [tt 10, tt 11]), oo 13 (.un .not (tt 12)), oo 9 (.mv (tt 13))]
abbrev c_impl_withVector_4 : List GOp := [oo 4 (.mv (ci 2))]
abbrev c_impl_withVector_5 : List GOp := [oo 4 (.mv (ci 0))]
abbrev c_impl_withVector : GCode := .seq (.reg c_impl_withVector_0) (.seq (.blk 0 (.seq (.reg c_impl_withVector_1) (.cond (tt 5) (.seq (.reg c_impl_withVector_2) (.ret)) (.seq (.reg c_impl_withVector_3) (.cond (tt 9) (.seq (.reg c_impl_withVector_4) (.ret)) (.skip)))))) (.seq (.reg c_impl_withVector_5) (.ret)))
theorem c_impl_withVector_d : decFn Try.prog Try.f102 = some (14, [.t 4], c_impl_withVector) := by kernel_rfl
theorem c_impl_withVector_i {args : List Value} {G : GH} {K : Value → GH → Prop} (hn : args.length ≤ 14) (h : gW Try.prog c_impl_withVector (RetK [.t 4] K) (T0 args) G) : GC Try.prog 102 args G K := GC_intro mixed Try.func102 c_impl_withVector_d hn h
abbrev c_impl_within_0 : List GOp := [oo 6 (.mv (cb  false))]
abbrev c_impl_within_1 : List GOp := [oo 7 (.mv (tt 0)), oo 8 (.mv (tt 1)), oo 9 (.bin .geq (tt 7) (tt 8)), oo 10 (.mv (tt 9)), og 11 10 true (.mv (tt 0)), og 12 10 true (.mv (tt 2)), og 13 10 true (.bin .leq (tt 11) (tt 12)), oo 14 (.pick (tt 10) (tt 13) (cb  false)), oo 6 (.mv (tt 14))]
abbrev c_impl_within : GCode := .seq (.reg c_impl_within_0) (.seq (.reg c_impl_within_1) (.ret))
theorem c_impl_within_d : decFn Try.prog Try.f122 = some (15, [.t 6], c_impl_within) := by kernel_rfl
theorem c_impl_within_i {args : List Value} {G : GH} {K : Value → GH → Prop} (hn : args.length ≤ 15) (h : gW Try.prog c_impl_within (RetK [.t 6] K) (T0 args) G) : GC Try.prog 122 args G K := GC_intro mixed Try.func122 c_impl_within_d hn h
abbrev c_laws_FnExactMajorityRest_0 : List GOp := [oo 2 (.bx (tt 0)), oo 4 (.mv (cb  false))]
abbrev c_laws_FnExactMajorityRest_1 : List GOp := [oo 20 (.mv (tt 1)), oo 21 (.len (tt 20)), oo 22 (.bin .gtr (tt 21) (ci 1048576))]
abbrev c_laws_FnExactMajorityRest_2 : List GOp := [oo 4 (.mv (cb  true))]
abbrev c_laws_FnExactMajorityRest_3 : List GOp := [oo 5 (.mv (ci 1048576))]
abbrev c_laws_FnExactMajorityRest_4 : List GOp := [oo 23 (.ldn 2 (tt 2)), oo 24 (.mv (tt 5)), oo 25 (.call (ff 26) [tt 23, tt 24]), oo 5 (.mv (tt 25))]
abbrev c_laws_FnExactMajorityRest_5 : List GOp := [oo 26 (.mv (tt 5)), oo 27 (.bin .lss (tt 26) (ci 0))]
abbrev c_laws_FnExactMajorityRest_6 : List GOp := [oo 4 (.mv (cb  true))]
abbrev c_laws_FnExactMajorityRest_7 : List GOp := [oo 29 (.ldn 2 (tt 2)), oo 30 (.call (ff 28) [tt 29]), oo 31 (.mv (tt 1)), oo 32 (.call (ff 29) [tt 31]), oo 33 (.call (ff 38) [tt 30, tt 32]), oo 28 (.mv (tt 33)), oo 34 (.ex 0 (tt 28)), oo 35 (.ex 1 (tt 28)), oo 36 (.ex 2 (tt 28)), oo 6 (.mv (tt 34)), oo 7 (.mv (tt 35)), oo 8 (.mv (tt 36))]
abbrev c_laws_FnExactMajorityRest_8 : List GOp := [oo 37 (.ldn 2 (tt 2)), oo 38 (.call (ff 28) [tt 37]), oo 9 (.al [.int .i64 0, .slice none 0 0]), on (.st 2 (tt 9) (tt 38))]
abbrev c_laws_FnExactMajorityRest_9 : List GOp := [oo 39 (.mv (tt 1)), oo 40 (.call (ff 29) [tt 39]), oo 10 (.mv (tt 40))]
abbrev c_laws_FnExactMajorityRest_10 : List GOp := [oo 42 (.ldn 2 (tt 9)), oo 43 (.mv (tt 10)), oo 44 (.call (ff 39) [tt 42, tt 43]), oo 41 (.mv (tt 44)), oo 45 (.ex 0 (tt 41)), oo 46 (.ex 1 (tt 41)), oo 47 (.ex 2 (tt 41)), oo 11 (.mv (tt 45)), oo 12 (.mv (tt 46)), oo 13 (.mv (tt 47))]
abbrev c_laws_FnExactMajorityRest_11 : List GOp := [oo 48 (.mv (tt 11)), oo 49 (.mv (tt 6)), oo 50 (.bin .neq (tt 48) (tt 49)), oo 51 (.mv (tt 50)), og 52 51 false (.mv (tt 12)), og 53 51 false (.mv (tt 7)), og 54 51 false (.call (ff 31) [tt 52, tt 53]), og 55 51 false (.un .not (tt 54)), oo 56 (.pick (tt 51) (cb  true) (tt 55)), oo 57 (.mv (tt 56)), og 58 57 false (.mv (tt 13)), og 59 57 false (.mv (tt 8)), og 60 57 false (.bin .neq (tt 58) (tt 59)), oo 61 (.pick (tt 57) (cb  true) (tt 60))]
abbrev c_laws_FnExactMajorityRest_12 : List GOp := [oo 4 (.mv (cb  false))]
abbrev c_laws_FnExactMajorityRest_13 : List DOp := [dl 0 (oo 62 (.ldn 2 (tt 9))), dl 1 (oo 63 (.ldn 2 (tt 2))), dh 2 [0] (oo 64 (.call (ff 28) [tt 63])), dh 3 [1] (oo 65 (.call (ff 32) [tt 62, tt 64])), dl 4 (oo 66 (.un .not (tt 65)))]
abbrev c_laws_FnExactMajorityRest_14 : List GOp := [oo 4 (.mv (cb  false))]
abbrev c_laws_FnExactMajorityRest_15 : List GOp := [oo 67 (.mv (tt 10)), oo 68 (.mv (tt 1)), oo 69 (.call (ff 29) [tt 68]), oo 70 (.call (ff 31) [tt 67, tt 69]), oo 71 (.un .not (tt 70))]
abbrev c_laws_FnExactMajorityRest_16 : List GOp := [oo 4 (.mv (cb  false))]
abbrev c_laws_FnExactMajorityRest_17 : List GOp := [oo 14 (.mv (ci 1))]
abbrev c_laws_FnExactMajorityRest_18 : List GOp := [oo 72 (.ldn 2 (tt 9)), oo 73 (.mv (tt 14)), oo 74 (.call (ff 33) [tt 72, tt 73]), oo 14 (.mv (tt 74))]
abbrev c_laws_FnExactMajorityRest_19 : List GOp := [oo 75 (.mv (tt 10)), oo 76 (.mv (tt 14)), oo 77 (.call (ff 34) [tt 75, tt 76]), oo 14 (.mv (tt 77))]
abbrev c_laws_FnExactMajorityRest_20 : List GOp := [oo 78 (.mv (tt 14)), oo 79 (.bin .lss (tt 78) (ci 0)), oo 80 (.mv (tt 79)), og 81 80 false (.mv (tt 11)), og 82 80 false (.mv (tt 6)), og 83 80 false (.bin .neq (tt 81) (tt 82)), oo 84 (.pick (tt 80) (cb  true) (tt 83)), oo 85 (.mv (tt 84)), og 86 85 false (.mv (tt 12)), og 87 85 false (.mv (tt 7)), og 88 85 false (.call (ff 31) [tt 86, tt 87]), og 89 85 false (.un .not (tt 88)), oo 90 (.pick (tt 85) (cb  true) (tt 89)), oo 91 (.mv (tt 90)), og 92 91 false (.mv (tt 13)), og 93 91 false (.mv (tt 8)), og 94 91 false (.bin .neq (tt 92) (tt 93)), oo 95 (.pick (tt 91) (cb  true) (tt 94))]
abbrev c_laws_FnExactMajorityRest_21 : List GOp := [oo 4 (.mv (cb  false))]
abbrev c_laws_FnExactMajorityRest_22 : List GOp := [oo 15 (.mv (ci 1))]
abbrev c_laws_FnExactMajorityRest_23 : List GOp := [oo 96 (.mv (tt 12)), oo 97 (.mv (tt 15)), oo 98 (.call (ff 34) [tt 96, tt 97]), oo 15 (.mv (tt 98))]
abbrev c_laws_FnExactMajorityRest_24 : List GOp := [oo 16 (.mv (ci 1))]
abbrev c_laws_FnExactMajorityRest_25 : List GOp := [oo 99 (.mv (tt 12)), oo 100 (.mv (tt 16)), oo 101 (.call (ff 35) [tt 99, tt 100]), oo 16 (.mv (tt 101))]
abbrev c_laws_FnExactMajorityRest_26 : List GOp := [oo 102 (.mv (tt 16)), oo 103 (.bin .lss (tt 102) (ci 0))]
abbrev c_laws_FnExactMajorityRest_27 : List GOp := [oo 4 (.mv (cb  false))]
abbrev c_laws_FnExactMajorityRest_28 : List GOp := [oo 104 (.mv (tt 16)), oo 105 (.mv (tt 15)), oo 106 (.bin .neq (tt 104) (tt 105))]
abbrev c_laws_FnExactMajorityRest_29 : List GOp := [oo 4 (.mv (cb  false))]
abbrev c_laws_FnExactMajorityRest_30 : List GOp := [oo 108 (.ldn 2 (tt 2)), oo 109 (.call (ff 28) [tt 108]), oo 110 (.mv (tt 1)), oo 111 (.call (ff 29) [tt 110]), oo 112 (.call (ff 39) [tt 109, tt 111]), oo 107 (.mv (tt 112)), oo 113 (.ex 0 (tt 107)), oo 114 (.ex 1 (tt 107)), oo 115 (.ex 2 (tt 107)), oo 17 (.mv (tt 113)), oo 18 (.mv (tt 114)), oo 19 (.mv (tt 115))]
abbrev c_laws_FnExactMajorityRest_31 : List GOp := [oo 116 (.mv (tt 17)), oo 117 (.mv (tt 6)), oo 118 (.bin .neq (tt 116) (tt 117)), oo 119 (.mv (tt 118)), og 120 119 false (.mv (tt 18)), og 121 119 false (.mv (tt 7)), og 122 119 false (.call (ff 31) [tt 120, tt 121]), og 123 119 false (.un .not (tt 122)), oo 124 (.pick (tt 119) (cb  true) (tt 123)), oo 125 (.mv (tt 124)), og 126 125 false (.mv (tt 19)), og 127 125 false (.mv (tt 8)), og 128 125 false (.bin .neq (tt 126) (tt 127)), oo 129 (.pick (tt 125) (cb  true) (tt 128))]
abbrev c_laws_FnExactMajorityRest_32 : List GOp := [oo 4 (.mv (cb  false))]
abbrev c_laws_FnExactMajorityRest_33 : List GOp := [oo 16 (.mv (ci 1))]
abbrev c_laws_FnExactMajorityRest_34 : List GOp := [oo 130 (.mv (tt 12)), oo 131 (.mv (tt 16)), oo 132 (.call (ff 35) [tt 130, tt 131]), oo 16 (.mv (tt 132))]
abbrev c_laws_FnExactMajorityRest_35 : List GOp := [oo 133 (.mv (tt 16)), oo 134 (.bin .lss (tt 133) (ci 0))]
abbrev c_laws_FnExactMajorityRest_36 : List GOp := [oo 4 (.mv (cb  false))]
abbrev c_laws_FnExactMajorityRest_37 : List GOp := [oo 135 (.mv (tt 16)), oo 136 (.mv (tt 15)), oo 137 (.bin .neq (tt 135) (tt 136))]
abbrev c_laws_FnExactMajorityRest_38 : List GOp := [oo 4 (.mv (cb  false))]
abbrev c_laws_FnExactMajorityRest_39 : List GOp := [oo 4 (.mv (cb  true))]
abbrev c_laws_FnExactMajorityRest : GCode := .seq (.reg c_laws_FnExactMajorityRest_0) (.seq (.seq (.reg c_laws_FnExactMajorityRest_1) (.cond (tt 22) (.seq (.reg c_laws_FnExactMajorityRest_2) (.ret)) (.skip))) (.seq (.reg c_laws_FnExactMajorityRest_3) (.seq (.reg c_laws_FnExactMajorityRest_4) (.seq (.seq (.reg c_laws_FnExactMajorityRest_5) (.cond (tt 27) (.seq (.reg c_laws_FnExactMajorityRest_6) (.ret)) (.skip))) (.seq (.reg c_laws_FnExactMajorityRest_7) (.seq (.reg c_laws_FnExactMajorityRest_8) (.seq (.reg c_laws_FnExactMajorityRest_9) (.seq (.reg c_laws_FnExactMajorityRest_10) (.seq (.seq (.reg c_laws_FnExactMajorityRest_11) (.cond (tt 61) (.seq (.reg c_laws_FnExactMajorityRest_12) (.ret)) (.skip))) (.seq (.seq (.dreg c_laws_FnExactMajorityRest_13) (.cond (tt 66) (.seq (.reg c_laws_FnExactMajorityRest_14) (.ret)) (.skip))) (.seq (.seq (.reg c_laws_FnExactMajorityRest_15) (.cond (tt 71) (.seq (.reg c_laws_FnExactMajorityRest_16) (.ret)) (.skip))) (.seq (.reg c_laws_FnExactMajorityRest_17) (.seq (.reg c_laws_FnExactMajorityRest_18) (.seq (.reg c_laws_FnExactMajorityRest_19) (.seq (.seq (.reg c_laws_FnExactMajorityRest_20) (.cond (tt 95) (.seq (.reg c_laws_FnExactMajorityRest_21) (.ret)) (.skip))) (.seq (.reg c_laws_FnExactMajorityRest_22) (.seq (.reg c_laws_FnExactMajorityRest_23) (.seq (.reg c_laws_FnExactMajorityRest_24) (.seq (.reg c_laws_FnExactMajorityRest_25) (.seq (.seq (.reg c_laws_FnExactMajorityRest_26) (.cond (tt 103) (.seq (.reg c_laws_FnExactMajorityRest_27) (.ret)) (.skip))) (.seq (.seq (.reg c_laws_FnExactMajorityRest_28) (.cond (tt 106) (.seq (.reg c_laws_FnExactMajorityRest_29) (.ret)) (.skip))) (.seq (.reg c_laws_FnExactMajorityRest_30) (.seq (.seq (.reg c_laws_FnExactMajorityRest_31) (.cond (tt 129) (.seq (.reg c_laws_FnExactMajorityRest_32) (.ret)) (.skip))) (.seq (.reg c_laws_FnExactMajorityRest_33) (.seq (.reg c_laws_FnExactMajorityRest_34) (.seq (.seq (.reg c_laws_FnExactMajorityRest_35) (.cond (tt 134) (.seq (.reg c_laws_FnExactMajorityRest_36) (.ret)) (.skip))) (.seq (.seq (.reg c_laws_FnExactMajorityRest_37) (.cond (tt 137) (.seq (.reg c_laws_FnExactMajorityRest_38) (.ret)) (.skip))) (.seq (.reg c_laws_FnExactMajorityRest_39) (.ret)))))))))))))))))))))))))))))
theorem c_laws_FnExactMajorityRest_d : decFn Try.prog Try.f5 = some (138, [.t 4], c_laws_FnExactMajorityRest) := by kernel_rfl
theorem c_laws_FnExactMajorityRest_i {args : List Value} {G : GH} {K : Value → GH → Prop} (hn : args.length ≤ 138) (h : gW Try.prog c_laws_FnExactMajorityRest (RetK [.t 4] K) (T0 args) G) : GC Try.prog 5 args G K := GC_intro mixed Try.func5 c_laws_FnExactMajorityRest_d hn h
abbrev c_laws_eqEdge_0 : List GOp := [oo 2 (.bx (tt 0)), oo 3 (.bx (tt 1)), oo 4 (.mv (cb  false))]
abbrev c_laws_eqEdge_1 : List GOp := [oo 5 (.fa 0 (tt 2)), oo 6 (.ld (tt 5)), oo 7 (.fa 0 (tt 3)), oo 8 (.ld (tt 7)), oo 9 (.bin .neq (tt 6) (tt 8))]
abbrev c_laws_eqEdge_2 : List GOp := [oo 4 (.mv (cb  false))]
abbrev c_laws_eqEdge_3 : List GOp := [oo 10 (.fa 1 (tt 2)), oo 11 (.ld (tt 10)), oo 12 (.fa 1 (tt 3)), oo 13 (.ld (tt 12)), oo 14 (.bin .neq (tt 11) (tt 13))]
abbrev c_laws_eqEdge_4 : List GOp := [oo 4 (.mv (cb  false))]
abbrev c_laws_eqEdge_5 : List GOp := [oo 15 (.fa 2 (tt 2)), oo 16 (.ld (tt 15)), oo 17 (.fa 2 (tt 3)), oo 18 (.ld (tt 17)), oo 19 (.bin .neq (tt 16) (tt 18))]
abbrev c_laws_eqEdge_6 : List GOp := [oo 4 (.mv (cb  false))]
abbrev c_laws_eqEdge_7 : List GOp := [oo 4 (.mv (cb  true))]
abbrev c_laws_eqEdge : GCode := .seq (.reg c_laws_eqEdge_0) (.seq (.seq (.reg c_laws_eqEdge_1) (.cond (tt 9) (.seq (.reg c_laws_eqEdge_2) (.ret)) (.skip))) (.seq (.seq (.reg c_laws_eqEdge_3) (.cond (tt 14) (.seq (.reg c_laws_eqEdge_4) (.ret)) (.skip))) (.seq (.seq (.reg c_laws_eqEdge_5) (.cond (tt 19) (.seq (.reg c_laws_eqEdge_6) (.ret)) (.skip))) (.seq (.reg c_laws_eqEdge_7) (.ret)))))
theorem c_laws_eqEdge_d : decFn Try.prog Try.f203 = some (20, [.t 4], c_laws_eqEdge) := by kernel_rfl
theorem c_laws_eqEdge_i {args : List Value} {G : GH} {K : Value → GH → Prop} (hn : args.length ≤ 20) (h : gW Try.prog c_laws_eqEdge (RetK [.t 4] K) (T0 args) G) : GC Try.prog 203 args G K := GC_intro mixed Try.func203 c_laws_eqEdge_d hn h
abbrev c_laws_eqEdgeS_0 : List GOp := [oo 4 (.mv (cb  false))]
abbrev c_laws_eqEdgeS_1 : List GOp := [oo 6 (.mv (tt 0)), oo 7 (.len (tt 6)), oo 8 (.mv (tt 1)), oo 9 (.len (tt 8)), oo 10 (.bin .neq (tt 7) (tt 9))]
abbrev c_laws_eqEdgeS_2 : List GOp := [oo 4 (.mv (cb  false))]
abbrev c_laws_eqEdgeS_3 : List GOp := [oo 5 (.mv (ci 0))]
abbrev c_laws_eqEdgeS_4 : List GOp := [oo 11 (.mv (tt 5)), oo 12 (.mv (tt 0)), oo 13 (.len (tt 12)), oo 14 (.bin .lss (tt 11) (tt 13))]
abbrev c_laws_eqEdgeS_5 : List DOp := [dl 0 (oo 17 (.mv (tt 0))), dl 1 (oo 18 (.mv (tt 5))), dl 2 (oo 19 (.ia 3 (tt 17) (tt 18))), dl 3 (oo 20 (.ldn 3 (tt 19))), dl 4 (oo 21 (.mv (tt 1))), dl 5 (oo 22 (.mv (tt 5))), dl 6 (oo 23 (.ia 3 (tt 21) (tt 22))), dl 7 (oo 24 (.ldn 3 (tt 23))), dh 8 [] (oo 25 (.call (ff 203) [tt 20, tt 24])), dl 9 (oo 26 (.un .not (tt 25)))]
abbrev c_laws_eqEdgeS_6 : List GOp := [oo 4 (.mv (cb  false))]
abbrev c_laws_eqEdgeS_7 : List GOp := [oo 15 (.mv (tt 5)), oo 16 (.bin .add (tt 15) (ci 1)), oo 5 (.mv (tt 16))]
abbrev c_laws_eqEdgeS_l0 : GCode := .seq (.seq (.reg c_laws_eqEdgeS_4) (.cond (tt 14) (.skip) (.exit 0))) (.seq (.blk 1 (.seq (.dreg c_laws_eqEdgeS_5) (.cond (tt 26) (.seq (.reg c_laws_eqEdgeS_6) (.ret)) (.skip)))) (.reg c_laws_eqEdgeS_7))
abbrev c_laws_eqEdgeS_9 : List GOp := [oo 4 (.mv (cb  true))]
abbrev c_laws_eqEdgeS : GCode := .seq (.reg c_laws_eqEdgeS_0) (.seq (.seq (.reg c_laws_eqEdgeS_1) (.cond (tt 10) (.seq (.reg c_laws_eqEdgeS_2) (.ret)) (.skip))) (.seq (.seq (.reg c_laws_eqEdgeS_3) (.blk 0 (.loop c_laws_eqEdgeS_l0))) (.seq (.reg c_laws_eqEdgeS_9) (.ret))))
theorem c_laws_eqEdgeS_d : decFn Try.prog Try.f105 = some (27, [.t 4], c_laws_eqEdgeS) := by kernel_rfl
theorem c_laws_eqEdgeS_i {args : List Value} {G : GH} {K : Value → GH → Prop} (hn : args.length ≤ 27) (h : gW Try.prog c_laws_eqEdgeS (RetK [.t 4] K) (T0 args) G) : GC Try.prog 105 args G K := GC_intro mixed Try.func105 c_laws_eqEdgeS_d hn h
abbrev c_laws_eqGraph_0 : List GOp := [oo 2 (.bx (tt 0)), oo 3 (.bx (tt 1)), oo 4 (.mv (cb  false))]
abbrev c_laws_eqGraph_1 : List GOp := [oo 5 (.fa 0 (tt 2)), oo 6 (.ld (tt 5)), oo 7 (.fa 0 (tt 3)), oo 8 (.ld (tt 7)), oo 9 (.bin .neq (tt 6) (tt 8))]
abbrev c_laws_eqGraph_2 : List GOp := [oo 4 (.mv (cb  false))]
abbrev c_laws_eqGraph_3 : List GOp := [oo 10 (.fa 1 (tt 2)), oo 11 (.ld (tt 10)), oo 12 (.fa 1 (tt 3)), oo 13 (.ld (tt 12)), oo 14 (.call (ff 105) [tt 11, tt 13]), oo 15 (.un .not (tt 14))]
abbrev c_laws_eqGraph_4 : List GOp := [oo 4 (.mv (cb  false))]
abbrev c_laws_eqGraph_5 : List GOp := [oo 4 (.mv (cb  true))]
abbrev c_laws_eqGraph : GCode := .seq (.reg c_laws_eqGraph_0) (.seq (.seq (.reg c_laws_eqGraph_1) (.cond (tt 9) (.seq (.reg c_laws_eqGraph_2) (.ret)) (.skip))) (.seq (.seq (.reg c_laws_eqGraph_3) (.cond (tt 15) (.seq (.reg c_laws_eqGraph_4) (.ret)) (.skip))) (.seq (.reg c_laws_eqGraph_5) (.ret))))
theorem c_laws_eqGraph_d : decFn Try.prog Try.f32 = some (16, [.t 4], c_laws_eqGraph) := by kernel_rfl
theorem c_laws_eqGraph_i {args : List Value} {G : GH} {K : Value → GH → Prop} (hn : args.length ≤ 16) (h : gW Try.prog c_laws_eqGraph (RetK [.t 4] K) (T0 args) G) : GC Try.prog 32 args G K := GC_intro mixed Try.func32 c_laws_eqGraph_d hn h
abbrev c_laws_eqInt64S_0 : List GOp := [oo 4 (.mv (cb  false))]
abbrev c_laws_eqInt64S_1 : List GOp := [oo 6 (.mv (tt 0)), oo 7 (.len (tt 6)), oo 8 (.mv (tt 1)), oo 9 (.len (tt 8)), oo 10 (.bin .neq (tt 7) (tt 9))]
abbrev c_laws_eqInt64S_2 : List GOp := [oo 4 (.mv (cb  false))]
abbrev c_laws_eqInt64S_3 : List GOp := [oo 5 (.mv (ci 0))]
abbrev c_laws_eqInt64S_4 : List GOp := [oo 11 (.mv (tt 5)), oo 12 (.mv (tt 0)), oo 13 (.len (tt 12)), oo 14 (.bin .lss (tt 11) (tt 13))]
abbrev c_laws_eqInt64S_5 : List DOp := [dl 0 (oo 17 (.mv (tt 0))), dl 1 (oo 18 (.mv (tt 5))), dl 2 (oo 19 (.ia 1 (tt 17) (tt 18))), dl 3 (oo 20 (.ld (tt 19))), dl 4 (oo 21 (.mv (tt 1))), dl 5 (oo 22 (.mv (tt 5))), dl 6 (oo 23 (.ia 1 (tt 21) (tt 22))), dl 7 (oo 24 (.ld (tt 23))), dl 8 (oo 25 (.bin .neq (tt 20) (tt 24)))]
abbrev c_laws_eqInt64S_6 : List GOp := [oo 4 (.mv (cb  false))]
abbrev c_laws_eqInt64S_7 : List GOp := [oo 15 (.mv (tt 5)), oo 16 (.bin .add (tt 15) (ci 1)), oo 5 (.mv (tt 16))]
abbrev c_laws_eqInt64S_l0 : GCode := .seq (.seq (.reg c_laws_eqInt64S_4) (.cond (tt 14) (.skip) (.exit 0))) (.seq (.blk 1 (.seq (.dreg c_laws_eqInt64S_5) (.cond (tt 25) (.seq (.reg c_laws_eqInt64S_6) (.ret)) (.skip)))) (.reg c_laws_eqInt64S_7))
abbrev c_laws_eqInt64S_9 : List GOp := [oo 4 (.mv (cb  true))]
abbrev c_laws_eqInt64S : GCode := .seq (.reg c_laws_eqInt64S_0) (.seq (.seq (.reg c_laws_eqInt64S_1) (.cond (tt 10) (.seq (.reg c_laws_eqInt64S_2) (.ret)) (.skip))) (.seq (.seq (.reg c_laws_eqInt64S_3) (.blk 0 (.loop c_laws_eqInt64S_l0))) (.seq (.reg c_laws_eqInt64S_9) (.ret))))
theorem c_laws_eqInt64S_d : decFn Try.prog Try.f31 = some (26, [.t 4], c_laws_eqInt64S) := by kernel_rfl
theorem c_laws_eqInt64S_i {args : List Value} {G : GH} {K : Value → GH → Prop} (hn : args.length ≤ 26) (h : gW Try.prog c_laws_eqInt64S (RetK [.t 4] K) (T0 args) G) : GC Try.prog 31 args G K := GC_intro mixed Try.func31 c_laws_eqInt64S_d hn h
abbrev c_laws_heldInt64S_0 : List GOp := [oo 4 (.mv (ci 0))]
abbrev c_laws_heldInt64S_1 : List GOp := [oo 5 (.mv (ci 0))]
abbrev c_laws_heldInt64S_2 : List GOp := [oo 6 (.mv (tt 5)), oo 7 (.mv (tt 0)), oo 8 (.len (tt 7)), oo 9 (.bin .lss (tt 6) (tt 8))]
abbrev c_laws_heldInt64S_3 : List GOp := [oo 12 (.mv (tt 0)), oo 13 (.mv (tt 5)), oo 14 (.ia 1 (tt 12) (tt 13)), oo 15 (.ld (tt 14)), oo 16 (.mv (tt 1)), oo 17 (.bin .neq (tt 15) (tt 16))]
abbrev c_laws_heldInt64S_4 : List GOp := [oo 4 (.mv (ci (-1)))]
abbrev c_laws_heldInt64S_5 : List GOp := [oo 18 (.mv (tt 1)), oo 19 (.bin .add (tt 18) (ci 1)), oo 1 (.mv (tt 19))]
abbrev c_laws_heldInt64S_6 : List GOp := [oo 10 (.mv (tt 5)), oo 11 (.bin .add (tt 10) (ci 1)), oo 5 (.mv (tt 11))]
abbrev c_laws_heldInt64S_l0 : GCode := .seq (.seq (.reg c_laws_heldInt64S_2) (.cond (tt 9) (.skip) (.exit 0))) (.seq (.blk 1 (.seq (.seq (.reg c_laws_heldInt64S_3) (.cond (tt 17) (.seq (.reg c_laws_heldInt64S_4) (.ret)) (.skip))) (.reg c_laws_heldInt64S_5))) (.reg c_laws_heldInt64S_6))
abbrev c_laws_heldInt64S_8 : List GOp := [oo 20 (.mv (tt 1)), oo 4 (.mv (tt 20))]
abbrev c_laws_heldInt64S : GCode := .seq (.reg c_laws_heldInt64S_0) (.seq (.seq (.reg c_laws_heldInt64S_1) (.blk 0 (.loop c_laws_heldInt64S_l0))) (.seq (.reg c_laws_heldInt64S_8) (.ret)))
theorem c_laws_heldInt64S_d : decFn Try.prog Try.f35 = some (21, [.t 4], c_laws_heldInt64S) := by kernel_rfl
theorem c_laws_heldInt64S_i {args : List Value} {G : GH} {K : Value → GH → Prop} (hn : args.length ≤ 21) (h : gW Try.prog c_laws_heldInt64S (RetK [.t 4] K) (T0 args) G) : GC Try.prog 35 args G K := GC_intro mixed Try.func35 c_laws_heldInt64S_d hn h
abbrev c_laws_markEdgeS_0 : List GOp := [oo 4 (.mv (ci 0))]
abbrev c_laws_markEdgeS_1 : List GOp := [oo 5 (.mv (ci 0))]
abbrev c_laws_markEdgeS_2 : List GOp := [oo 6 (.mv (tt 5)), oo 7 (.mv (tt 0)), oo 8 (.len (tt 7)), oo 9 (.bin .lss (tt 6) (tt 8))]
abbrev c_laws_markEdgeS_3 : List GOp := [oo 12 (.mv (tt 0)), oo 13 (.mv (tt 5)), oo 14 (.mv (tt 1)), oo 15 (.ia 3 (tt 12) (tt 13)), oo 16 (.fa 0 (tt 15)), on (.st 1 (tt 16) (tt 14))]
abbrev c_laws_markEdgeS_4 : List GOp := [oo 17 (.mv (tt 1)), oo 18 (.bin .add (tt 17) (ci 1)), oo 1 (.mv (tt 18))]
abbrev c_laws_markEdgeS_5 : List GOp := [oo 19 (.mv (tt 0)), oo 20 (.mv (tt 5)), oo 21 (.mv (tt 1)), oo 22 (.ia 3 (tt 19) (tt 20)), oo 23 (.fa 1 (tt 22)), on (.st 1 (tt 23) (tt 21))]
abbrev c_laws_markEdgeS_6 : List GOp := [oo 24 (.mv (tt 1)), oo 25 (.bin .add (tt 24) (ci 1)), oo 1 (.mv (tt 25))]
abbrev c_laws_markEdgeS_7 : List GOp := [oo 26 (.mv (tt 0)), oo 27 (.mv (tt 5)), oo 28 (.mv (tt 1)), oo 29 (.ia 3 (tt 26) (tt 27)), oo 30 (.fa 2 (tt 29)), on (.st 1 (tt 30) (tt 28))]
abbrev c_laws_markEdgeS_8 : List GOp := [oo 31 (.mv (tt 1)), oo 32 (.bin .add (tt 31) (ci 1)), oo 1 (.mv (tt 32))]
abbrev c_laws_markEdgeS_9 : List GOp := [oo 10 (.mv (tt 5)), oo 11 (.bin .add (tt 10) (ci 1)), oo 5 (.mv (tt 11))]
abbrev c_laws_markEdgeS_l0 : GCode := .seq (.seq (.reg c_laws_markEdgeS_2) (.cond (tt 9) (.skip) (.exit 0))) (.seq (.blk 1 (.seq (.reg c_laws_markEdgeS_3) (.seq (.reg c_laws_markEdgeS_4) (.seq (.reg c_laws_markEdgeS_5) (.seq (.reg c_laws_markEdgeS_6) (.seq (.reg c_laws_markEdgeS_7) (.reg c_laws_markEdgeS_8))))))) (.reg c_laws_markEdgeS_9))
abbrev c_laws_markEdgeS_11 : List GOp := [oo 33 (.mv (tt 1)), oo 4 (.mv (tt 33))]
abbrev c_laws_markEdgeS : GCode := .seq (.reg c_laws_markEdgeS_0) (.seq (.seq (.reg c_laws_markEdgeS_1) (.blk 0 (.loop c_laws_markEdgeS_l0))) (.seq (.reg c_laws_markEdgeS_11) (.ret)))
theorem c_laws_markEdgeS_d : decFn Try.prog Try.f106 = some (34, [.t 4], c_laws_markEdgeS) := by kernel_rfl
theorem c_laws_markEdgeS_i {args : List Value} {G : GH} {K : Value → GH → Prop} (hn : args.length ≤ 34) (h : gW Try.prog c_laws_markEdgeS (RetK [.t 4] K) (T0 args) G) : GC Try.prog 106 args G K := GC_intro mixed Try.func106 c_laws_markEdgeS_d hn h
abbrev c_laws_markGraph_0 : List GOp := [oo 2 (.bx (tt 0)), oo 4 (.mv (ci 0))]
abbrev c_laws_markGraph_1 : List GOp := [oo 5 (.fa 1 (tt 2)), oo 6 (.ld (tt 5)), oo 7 (.mv (tt 1)), oo 8 (.call (ff 106) [tt 6, tt 7]), oo 1 (.mv (tt 8))]
abbrev c_laws_markGraph_2 : List GOp := [oo 9 (.mv (tt 1)), oo 4 (.mv (tt 9))]
abbrev c_laws_markGraph : GCode := .seq (.reg c_laws_markGraph_0) (.seq (.reg c_laws_markGraph_1) (.seq (.reg c_laws_markGraph_2) (.ret)))
theorem c_laws_markGraph_d : decFn Try.prog Try.f33 = some (10, [.t 4], c_laws_markGraph) := by kernel_rfl
theorem c_laws_markGraph_i {args : List Value} {G : GH} {K : Value → GH → Prop} (hn : args.length ≤ 10) (h : gW Try.prog c_laws_markGraph (RetK [.t 4] K) (T0 args) G) : GC Try.prog 33 args G K := GC_intro mixed Try.func33 c_laws_markGraph_d hn h
abbrev c_laws_markInt64S_0 : List GOp := [oo 4 (.mv (ci 0))]
abbrev c_laws_markInt64S_1 : List GOp := [oo 5 (.mv (ci 0))]
abbrev c_laws_markInt64S_2 : List GOp := [oo 6 (.mv (tt 5)), oo 7 (.mv (tt 0)), oo 8 (.len (tt 7)), oo 9 (.bin .lss (tt 6) (tt 8))]
abbrev c_laws_markInt64S_3 : List GOp := [oo 12 (.mv (tt 0)), oo 13 (.mv (tt 5)), oo 14 (.mv (tt 1)), oo 15 (.ia 1 (tt 12) (tt 13)), on (.st 1 (tt 15) (tt 14))]
abbrev c_laws_markInt64S_4 : List GOp := [oo 16 (.mv (tt 1)), oo 17 (.bin .add (tt 16) (ci 1)), oo 1 (.mv (tt 17))]
abbrev c_laws_markInt64S_5 : List GOp := [oo 10 (.mv (tt 5)), oo 11 (.bin .add (tt 10) (ci 1)), oo 5 (.mv (tt 11))]
abbrev c_laws_markInt64S_l0 : GCode := .seq (.seq (.reg c_laws_markInt64S_2) (.cond (tt 9) (.skip) (.exit 0))) (.seq (.blk 1 (.seq (.reg c_laws_markInt64S_3) (.reg c_laws_markInt64S_4))) (.reg c_laws_markInt64S_5))
abbrev c_laws_markInt64S_7 : List GOp := [oo 18 (.mv (tt 1)), oo 4 (.mv (tt 18))]
abbrev c_laws_markInt64S : GCode := .seq (.reg c_laws_markInt64S_0) (.seq (.seq (.reg c_laws_markInt64S_1) (.blk 0 (.loop c_laws_markInt64S_l0))) (.seq (.reg c_laws_markInt64S_7) (.ret)))
theorem c_laws_markInt64S_d : decFn Try.prog Try.f34 = some (19, [.t 4], c_laws_markInt64S) := by kernel_rfl
theorem c_laws_markInt64S_i {args : List Value} {G : GH} {K : Value → GH → Prop} (hn : args.length ≤ 19) (h : gW Try.prog c_laws_markInt64S (RetK [.t 4] K) (T0 args) G) : GC Try.prog 34 args G K := GC_intro mixed Try.func34 c_laws_markInt64S_d hn h
abbrev c_laws_szEdgeS_0 : List GOp := [oo 4 (.mv (ci 0))]
abbrev c_laws_szEdgeS_1 : List GOp := [oo 5 (.mv (tt 1)), oo 6 (.mv (tt 0)), oo 7 (.len (tt 6)), oo 8 (.bin .sub (tt 5) (tt 7)), oo 1 (.mv (tt 8))]
abbrev c_laws_szEdgeS_2 : List GOp := [oo 9 (.mv (tt 1)), oo 10 (.bin .lss (tt 9) (ci 0))]
abbrev c_laws_szEdgeS_3 : List GOp := [oo 4 (.mv (ci (-1)))]
abbrev c_laws_szEdgeS_4 : List GOp := [oo 11 (.mv (tt 1)), oo 4 (.mv (tt 11))]
abbrev c_laws_szEdgeS : GCode := .seq (.reg c_laws_szEdgeS_0) (.seq (.reg c_laws_szEdgeS_1) (.seq (.seq (.reg c_laws_szEdgeS_2) (.cond (tt 10) (.seq (.reg c_laws_szEdgeS_3) (.ret)) (.skip))) (.seq (.reg c_laws_szEdgeS_4) (.ret))))
theorem c_laws_szEdgeS_d : decFn Try.prog Try.f99 = some (12, [.t 4], c_laws_szEdgeS) := by kernel_rfl
theorem c_laws_szEdgeS_i {args : List Value} {G : GH} {K : Value → GH → Prop} (hn : args.length ≤ 12) (h : gW Try.prog c_laws_szEdgeS (RetK [.t 4] K) (T0 args) G) : GC Try.prog 99 args G K := GC_intro mixed Try.func99 c_laws_szEdgeS_d hn h
abbrev c_laws_szGraph_0 : List GOp := [oo 2 (.bx (tt 0)), oo 4 (.mv (ci 0))]
abbrev c_laws_szGraph_1 : List GOp := [oo 5 (.fa 1 (tt 2)), oo 6 (.ld (tt 5)), oo 7 (.mv (tt 1)), oo 8 (.call (ff 99) [tt 6, tt 7]), oo 1 (.mv (tt 8))]
abbrev c_laws_szGraph_2 : List GOp := [oo 9 (.mv (tt 1)), oo 10 (.bin .lss (tt 9) (ci 0))]
abbrev c_laws_szGraph_3 : List GOp := [oo 4 (.mv (ci (-1)))]
abbrev c_laws_szGraph_4 : List GOp := [oo 11 (.mv (tt 1)), oo 4 (.mv (tt 11))]
abbrev c_laws_szGraph : GCode := .seq (.reg c_laws_szGraph_0) (.seq (.reg c_laws_szGraph_1) (.seq (.seq (.reg c_laws_szGraph_2) (.cond (tt 10) (.seq (.reg c_laws_szGraph_3) (.ret)) (.skip))) (.seq (.reg c_laws_szGraph_4) (.ret))))
theorem c_laws_szGraph_d : decFn Try.prog Try.f26 = some (12, [.t 4], c_laws_szGraph) := by kernel_rfl
theorem c_laws_szGraph_i {args : List Value} {G : GH} {K : Value → GH → Prop} (hn : args.length ≤ 12) (h : gW Try.prog c_laws_szGraph (RetK [.t 4] K) (T0 args) G) : GC Try.prog 26 args G K := GC_intro mixed Try.func26 c_laws_szGraph_d hn h
abbrev c_laws_toEdge_0 : List GOp := [oo 1 (.bx (tt 0)), oo 2 (.al [.int .i64 0, .int .i64 0, .int .i64 0])]
abbrev c_laws_toEdge_1 : List GOp := [oo 3 (.al [.int .i64 0, .int .i64 0, .int .i64 0])]
abbrev c_laws_toEdge_2 : List GOp := [oo 4 (.fa 0 (tt 1)), oo 5 (.ld (tt 4)), oo 6 (.fa 0 (tt 3)), on (.st 1 (tt 6) (tt 5))]
abbrev c_laws_toEdge_3 : List GOp := [oo 7 (.fa 1 (tt 1)), oo 8 (.ld (tt 7)), oo 9 (.fa 1 (tt 3)), on (.st 1 (tt 9) (tt 8))]
abbrev c_laws_toEdge_4 : List GOp := [oo 10 (.fa 2 (tt 1)), oo 11 (.ld (tt 10)), oo 12 (.fa 2 (tt 3)), on (.st 1 (tt 12) (tt 11))]
abbrev c_laws_toEdge_5 : List GOp := [oo 13 (.ldn 3 (tt 3)), on (.st 3 (tt 2) (tt 13))]
abbrev c_laws_toEdge : GCode := .seq (.reg c_laws_toEdge_0) (.seq (.reg c_laws_toEdge_1) (.seq (.reg c_laws_toEdge_2) (.seq (.reg c_laws_toEdge_3) (.seq (.reg c_laws_toEdge_4) (.seq (.reg c_laws_toEdge_5) (.ret))))))
theorem c_laws_toEdge_d : decFn Try.prog Try.f200 = some (14, [.cn 2 3], c_laws_toEdge) := by kernel_rfl
theorem c_laws_toEdge_i {args : List Value} {G : GH} {K : Value → GH → Prop} (hn : args.length ≤ 14) (h : gW Try.prog c_laws_toEdge (RetK [.cn 2 3] K) (T0 args) G) : GC Try.prog 200 args G K := GC_intro mixed Try.func200 c_laws_toEdge_d hn h
abbrev c_laws_toEdgeS_0 : List GOp := [oo 2 (.mv (.const (.slice none 0 0)))]
abbrev c_laws_toEdgeS_1 : List GOp := [oo 5 (.mv (tt 0)), oo 6 (.len (tt 5)), oo 7 (.mk 3 24 [.int .i64 0, .int .i64 0, .int .i64 0] (tt 6) (tt 6)), oo 3 (.mv (tt 7))]
abbrev c_laws_toEdgeS_2 : List GOp := [oo 4 (.mv (ci 0))]
abbrev c_laws_toEdgeS_3 : List GOp := [oo 8 (.mv (tt 4)), oo 9 (.mv (tt 0)), oo 10 (.len (tt 9)), oo 11 (.bin .lss (tt 8) (tt 10))]
abbrev c_laws_toEdgeS_4 : List GOp := [oo 14 (.mv (tt 3)), oo 15 (.mv (tt 4)), oo 16 (.mv (tt 0)), oo 17 (.mv (tt 4)), oo 18 (.ia 3 (tt 16) (tt 17)), oo 19 (.ldn 3 (tt 18)), oo 20 (.call (ff 200) [tt 19]), oo 21 (.ia 3 (tt 14) (tt 15)), on (.st 3 (tt 21) (tt 20))]
abbrev c_laws_toEdgeS_5 : List GOp := [oo 12 (.mv (tt 4)), oo 13 (.bin .add (tt 12) (ci 1)), oo 4 (.mv (tt 13))]
abbrev c_laws_toEdgeS_l0 : GCode := .seq (.seq (.reg c_laws_toEdgeS_3) (.cond (tt 11) (.skip) (.exit 0))) (.seq (.blk 1 (.reg c_laws_toEdgeS_4)) (.reg c_laws_toEdgeS_5))
abbrev c_laws_toEdgeS_7 : List GOp := [oo 22 (.mv (tt 3)), oo 2 (.mv (tt 22))]
abbrev c_laws_toEdgeS : GCode := .seq (.reg c_laws_toEdgeS_0) (.seq (.reg c_laws_toEdgeS_1) (.seq (.seq (.reg c_laws_toEdgeS_2) (.blk 0 (.loop c_laws_toEdgeS_l0))) (.seq (.reg c_laws_toEdgeS_7) (.ret))))
theorem c_laws_toEdgeS_d : decFn Try.prog Try.f101 = some (23, [.t 2], c_laws_toEdgeS) := by kernel_rfl
theorem c_laws_toEdgeS_i {args : List Value} {G : GH} {K : Value → GH → Prop} (hn : args.length ≤ 23) (h : gW Try.prog c_laws_toEdgeS (RetK [.t 2] K) (T0 args) G) : GC Try.prog 101 args G K := GC_intro mixed Try.func101 c_laws_toEdgeS_d hn h
abbrev c_laws_toGraph_0 : List GOp := [oo 1 (.bx (tt 0)), oo 2 (.al [.int .i64 0, .slice none 0 0])]
abbrev c_laws_toGraph_1 : List GOp := [oo 3 (.al [.int .i64 0, .slice none 0 0])]
abbrev c_laws_toGraph_2 : List GOp := [oo 4 (.fa 0 (tt 1)), oo 5 (.ld (tt 4)), oo 6 (.fa 0 (tt 3)), on (.st 1 (tt 6) (tt 5))]
abbrev c_laws_toGraph_3 : List GOp := [oo 7 (.fa 1 (tt 1)), oo 8 (.ld (tt 7)), oo 9 (.call (ff 101) [tt 8]), oo 10 (.fa 1 (tt 3)), on (.st 1 (tt 10) (tt 9))]
abbrev c_laws_toGraph_4 : List GOp := [oo 11 (.ldn 2 (tt 3)), on (.st 2 (tt 2) (tt 11))]
abbrev c_laws_toGraph : GCode := .seq (.reg c_laws_toGraph_0) (.seq (.reg c_laws_toGraph_1) (.seq (.reg c_laws_toGraph_2) (.seq (.reg c_laws_toGraph_3) (.seq (.reg c_laws_toGraph_4) (.ret)))))
theorem c_laws_toGraph_d : decFn Try.prog Try.f28 = some (12, [.cn 2 2], c_laws_toGraph) := by kernel_rfl
theorem c_laws_toGraph_i {args : List Value} {G : GH} {K : Value → GH → Prop} (hn : args.length ≤ 12) (h : gW Try.prog c_laws_toGraph (RetK [.cn 2 2] K) (T0 args) G) : GC Try.prog 28 args G K := GC_intro mixed Try.func28 c_laws_toGraph_d hn h
abbrev c_laws_toInt64S_0 : List GOp := [oo 2 (.mv (.const (.slice none 0 0)))]
abbrev c_laws_toInt64S_1 : List GOp := [oo 5 (.mv (tt 0)), oo 6 (.len (tt 5)), oo 7 (.mk 1 8 [.int .i64 0] (tt 6) (tt 6)), oo 3 (.mv (tt 7))]
abbrev c_laws_toInt64S_2 : List GOp := [oo 4 (.mv (ci 0))]
abbrev c_laws_toInt64S_3 : List GOp := [oo 8 (.mv (tt 4)), oo 9 (.mv (tt 0)), oo 10 (.len (tt 9)), oo 11 (.bin .lss (tt 8) (tt 10))]
abbrev c_laws_toInt64S_4 : List GOp := [oo 14 (.mv (tt 3)), oo 15 (.mv (tt 4)), oo 16 (.mv (tt 0)), oo 17 (.mv (tt 4)), oo 18 (.ia 1 (tt 16) (tt 17)), oo 19 (.ld (tt 18)), oo 20 (.ia 1 (tt 14) (tt 15)), on (.st 1 (tt 20) (tt 19))]
abbrev c_laws_toInt64S_5 : List GOp := [oo 12 (.mv (tt 4)), oo 13 (.bin .add (tt 12) (ci 1)), oo 4 (.mv (tt 13))]
abbrev c_laws_toInt64S_l0 : GCode := .seq (.seq (.reg c_laws_toInt64S_3) (.cond (tt 11) (.skip) (.exit 0))) (.seq (.blk 1 (.reg c_laws_toInt64S_4)) (.reg c_laws_toInt64S_5))
abbrev c_laws_toInt64S_7 : List GOp := [oo 21 (.mv (tt 3)), oo 2 (.mv (tt 21))]
abbrev c_laws_toInt64S : GCode := .seq (.reg c_laws_toInt64S_0) (.seq (.reg c_laws_toInt64S_1) (.seq (.seq (.reg c_laws_toInt64S_2) (.blk 0 (.loop c_laws_toInt64S_l0))) (.seq (.reg c_laws_toInt64S_7) (.ret))))
theorem c_laws_toInt64S_d : decFn Try.prog Try.f29 = some (22, [.t 2], c_laws_toInt64S) := by kernel_rfl
theorem c_laws_toInt64S_i {args : List Value} {G : GH} {K : Value → GH → Prop} (hn : args.length ≤ 22) (h : gW Try.prog c_laws_toInt64S (RetK [.t 2] K) (T0 args) G) : GC Try.prog 29 args G K := GC_intro mixed Try.func29 c_laws_toInt64S_d hn h
abbrev c_slices_Clone_int64_int64_0 : List GOp := [oo 2 (.mv (.const (.slice none 0 0)))]
abbrev c_slices_Clone_int64_int64_1 : List GOp := [oo 3 (.mv (tt 0)), oo 4 (.eqs false (tt 3) (.const (.slice none 0 0)))]
abbrev c_slices_Clone_int64_int64_2 : List GOp := [oo 2 (.mv (.const (.slice none 0 0)))]
abbrev c_slices_Clone_int64_int64_3 : List GOp := [oo 5 (.bs 1 []), oo 6 (.mv (tt 0)), oo 7 (.ap 1 8 [.int .i64 0] (tt 5) (tt 6)), oo 2 (.mv (tt 7))]
abbrev c_slices_Clone_int64_int64 : GCode := .seq (.reg c_slices_Clone_int64_int64_0) (.seq (.seq (.reg c_slices_Clone_int64_int64_1) (.cond (tt 4) (.seq (.reg c_slices_Clone_int64_int64_2) (.ret)) (.skip))) (.seq (.reg c_slices_Clone_int64_int64_3) (.ret)))
theorem c_slices_Clone_int64_int64_d : decFn Try.prog Try.f123 = some (8, [.t 2], c_slices_Clone_int64_int64) := by kernel_rfl
theorem c_slices_Clone_int64_int64_i {args : List Value} {G : GH} {K : Value → GH → Prop} (hn : args.length ≤ 8) (h : gW Try.prog c_slices_Clone_int64_int64 (RetK [.t 2] K) (T0 args) G) : GC Try.prog 123 args G K := GC_intro mixed Try.func123 c_slices_Clone_int64_int64_d hn h
abbrev c_slices_ContainsFunc_int64_int64_0 : List GOp := [oo 4 (.mv (cb  false))]
abbrev c_slices_ContainsFunc_int64_int64_1 : List GOp := [oo 5 (.mv (tt 0)), oo 6 (.mv (tt 1)), oo 7 (.call (ff 222) [tt 5, tt 6]), oo 8 (.bin .geq (tt 7) (ci 0)), oo 4 (.mv (tt 8))]
abbrev c_slices_ContainsFunc_int64_int64 : GCode := .seq (.reg c_slices_ContainsFunc_int64_int64_0) (.seq (.reg c_slices_ContainsFunc_int64_int64_1) (.ret))
theorem c_slices_ContainsFunc_int64_int64_d : decFn Try.prog Try.f152 = some (9, [.t 4], c_slices_ContainsFunc_int64_int64) := by kernel_rfl
theorem c_slices_ContainsFunc_int64_int64_i {args : List Value} {G : GH} {K : Value → GH → Prop} (hn : args.length ≤ 9) (h : gW Try.prog c_slices_ContainsFunc_int64_int64 (RetK [.t 4] K) (T0 args) G) : GC Try.prog 152 args G K := GC_intro mixed Try.func152 c_slices_ContainsFunc_int64_int64_d hn h
abbrev c_slices_Equal_int64_int64_0 : List GOp := [oo 4 (.mv (cb  false))]
abbrev c_slices_Equal_int64_int64_1 : List GOp := [oo 6 (.mv (tt 0)), oo 7 (.len (tt 6)), oo 8 (.mv (tt 1)), oo 9 (.len (tt 8)), oo 10 (.bin .neq (tt 7) (tt 9))]
abbrev c_slices_Equal_int64_int64_2 : List GOp := [oo 4 (.mv (cb  false))]
abbrev c_slices_Equal_int64_int64_3 : List GOp := [oo 11 (.mv (tt 0)), oo 12 (.len (tt 11)), oo 13 (.mv (ci 0))]
abbrev c_slices_Equal_int64_int64_4 : List GOp := [oo 14 (.bin .lss (tt 13) (tt 12))]
abbrev c_slices_Equal_int64_int64_5 : List GOp := [oo 15 (.mv (tt 13)), oo 5 (.mv (tt 15))]
abbrev c_slices_Equal_int64_int64_6 : List DOp := [dl 0 (oo 16 (.mv (tt 0))), dl 1 (oo 17 (.mv (tt 5))), dl 2 (oo 18 (.ia 1 (tt 16) (tt 17))), dl 3 (oo 19 (.ld (tt 18))), dl 4 (oo 20 (.mv (tt 1))), dl 5 (oo 21 (.mv (tt 5))), dl 6 (oo 22 (.ia 1 (tt 20) (tt 21))), dl 7 (oo 23 (.ld (tt 22))), dl 8 (oo 24 (.bin .neq (tt 19) (tt 23)))]
abbrev c_slices_Equal_int64_int64_7 : List GOp := [oo 4 (.mv (cb  false))]
abbrev c_slices_Equal_int64_int64_8 : List GOp := [oo 25 (.bin .add (tt 13) (ci 1)), oo 13 (.mv (tt 25))]
abbrev c_slices_Equal_int64_int64_l0 : GCode := .seq (.reg c_slices_Equal_int64_int64_4) (.seq (.cond (tt 14) (.skip) (.exit 0)) (.seq (.blk 1 (.seq (.reg c_slices_Equal_int64_int64_5) (.seq (.dreg c_slices_Equal_int64_int64_6) (.cond (tt 24) (.seq (.reg c_slices_Equal_int64_int64_7) (.ret)) (.skip))))) (.reg c_slices_Equal_int64_int64_8)))
abbrev c_slices_Equal_int64_int64_10 : List GOp := [oo 4 (.mv (cb  true))]
abbrev c_slices_Equal_int64_int64 : GCode := .seq (.reg c_slices_Equal_int64_int64_0) (.seq (.seq (.reg c_slices_Equal_int64_int64_1) (.cond (tt 10) (.seq (.reg c_slices_Equal_int64_int64_2) (.ret)) (.skip))) (.seq (.seq (.reg c_slices_Equal_int64_int64_3) (.blk 0 (.loop c_slices_Equal_int64_int64_l0))) (.seq (.reg c_slices_Equal_int64_int64_10) (.ret))))
theorem c_slices_Equal_int64_int64_d : decFn Try.prog Try.f205 = some (26, [.t 4], c_slices_Equal_int64_int64) := by kernel_rfl
theorem c_slices_Equal_int64_int64_i {args : List Value} {G : GH} {K : Value → GH → Prop} (hn : args.length ≤ 26) (h : gW Try.prog c_slices_Equal_int64_int64 (RetK [.t 4] K) (T0 args) G) : GC Try.prog 205 args G K := GC_intro mixed Try.func205 c_slices_Equal_int64_int64_d hn h
abbrev c_slices_IndexFunc_int64_int64_0 : List GOp := [oo 4 (.mv (ci 0))]
abbrev c_slices_IndexFunc_int64_int64_1 : List GOp := [oo 6 (.mv (tt 0)), oo 7 (.len (tt 6)), oo 8 (.mv (ci 0))]
abbrev c_slices_IndexFunc_int64_int64_2 : List GOp := [oo 9 (.bin .lss (tt 8) (tt 7))]
abbrev c_slices_IndexFunc_int64_int64_3 : List GOp := [oo 10 (.mv (tt 8)), oo 5 (.mv (tt 10))]
abbrev c_slices_IndexFunc_int64_int64_4 : List GOp := [oo 11 (.mv (tt 1)), oo 12 (.mv (tt 0)), oo 13 (.mv (tt 5)), oo 14 (.ia 1 (tt 12) (tt 13)), oo 15 (.ld (tt 14)), oo 16 (.call (tt 11) [tt 15])]
abbrev c_slices_IndexFunc_int64_int64_5 : List GOp := [oo 17 (.mv (tt 5)), oo 4 (.mv (tt 17))]
abbrev c_slices_IndexFunc_int64_int64_6 : List GOp := [oo 18 (.bin .add (tt 8) (ci 1)), oo 8 (.mv (tt 18))]
abbrev c_slices_IndexFunc_int64_int64_l0 : GCode := .seq (.reg c_slices_IndexFunc_int64_int64_2) (.seq (.cond (tt 9) (.skip) (.exit 0)) (.seq (.blk 1 (.seq (.reg c_slices_IndexFunc_int64_int64_3) (.seq (.reg c_slices_IndexFunc_int64_int64_4) (.cond (tt 16) (.seq (.reg c_slices_IndexFunc_int64_int64_5) (.ret)) (.skip))))) (.reg c_slices_IndexFunc_int64_int64_6)))
abbrev c_slices_IndexFunc_int64_int64_8 : List GOp := [oo 4 (.mv (ci (-1)))]
abbrev c_slices_IndexFunc_int64_int64 : GCode := .seq (.reg c_slices_IndexFunc_int64_int64_0) (.seq (.seq (.reg c_slices_IndexFunc_int64_int64_1) (.blk 0 (.loop c_slices_IndexFunc_int64_int64_l0))) (.seq (.reg c_slices_IndexFunc_int64_int64_8) (.ret)))
theorem c_slices_IndexFunc_int64_int64_d : decFn Try.prog Try.f222 = some (19, [.t 4], c_slices_IndexFunc_int64_int64) := by kernel_rfl
theorem c_slices_IndexFunc_int64_int64_i {args : List Value} {G : GH} {K : Value → GH → Prop} (hn : args.length ≤ 19) (h : gW Try.prog c_slices_IndexFunc_int64_int64 (RetK [.t 4] K) (T0 args) G) : GC Try.prog 222 args G K := GC_intro mixed Try.func222 c_slices_IndexFunc_int64_int64_d hn h
abbrev c_spec_MajorityRest_0 : List GOp := [oo 2 (.bx (tt 0)), oo 4 (.mv (ci 0)), oo 5 (.mv (.const (.slice none 0 0))), oo 6 (.mv (ci 0))]
abbrev c_spec_MajorityRest_1 : List GOp := [oo 11 (.mv (tt 1)), oo 12 (.call (ff 100) [tt 2, tt 11]), oo 7 (.mv (tt 12))]
abbrev c_spec_MajorityRest_2 : List GOp := [oo 13 (.mv (tt 7)), oo 14 (.bin .neq (tt 13) (ci 0))]
abbrev c_spec_MajorityRest_3 : List GOp := [oo 15 (.mv (tt 7)), oo 4 (.mv (ci 0)), oo 5 (.mv (.const (.slice none 0 0))), oo 6 (.mv (tt 15))]
abbrev c_spec_MajorityRest_4 : List GOp := [oo 16 (.mv (tt 1)), oo 17 (.call (ff 109) [tt 16]), oo 8 (.mv (tt 17))]
abbrev c_spec_MajorityRest_5 : List GOp := [oo 9 (.mv (ci 0))]
abbrev c_spec_MajorityRest_6 : List GOp := [oo 18 (.mv (tt 9)), oo 19 (.bin .leq (tt 18) (ci 1000))]
abbrev c_spec_MajorityRest_7 : List GOp := [oo 22 (.mv (tt 8)), oo 23 (.call (ff 107) [tt 2, tt 22]), oo 10 (.mv (tt 23))]
abbrev c_spec_MajorityRest_8 : List GOp := [oo 24 (.mv (tt 10)), oo 25 (.mv (tt 8)), oo 26 (.call (ff 110) [tt 24, tt 25])]
abbrev c_spec_MajorityRest_9 : List GOp := [oo 27 (.mv (tt 9)), oo 28 (.mv (tt 8)), oo 4 (.mv (tt 27)), oo 5 (.mv (tt 28)), oo 6 (.mv (ci 0))]
abbrev c_spec_MajorityRest_10 : List GOp := [oo 29 (.mv (tt 10)), oo 8 (.mv (tt 29))]
abbrev c_spec_MajorityRest_11 : List GOp := [oo 20 (.mv (tt 9)), oo 21 (.bin .add (tt 20) (ci 1)), oo 9 (.mv (tt 21))]
abbrev c_spec_MajorityRest_l0 : GCode := .seq (.seq (.reg c_spec_MajorityRest_6) (.cond (tt 19) (.skip) (.exit 0))) (.seq (.blk 1 (.seq (.reg c_spec_MajorityRest_7) (.seq (.seq (.reg c_spec_MajorityRest_8) (.cond (tt 26) (.seq (.reg c_spec_MajorityRest_9) (.ret)) (.skip))) (.reg c_spec_MajorityRest_10)))) (.reg c_spec_MajorityRest_11))
abbrev c_spec_MajorityRest_13 : List GOp := [oo 4 (.mv (ci 0)), oo 5 (.mv (.const (.slice none 0 0))), oo 6 (.mv (ci 3))]
abbrev c_spec_MajorityRest : GCode := .seq (.reg c_spec_MajorityRest_0) (.seq (.reg c_spec_MajorityRest_1) (.seq (.seq (.reg c_spec_MajorityRest_2) (.cond (tt 14) (.seq (.reg c_spec_MajorityRest_3) (.ret)) (.skip))) (.seq (.reg c_spec_MajorityRest_4) (.seq (.seq (.reg c_spec_MajorityRest_5) (.blk 0 (.loop c_spec_MajorityRest_l0))) (.seq (.reg c_spec_MajorityRest_13) (.ret))))))
theorem c_spec_MajorityRest_d : decFn Try.prog Try.f38 = some (30, [.t 4, .t 5, .t 6], c_spec_MajorityRest) := by kernel_rfl
theorem c_spec_MajorityRest_i {args : List Value} {G : GH} {K : Value → GH → Prop} (hn : args.length ≤ 30) (h : gW Try.prog c_spec_MajorityRest (RetK [.t 4, .t 5, .t 6] K) (T0 args) G) : GC Try.prog 38 args G K := GC_intro mixed Try.func38 c_spec_MajorityRest_d hn h
abbrev c_spec_l00In_0 : List GOp := [oo 6 (.mv (cb  false))]
abbrev c_spec_l00In_1 : List GOp := [oo 7 (.mv (tt 0)), oo 8 (.mv (tt 1)), oo 9 (.bin .geq (tt 7) (tt 8)), oo 10 (.mv (tt 9)), og 11 10 true (.mv (tt 0)), og 12 10 true (.mv (tt 2)), og 13 10 true (.bin .leq (tt 11) (tt 12)), oo 14 (.pick (tt 10) (tt 13) (cb  false)), oo 6 (.mv (tt 14))]
abbrev c_spec_l00In : GCode := .seq (.reg c_spec_l00In_0) (.seq (.reg c_spec_l00In_1) (.ret))
theorem c_spec_l00In_d : decFn Try.prog Try.f121 = some (15, [.t 6], c_spec_l00In) := by kernel_rfl
theorem c_spec_l00In_i {args : List Value} {G : GH} {K : Value → GH → Prop} (hn : args.length ≤ 15) (h : gW Try.prog c_spec_l00In (RetK [.t 6] K) (T0 args) G) : GC Try.prog 121 args G K := GC_intro mixed Try.func121 c_spec_l00In_d hn h
abbrev c_spec_l00Own_0 : List GOp := [oo 2 (.mv (.const (.slice none 0 0)))]
abbrev c_spec_l00Own_1 : List GOp := [oo 3 (.bs 1 []), oo 4 (.mv (tt 0)), oo 5 (.ap 1 8 [.int .i64 0] (tt 3) (tt 4)), oo 2 (.mv (tt 5))]
abbrev c_spec_l00Own : GCode := .seq (.reg c_spec_l00Own_0) (.seq (.reg c_spec_l00Own_1) (.ret))
theorem c_spec_l00Own_d : decFn Try.prog Try.f109 = some (6, [.t 2], c_spec_l00Own) := by kernel_rfl
theorem c_spec_l00Own_i {args : List Value} {G : GH} {K : Value → GH → Prop} (hn : args.length ≤ 6) (h : gW Try.prog c_spec_l00Own (RetK [.t 2] K) (T0 args) G) : GC Try.prog 109 args G K := GC_intro mixed Try.func109 c_spec_l00Own_d hn h
abbrev c_spec_l00Same_0 : List GOp := [oo 4 (.mv (cb  false))]
abbrev c_spec_l00Same_1 : List GOp := [oo 6 (.mv (tt 0)), oo 7 (.len (tt 6)), oo 8 (.mv (tt 1)), oo 9 (.len (tt 8)), oo 10 (.bin .neq (tt 7) (tt 9))]
abbrev c_spec_l00Same_2 : List GOp := [oo 4 (.mv (cb  false))]
abbrev c_spec_l00Same_3 : List GOp := [oo 5 (.mv (ci 0))]
abbrev c_spec_l00Same_4 : List GOp := [oo 11 (.mv (tt 5)), oo 12 (.mv (tt 0)), oo 13 (.len (tt 12)), oo 14 (.bin .lss (tt 11) (tt 13))]
abbrev c_spec_l00Same_5 : List DOp := [dl 0 (oo 17 (.mv (tt 0))), dl 1 (oo 18 (.mv (tt 5))), dl 2 (oo 19 (.ia 1 (tt 17) (tt 18))), dl 3 (oo 20 (.ld (tt 19))), dl 4 (oo 21 (.mv (tt 1))), dl 5 (oo 22 (.mv (tt 5))), dl 6 (oo 23 (.ia 1 (tt 21) (tt 22))), dl 7 (oo 24 (.ld (tt 23))), dl 8 (oo 25 (.bin .neq (tt 20) (tt 24)))]
abbrev c_spec_l00Same_6 : List GOp := [oo 4 (.mv (cb  false))]
abbrev c_spec_l00Same_7 : List GOp := [oo 15 (.mv (tt 5)), oo 16 (.bin .add (tt 15) (ci 1)), oo 5 (.mv (tt 16))]
abbrev c_spec_l00Same_l0 : GCode := .seq (.seq (.reg c_spec_l00Same_4) (.cond (tt 14) (.skip) (.exit 0))) (.seq (.blk 1 (.seq (.dreg c_spec_l00Same_5) (.cond (tt 25) (.seq (.reg c_spec_l00Same_6) (.ret)) (.skip)))) (.reg c_spec_l00Same_7))
abbrev c_spec_l00Same_9 : List GOp := [oo 4 (.mv (cb  true))]
abbrev c_spec_l00Same : GCode := .seq (.reg c_spec_l00Same_0) (.seq (.seq (.reg c_spec_l00Same_1) (.cond (tt 10) (.seq (.reg c_spec_l00Same_2) (.ret)) (.skip))) (.seq (.seq (.reg c_spec_l00Same_3) (.blk 0 (.loop c_spec_l00Same_l0))) (.seq (.reg c_spec_l00Same_9) (.ret))))
theorem c_spec_l00Same_d : decFn Try.prog Try.f110 = some (26, [.t 4], c_spec_l00Same) := by kernel_rfl
theorem c_spec_l00Same_i {args : List Value} {G : GH} {K : Value → GH → Prop} (hn : args.length ≤ 26) (h : gW Try.prog c_spec_l00Same (RetK [.t 4] K) (T0 args) G) : GC Try.prog 110 args G K := GC_intro mixed Try.func110 c_spec_l00Same_d hn h
abbrev c_spec_l16Ask_0 : List GOp := [oo 4 (.mv (ci 0))]
abbrev c_spec_l16Ask_1 : List GOp := [oo 5 (.mv (tt 0)), oo 6 (.call (ff 138) [tt 5]), oo 7 (.un .not (tt 6))]
abbrev c_spec_l16Ask_2 : List GOp := [oo 4 (.mv (ci 1))]
abbrev c_spec_l16Ask_3 : List GOp := [oo 8 (.mv (tt 0)), oo 9 (.mv (tt 1)), oo 10 (.call (ff 199) [tt 8, tt 9]), oo 11 (.un .not (tt 10))]
abbrev c_spec_l16Ask_4 : List GOp := [oo 4 (.mv (ci 2))]
abbrev c_spec_l16Ask_5 : List GOp := [oo 4 (.mv (ci 0))]
abbrev c_spec_l16Ask : GCode := .seq (.reg c_spec_l16Ask_0) (.seq (.seq (.reg c_spec_l16Ask_1) (.cond (tt 7) (.seq (.reg c_spec_l16Ask_2) (.ret)) (.skip))) (.seq (.seq (.reg c_spec_l16Ask_3) (.cond (tt 11) (.seq (.reg c_spec_l16Ask_4) (.ret)) (.skip))) (.seq (.reg c_spec_l16Ask_5) (.ret))))
theorem c_spec_l16Ask_d : decFn Try.prog Try.f100 = some (12, [.t 4], c_spec_l16Ask) := by kernel_rfl
theorem c_spec_l16Ask_i {args : List Value} {G : GH} {K : Value → GH → Prop} (hn : args.length ≤ 12) (h : gW Try.prog c_spec_l16Ask (RetK [.t 4] K) (T0 args) G) : GC Try.prog 100 args G K := GC_intro mixed Try.func100 c_spec_l16Ask_d hn h
abbrev c_spec_l16Ok_0 : List GOp := [oo 2 (.mv (cb  false))]
abbrev c_spec_l16Ok_1 : List GOp := [oo 5 (.mv (tt 0)), oo 6 (.nc (tt 5)), oo 7 (.fa 0 (tt 6)), oo 8 (.ld (tt 7)), oo 9 (.call (ff 121) [tt 8, (ci 1), (ci 12)]), oo 10 (.un .not (tt 9))]
abbrev c_spec_l16Ok_2 : List GOp := [oo 2 (.mv (cb  false))]
abbrev c_spec_l16Ok_3 : List GOp := [oo 3 (.mv (ci 0))]
abbrev c_spec_l16Ok_4 : List GOp := [oo 11 (.mv (tt 3)), oo 12 (.mv (tt 0)), oo 13 (.nc (tt 12)), oo 14 (.fa 1 (tt 13)), oo 15 (.ld (tt 14)), oo 16 (.len (tt 15)), oo 17 (.bin .lss (tt 11) (tt 16))]
abbrev c_spec_l16Ok_5 : List GOp := [oo 20 (.mv (tt 0)), oo 21 (.nc (tt 20)), oo 22 (.fa 1 (tt 21)), oo 23 (.ld (tt 22)), oo 24 (.mv (tt 3)), oo 25 (.ia 3 (tt 23) (tt 24)), oo 26 (.ldn 3 (tt 25)), oo 4 (.al [.int .i64 0, .int .i64 0, .int .i64 0]), on (.st 3 (tt 4) (tt 26))]
abbrev c_spec_l16Ok_6 : List DOp := [dl 0 (oo 27 (.fa 1 (tt 4))), dl 1 (oo 28 (.ld (tt 27))), dl 2 (oo 29 (.mv (tt 0))), dl 3 (oo 30 (.nc (tt 29))), dl 4 (oo 31 (.fa 0 (tt 30))), dl 5 (oo 32 (.ld (tt 31))), dl 6 (oo 33 (.bin .sub (tt 32) (ci 1))), dh 7 [5] (oo 34 (.call (ff 121) [tt 28, (ci 0), tt 33])), dl 8 (oo 35 (.un .not (tt 34))), dl 9 (oo 36 (.mv (tt 35))), dl 10 (og 37 36 false (.fa 0 (tt 4))), dl 11 (og 38 36 false (.ld (tt 37))), dl 12 (og 39 36 false (.fa 1 (tt 4))), dl 13 (og 40 36 false (.ld (tt 39))), dl 14 (og 41 36 false (.bin .sub (tt 40) (ci 1))), dh 15 [13, 5, 1] (og 42 36 false (.call (ff 121) [tt 38, (ci 0), tt 41])), dl 16 (og 43 36 false (.un .not (tt 42))), dl 17 (oo 44 (.pick (tt 36) (cb  true) (tt 43))), dl 18 (oo 45 (.mv (tt 44))), dl 19 (og 46 45 false (.fa 2 (tt 4))), dl 20 (og 47 45 false (.ld (tt 46))), dh 21 [13, 11, 5, 1] (og 48 45 false (.call (ff 121) [tt 47, (ci 1), (ci 9)])), dl 22 (og 49 45 false (.un .not (tt 48))), dl 23 (oo 50 (.pick (tt 45) (cb  true) (tt 49)))]
abbrev c_spec_l16Ok_7 : List GOp := [oo 2 (.mv (cb  false))]
abbrev c_spec_l16Ok_8 : List DOp := [dl 0 (oo 51 (.mv (tt 3))), dl 1 (oo 52 (.bin .gtr (tt 51) (ci 0))), dl 2 (oo 53 (.mv (tt 52))), dl 3 (og 54 53 true (.mv (tt 0))), dl 4 (og 55 53 true (.nc (tt 54))), dl 5 (og 56 53 true (.fa 1 (tt 55))), dl 6 (og 57 53 true (.ld (tt 56))), dl 7 (og 58 53 true (.mv (tt 3))), dl 8 (og 59 53 true (.bin .sub (tt 58) (ci 1))), dl 9 (og 60 53 true (.ia 3 (tt 57) (tt 59))), dl 10 (og 61 53 true (.fa 0 (tt 60))), dl 11 (og 62 53 true (.ld (tt 61))), dl 12 (og 63 53 true (.fa 0 (tt 4))), dl 13 (og 64 53 true (.ld (tt 63))), dl 14 (og 65 53 true (.bin .gtr (tt 62) (tt 64))), dl 15 (og 66 53 true (.mv (tt 65))), dl 16 (og 67 66 false (.mv (tt 0))), dl 17 (og 68 66 false (.nc (tt 67))), dl 18 (og 69 66 false (.fa 1 (tt 68))), dl 19 (og 70 66 false (.ld (tt 69))), dl 20 (og 71 66 false (.mv (tt 3))), dl 21 (og 72 66 false (.bin .sub (tt 71) (ci 1))), dl 22 (og 73 66 false (.ia 3 (tt 70) (tt 72))), dl 23 (og 74 66 false (.fa 0 (tt 73))), dl 24 (og 75 66 false (.ld (tt 74))), dl 25 (og 76 66 false (.fa 0 (tt 4))), dl 26 (og 77 66 false (.ld (tt 76))), dl 27 (og 78 66 false (.bin .eql (tt 75) (tt 77))), dl 28 (og 79 66 false (.mv (tt 78))), dl 29 (og 80 79 true (.mv (tt 0))), dl 30 (og 81 79 true (.nc (tt 80))), dl 31 (og 82 79 true (.fa 1 (tt 81))), dl 32 (og 83 79 true (.ld (tt 82))), dl 33 (og 84 79 true (.mv (tt 3))), dl 34 (og 85 79 true (.bin .sub (tt 84) (ci 1))), dl 35 (og 86 79 true (.ia 3 (tt 83) (tt 85))), dl 36 (og 87 79 true (.fa 1 (tt 86))), dl 37 (og 88 79 true (.ld (tt 87))), dl 38 (og 89 79 true (.fa 1 (tt 4))), dl 39 (og 90 79 true (.ld (tt 89))), dl 40 (og 91 79 true (.bin .geq (tt 88) (tt 90))), dl 41 (og 92 66 false (.pick (tt 79) (tt 91) (cb  false))), dl 42 (og 93 53 true (.pick (tt 66) (cb  true) (tt 92))), dl 43 (oo 94 (.pick (tt 53) (tt 93) (cb  false)))]
abbrev c_spec_l16Ok_9 : List GOp := [oo 2 (.mv (cb  false))]
abbrev c_spec_l16Ok_10 : List GOp := [oo 18 (.mv (tt 3)), oo 19 (.bin .add (tt 18) (ci 1)), oo 3 (.mv (tt 19))]
abbrev c_spec_l16Ok_l0 : GCode := .seq (.seq (.reg c_spec_l16Ok_4) (.cond (tt 17) (.skip) (.exit 0))) (.seq (.blk 1 (.seq (.reg c_spec_l16Ok_5) (.seq (.seq (.dreg c_spec_l16Ok_6) (.cond (tt 50) (.seq (.reg c_spec_l16Ok_7) (.ret)) (.skip))) (.seq (.dreg c_spec_l16Ok_8) (.cond (tt 94) (.seq (.reg c_spec_l16Ok_9) (.ret)) (.skip)))))) (.reg c_spec_l16Ok_10))
abbrev c_spec_l16Ok_12 : List GOp := [oo 95 (.mv (tt 0)), oo 96 (.nc (tt 95)), oo 97 (.fa 1 (tt 96)), oo 98 (.ld (tt 97)), oo 99 (.len (tt 98)), oo 100 (.bin .leq (tt 99) (ci 24)), oo 2 (.mv (tt 100))]
abbrev c_spec_l16Ok : GCode := .seq (.reg c_spec_l16Ok_0) (.seq (.seq (.reg c_spec_l16Ok_1) (.cond (tt 10) (.seq (.reg c_spec_l16Ok_2) (.ret)) (.skip))) (.seq (.seq (.reg c_spec_l16Ok_3) (.blk 0 (.loop c_spec_l16Ok_l0))) (.seq (.reg c_spec_l16Ok_12) (.ret))))
theorem c_spec_l16Ok_d : decFn Try.prog Try.f138 = some (101, [.t 2], c_spec_l16Ok) := by kernel_rfl
theorem c_spec_l16Ok_i {args : List Value} {G : GH} {K : Value → GH → Prop} (hn : args.length ≤ 101) (h : gW Try.prog c_spec_l16Ok (RetK [.t 2] K) (T0 args) G) : GC Try.prog 138 args G K := GC_intro mixed Try.func138 c_spec_l16Ok_d hn h
abbrev c_spec_l16Vector_0 : List GOp := [oo 4 (.mv (cb  false))]
abbrev c_spec_l16Vector_1 : List GOp := [oo 5 (.mv (ci 0))]
abbrev c_spec_l16Vector_2 : List GOp := [oo 6 (.mv (tt 5)), oo 7 (.mv (tt 1)), oo 8 (.len (tt 7)), oo 9 (.bin .lss (tt 6) (tt 8))]
abbrev c_spec_l16Vector_3 : List GOp := [oo 12 (.mv (tt 1)), oo 13 (.mv (tt 5)), oo 14 (.ia 1 (tt 12) (tt 13)), oo 15 (.ld (tt 14)), oo 16 (.call (ff 121) [tt 15, (ci (-1000000)), (ci 1000000)]), oo 17 (.un .not (tt 16))]
abbrev c_spec_l16Vector_4 : List GOp := [oo 4 (.mv (cb  false))]
abbrev c_spec_l16Vector_5 : List GOp := [oo 10 (.mv (tt 5)), oo 11 (.bin .add (tt 10) (ci 1)), oo 5 (.mv (tt 11))]
abbrev c_spec_l16Vector_l0 : GCode := .seq (.seq (.reg c_spec_l16Vector_2) (.cond (tt 9) (.skip) (.exit 0))) (.seq (.blk 1 (.seq (.reg c_spec_l16Vector_3) (.cond (tt 17) (.seq (.reg c_spec_l16Vector_4) (.ret)) (.skip)))) (.reg c_spec_l16Vector_5))
abbrev c_spec_l16Vector_7 : List GOp := [oo 18 (.mv (tt 1)), oo 19 (.len (tt 18)), oo 20 (.mv (tt 0)), oo 21 (.nc (tt 20)), oo 22 (.fa 0 (tt 21)), oo 23 (.ld (tt 22)), oo 24 (.bin .eql (tt 19) (tt 23)), oo 4 (.mv (tt 24))]
abbrev c_spec_l16Vector : GCode := .seq (.reg c_spec_l16Vector_0) (.seq (.seq (.reg c_spec_l16Vector_1) (.blk 0 (.loop c_spec_l16Vector_l0))) (.seq (.reg c_spec_l16Vector_7) (.ret)))
theorem c_spec_l16Vector_d : decFn Try.prog Try.f199 = some (25, [.t 4], c_spec_l16Vector) := by kernel_rfl
theorem c_spec_l16Vector_i {args : List Value} {G : GH} {K : Value → GH → Prop} (hn : args.length ≤ 25) (h : gW Try.prog c_spec_l16Vector (RetK [.t 4] K) (T0 args) G) : GC Try.prog 199 args G K := GC_intro mixed Try.func199 c_spec_l16Vector_d hn h
abbrev c_spec_l18Majority_0 : List GOp := [oo 4 (.mv (.const (.slice none 0 0)))]
abbrev c_spec_l18Majority_1 : List GOp := [oo 14 (.mv (tt 1)), oo 15 (.call (ff 109) [tt 14]), oo 5 (.mv (tt 15))]
abbrev c_spec_l18Majority_2 : List GOp := [oo 6 (.mv (ci 0))]
abbrev c_spec_l18Majority_3 : List GOp := [oo 16 (.mv (tt 6)), oo 17 (.mv (tt 0)), oo 18 (.nc (tt 17)), oo 19 (.fa 0 (tt 18)), oo 20 (.ld (tt 19)), oo 21 (.bin .lss (tt 16) (tt 20))]
abbrev c_spec_l18Majority_4 : List GOp := [oo 24 (.mv (tt 1)), oo 25 (.mv (tt 6)), oo 26 (.ia 1 (tt 24) (tt 25)), oo 27 (.ld (tt 26)), oo 7 (.mv (tt 27))]
abbrev c_spec_l18Majority_5 : List GOp := [oo 8 (.mv (ci 0))]
abbrev c_spec_l18Majority_6 : List GOp := [oo 9 (.mv (ci 0))]
abbrev c_spec_l18Majority_7 : List GOp := [oo 28 (.mv (tt 9)), oo 29 (.bin .lss (tt 28) (ci 2))]
abbrev c_spec_l18Majority_8 : List GOp := [oo 10 (.mv (ci 0))]
abbrev c_spec_l18Majority_9 : List GOp := [oo 32 (.mv (tt 10)), oo 33 (.mv (tt 0)), oo 34 (.nc (tt 33)), oo 35 (.fa 0 (tt 34)), oo 36 (.ld (tt 35)), oo 37 (.bin .lss (tt 32) (tt 36))]
abbrev c_spec_l18Majority_10 : List GOp := [oo 40 (.mv (tt 9)), oo 41 (.bin .eql (tt 40) (ci 0)), oo 42 (.mv (tt 41)), og 43 42 true (.mv (tt 10)), og 44 42 true (.mv (tt 6)), og 45 42 true (.bin .neq (tt 43) (tt 44)), oo 46 (.pick (tt 42) (tt 45) (cb  false))]
abbrev c_spec_l18Majority_11 : List GOp := [oo 11 (.mv (ci 0))]
abbrev c_spec_l18Majority_12 : List GOp := [oo 12 (.mv (ci 0))]
abbrev c_spec_l18Majority_13 : List GOp := [oo 47 (.mv (tt 12)), oo 48 (.mv (tt 0)), oo 49 (.nc (tt 48)), oo 50 (.fa 1 (tt 49)), oo 51 (.ld (tt 50)), oo 52 (.len (tt 51)), oo 53 (.bin .lss (tt 47) (tt 52))]
abbrev c_spec_l18Majority_14 : List GOp := [oo 56 (.mv (tt 0)), oo 57 (.nc (tt 56)), oo 58 (.fa 1 (tt 57)), oo 59 (.ld (tt 58)), oo 60 (.mv (tt 12)), oo 61 (.ia 3 (tt 59) (tt 60)), oo 62 (.ldn 3 (tt 61)), oo 13 (.al [.int .i64 0, .int .i64 0, .int .i64 0]), on (.st 3 (tt 13) (tt 62))]
abbrev c_spec_l18Majority_15 : List DOp := [dl 0 (oo 63 (.fa 0 (tt 13))), dl 1 (oo 64 (.ld (tt 63))), dl 2 (oo 65 (.mv (tt 6))), dl 3 (oo 66 (.bin .eql (tt 64) (tt 65))), dl 4 (oo 67 (.mv (tt 66))), dl 5 (og 68 67 true (.mv (tt 1))), dl 6 (og 69 67 true (.fa 1 (tt 13))), dl 7 (og 70 67 true (.ld (tt 69))), dl 8 (og 71 67 true (.ia 1 (tt 68) (tt 70))), dl 9 (og 72 67 true (.ld (tt 71))), dl 10 (og 73 67 true (.mv (tt 1))), dl 11 (og 74 67 true (.mv (tt 10))), dl 12 (og 75 67 true (.ia 1 (tt 73) (tt 74))), dl 13 (og 76 67 true (.ld (tt 75))), dl 14 (og 77 67 true (.bin .eql (tt 72) (tt 76))), dl 15 (oo 78 (.pick (tt 67) (tt 77) (cb  false))), dl 16 (oo 79 (.mv (tt 78))), dl 17 (og 80 79 false (.fa 1 (tt 13))), dl 18 (og 81 79 false (.ld (tt 80))), dl 19 (og 82 79 false (.mv (tt 6))), dl 20 (og 83 79 false (.bin .eql (tt 81) (tt 82))), dl 21 (og 84 79 false (.mv (tt 83))), dl 22 (og 85 84 true (.mv (tt 1))), dl 23 (og 86 84 true (.fa 0 (tt 13))), dl 24 (og 87 84 true (.ld (tt 86))), dl 25 (og 88 84 true (.ia 1 (tt 85) (tt 87))), dl 26 (og 89 84 true (.ld (tt 88))), dl 27 (og 90 84 true (.mv (tt 1))), dl 28 (og 91 84 true (.mv (tt 10))), dl 29 (og 92 84 true (.ia 1 (tt 90) (tt 91))), dl 30 (og 93 84 true (.ld (tt 92))), dl 31 (og 94 84 true (.bin .eql (tt 89) (tt 93))), dl 32 (og 95 79 false (.pick (tt 84) (tt 94) (cb  false))), dl 33 (oo 96 (.pick (tt 79) (cb  true) (tt 95)))]
abbrev c_spec_l18Majority_16 : List GOp := [oo 97 (.mv (tt 11)), oo 98 (.fa 2 (tt 13)), oo 99 (.ld (tt 98)), oo 100 (.bin .add (tt 97) (tt 99)), oo 11 (.mv (tt 100))]
abbrev c_spec_l18Majority_17 : List GOp := [oo 54 (.mv (tt 12)), oo 55 (.bin .add (tt 54) (ci 1)), oo 12 (.mv (tt 55))]
abbrev c_spec_l18Majority_l0 : GCode := .seq (.seq (.reg c_spec_l18Majority_13) (.cond (tt 53) (.skip) (.exit 6))) (.seq (.blk 7 (.seq (.reg c_spec_l18Majority_14) (.seq (.dreg c_spec_l18Majority_15) (.cond (tt 96) (.reg c_spec_l18Majority_16) (.skip))))) (.reg c_spec_l18Majority_17))
abbrev c_spec_l18Majority_19 : List GOp := [oo 101 (.mv (tt 11)), oo 102 (.mv (tt 8)), oo 103 (.bin .gtr (tt 101) (tt 102)), oo 104 (.mv (tt 103)), og 105 104 false (.mv (tt 11)), og 106 104 false (.mv (tt 8)), og 107 104 false (.bin .eql (tt 105) (tt 106)), og 108 104 false (.mv (tt 107)), og 109 108 true (.mv (tt 9)), og 110 108 true (.bin .eql (tt 109) (ci 1)), og 111 104 false (.pick (tt 108) (tt 110) (cb  false)), og 112 104 false (.mv (tt 111)), og 113 112 true (.mv (tt 7)), og 114 112 true (.mv (tt 1)), og 115 112 true (.mv (tt 6)), og 116 112 true (.ia 1 (tt 114) (tt 115)), og 117 112 true (.ld (tt 116)), og 118 112 true (.bin .neq (tt 113) (tt 117)), og 119 104 false (.pick (tt 112) (tt 118) (cb  false)), og 120 104 false (.mv (tt 119)), og 121 120 true (.mv (tt 1)), og 122 120 true (.mv (tt 10)), og 123 120 true (.ia 1 (tt 121) (tt 122)), og 124 120 true (.ld (tt 123)), og 125 120 true (.mv (tt 7)), og 126 120 true (.bin .lss (tt 124) (tt 125)), og 127 104 false (.pick (tt 120) (tt 126) (cb  false)), oo 128 (.pick (tt 104) (cb  true) (tt 127))]
abbrev c_spec_l18Majority_20 : List GOp := [oo 129 (.mv (tt 11)), oo 8 (.mv (tt 129))]
abbrev c_spec_l18Majority_21 : List GOp := [oo 130 (.mv (tt 1)), oo 131 (.mv (tt 10)), oo 132 (.ia 1 (tt 130) (tt 131)), oo 133 (.ld (tt 132)), oo 7 (.mv (tt 133))]
abbrev c_spec_l18Majority_22 : List GOp := [oo 38 (.mv (tt 10)), oo 39 (.bin .add (tt 38) (ci 1)), oo 10 (.mv (tt 39))]
abbrev c_spec_l18Majority_l1 : GCode := .seq (.seq (.reg c_spec_l18Majority_9) (.cond (tt 37) (.skip) (.exit 4))) (.seq (.blk 5 (.seq (.seq (.reg c_spec_l18Majority_10) (.cond (tt 46) (.exit 5) (.skip))) (.seq (.reg c_spec_l18Majority_11) (.seq (.seq (.reg c_spec_l18Majority_12) (.blk 6 (.loop c_spec_l18Majority_l0))) (.seq (.reg c_spec_l18Majority_19) (.cond (tt 128) (.seq (.reg c_spec_l18Majority_20) (.reg c_spec_l18Majority_21)) (.skip))))))) (.reg c_spec_l18Majority_22))
abbrev c_spec_l18Majority_24 : List GOp := [oo 30 (.mv (tt 9)), oo 31 (.bin .add (tt 30) (ci 1)), oo 9 (.mv (tt 31))]
abbrev c_spec_l18Majority_l2 : GCode := .seq (.seq (.reg c_spec_l18Majority_7) (.cond (tt 29) (.skip) (.exit 2))) (.seq (.blk 3 (.seq (.reg c_spec_l18Majority_8) (.blk 4 (.loop c_spec_l18Majority_l1)))) (.reg c_spec_l18Majority_24))
abbrev c_spec_l18Majority_26 : List GOp := [oo 134 (.mv (tt 5)), oo 135 (.mv (tt 6)), oo 136 (.mv (tt 7)), oo 137 (.ia 1 (tt 134) (tt 135)), on (.st 1 (tt 137) (tt 136))]
abbrev c_spec_l18Majority_27 : List GOp := [oo 22 (.mv (tt 6)), oo 23 (.bin .add (tt 22) (ci 1)), oo 6 (.mv (tt 23))]
abbrev c_spec_l18Majority_l3 : GCode := .seq (.seq (.reg c_spec_l18Majority_3) (.cond (tt 21) (.skip) (.exit 0))) (.seq (.blk 1 (.seq (.reg c_spec_l18Majority_4) (.seq (.reg c_spec_l18Majority_5) (.seq (.seq (.reg c_spec_l18Majority_6) (.blk 2 (.loop c_spec_l18Majority_l2))) (.reg c_spec_l18Majority_26))))) (.reg c_spec_l18Majority_27))
abbrev c_spec_l18Majority_29 : List GOp := [oo 138 (.mv (tt 5)), oo 4 (.mv (tt 138))]
abbrev c_spec_l18Majority : GCode := .seq (.reg c_spec_l18Majority_0) (.seq (.reg c_spec_l18Majority_1) (.seq (.seq (.reg c_spec_l18Majority_2) (.blk 0 (.loop c_spec_l18Majority_l3))) (.seq (.reg c_spec_l18Majority_29) (.ret))))
theorem c_spec_l18Majority_d : decFn Try.prog Try.f107 = some (139, [.t 4], c_spec_l18Majority) := by kernel_rfl
theorem c_spec_l18Majority_i {args : List Value} {G : GH} {K : Value → GH → Prop} (hn : args.length ≤ 139) (h : gW Try.prog c_spec_l18Majority (RetK [.t 4] K) (T0 args) G) : GC Try.prog 107 args G K := GC_intro mixed Try.func107 c_spec_l18Majority_d hn h

end Go.Proofs.Ytmlkgpoakkgjbaa.Gh
