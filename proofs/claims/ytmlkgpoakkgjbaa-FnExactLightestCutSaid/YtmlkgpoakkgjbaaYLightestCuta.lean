/- Code trees that the law LightestCut reaches: each is what the decoding gives (checked by the kernel). -/
import Derived.Test.YtmlkgpoakkgjbaaC0
import Derived.Test.YtmlkgpoakkgjbaaFm
import Derived.Test.YtmlkgpoakkgjbaaFz
namespace Go.Proofs.Ytmlkgpoakkgjbaa.Gh
open Go Go.RowKit Go.Proofs
set_option linter.unusedVariables false
set_option linter.unusedSimpArgs false
set_option maxHeartbeats 4000000

abbrev c_cmp_Compare_int64_0 : List GOp := [oo 4 (.mv (ci 0))]
abbrev c_cmp_Compare_int64_1 : List GOp := [oo 7 (.mv (tt 0)), oo 8 (.call (ff 248) [tt 7]), oo 5 (.mv (tt 8))]
abbrev c_cmp_Compare_int64_2 : List GOp := [oo 9 (.mv (tt 1)), oo 10 (.call (ff 248) [tt 9]), oo 6 (.mv (tt 10))]
abbrev c_cmp_Compare_int64_3 : List GOp := [oo 11 (.mv (tt 5))]
abbrev c_cmp_Compare_int64_4 : List GOp := [oo 12 (.mv (tt 6))]
abbrev c_cmp_Compare_int64_5 : List GOp := [oo 4 (.mv (ci 0))]
abbrev c_cmp_Compare_int64_6 : List GOp := [oo 4 (.mv (ci (-1)))]
abbrev c_cmp_Compare_int64_7 : List GOp := [oo 13 (.mv (tt 6))]
abbrev c_cmp_Compare_int64_8 : List GOp := [oo 4 (.mv (ci 1))]
abbrev c_cmp_Compare_int64_9 : List GOp := [oo 14 (.mv (tt 0)), oo 15 (.mv (tt 1)), oo 16 (.bin .lss (tt 14) (tt 15))]
abbrev c_cmp_Compare_int64_10 : List GOp := [oo 4 (.mv (ci (-1)))]
abbrev c_cmp_Compare_int64_11 : List GOp := [oo 17 (.mv (tt 0)), oo 18 (.mv (tt 1)), oo 19 (.bin .gtr (tt 17) (tt 18))]
abbrev c_cmp_Compare_int64_12 : List GOp := [oo 4 (.mv (ci 1))]
abbrev c_cmp_Compare_int64_13 : List GOp := [oo 4 (.mv (ci 0))]
abbrev c_cmp_Compare_int64 : GCode := .seq (.reg c_cmp_Compare_int64_0) (.seq (.reg c_cmp_Compare_int64_1) (.seq (.reg c_cmp_Compare_int64_2) (.seq (.seq (.reg c_cmp_Compare_int64_3) (.cond (tt 11) (.seq (.seq (.reg c_cmp_Compare_int64_4) (.cond (tt 12) (.seq (.reg c_cmp_Compare_int64_5) (.ret)) (.skip))) (.seq (.reg c_cmp_Compare_int64_6) (.ret))) (.skip))) (.seq (.seq (.reg c_cmp_Compare_int64_7) (.cond (tt 13) (.seq (.reg c_cmp_Compare_int64_8) (.ret)) (.skip))) (.seq (.seq (.reg c_cmp_Compare_int64_9) (.cond (tt 16) (.seq (.reg c_cmp_Compare_int64_10) (.ret)) (.skip))) (.seq (.seq (.reg c_cmp_Compare_int64_11) (.cond (tt 19) (.seq (.reg c_cmp_Compare_int64_12) (.ret)) (.skip))) (.seq (.reg c_cmp_Compare_int64_13) (.ret))))))))
theorem c_cmp_Compare_int64_d : decFn Try.prog Try.f218 = some (20, [.t 4], c_cmp_Compare_int64) := by kernel_rfl
theorem c_cmp_Compare_int64_i {args : List Value} {G : GH} {K : Value → GH → Prop} (hn : args.length ≤ 20) (h : gW Try.prog c_cmp_Compare_int64 (RetK [.t 4] K) (T0 args) G) : GC Try.prog 218 args G K := GC_intro mixed Try.func218 c_cmp_Compare_int64_d hn h
abbrev c_cmp_Or_int_0 : List GOp := [oo 2 (.mv (ci 0))]
abbrev c_cmp_Or_int_1 : List GOp := [oo 3 (.mv (ci 0))]
abbrev c_cmp_Or_int_2 : List GOp := [oo 6 (.mv (tt 0)), oo 7 (.len (tt 6)), oo 8 (.mv (ci 0))]
abbrev c_cmp_Or_int_3 : List GOp := [oo 9 (.bin .lss (tt 8) (tt 7))]
abbrev c_cmp_Or_int_4 : List GOp := [oo 10 (.ia 1 (tt 6) (tt 8)), oo 11 (.ld (tt 10)), oo 5 (.mv (tt 11))]
abbrev c_cmp_Or_int_5 : List GOp := [oo 12 (.mv (tt 5)), oo 13 (.mv (tt 3)), oo 14 (.bin .neq (tt 12) (tt 13))]
abbrev c_cmp_Or_int_6 : List GOp := [oo 15 (.mv (tt 5)), oo 2 (.mv (tt 15))]
abbrev c_cmp_Or_int_7 : List GOp := [oo 16 (.bin .add (tt 8) (ci 1)), oo 8 (.mv (tt 16))]
abbrev c_cmp_Or_int_l0 : GCode := .seq (.reg c_cmp_Or_int_3) (.seq (.cond (tt 9) (.skip) (.exit 0)) (.seq (.blk 1 (.seq (.reg c_cmp_Or_int_4) (.seq (.reg c_cmp_Or_int_5) (.cond (tt 14) (.seq (.reg c_cmp_Or_int_6) (.ret)) (.skip))))) (.reg c_cmp_Or_int_7)))
abbrev c_cmp_Or_int_9 : List GOp := [oo 17 (.mv (tt 3)), oo 2 (.mv (tt 17))]
abbrev c_cmp_Or_int : GCode := .seq (.reg c_cmp_Or_int_0) (.seq (.reg c_cmp_Or_int_1) (.seq (.seq (.reg c_cmp_Or_int_2) (.blk 0 (.loop c_cmp_Or_int_l0))) (.seq (.reg c_cmp_Or_int_9) (.ret))))
theorem c_cmp_Or_int_d : decFn Try.prog Try.f241 = some (18, [.t 2], c_cmp_Or_int) := by kernel_rfl
theorem c_cmp_Or_int_i {args : List Value} {G : GH} {K : Value → GH → Prop} (hn : args.length ≤ 18) (h : gW Try.prog c_cmp_Or_int (RetK [.t 2] K) (T0 args) G) : GC Try.prog 241 args G K := GC_intro mixed Try.func241 c_cmp_Or_int_d hn h
abbrev c_cmp_isNaN_int64_0 : List GOp := [oo 2 (.mv (cb  false))]
abbrev c_cmp_isNaN_int64_1 : List GOp := [oo 3 (.mv (tt 0)), oo 4 (.mv (tt 0)), oo 5 (.bin .neq (tt 3) (tt 4)), oo 2 (.mv (tt 5))]
abbrev c_cmp_isNaN_int64 : GCode := .seq (.reg c_cmp_isNaN_int64_0) (.seq (.reg c_cmp_isNaN_int64_1) (.ret))
theorem c_cmp_isNaN_int64_d : decFn Try.prog Try.f248 = some (6, [.t 2], c_cmp_isNaN_int64) := by kernel_rfl
theorem c_cmp_isNaN_int64_i {args : List Value} {G : GH} {K : Value → GH → Prop} (hn : args.length ≤ 6) (h : gW Try.prog c_cmp_isNaN_int64 (RetK [.t 2] K) (T0 args) G) : GC Try.prog 248 args G K := GC_intro mixed Try.func248 c_cmp_isNaN_int64_d hn h
abbrev c_impl_LightestCut_0 : List GOp := [oo 1 (.bx (tt 0)), oo 2 (.mv (.const (.slice none 0 0))), oo 3 (.mv (ci 0)), oo 4 (.mv (ci 0))]
abbrev c_impl_LightestCut_1 : List GOp := [oo 10 (.ldn 2 (tt 1)), oo 11 (.call (ff 141) [tt 10]), oo 12 (.un .not (tt 11))]
abbrev c_impl_LightestCut_2 : List GOp := [oo 2 (.mv (.const (.slice none 0 0))), oo 3 (.mv (ci 0)), oo 4 (.mv (ci 1))]
abbrev c_impl_LightestCut_3 : List GOp := [oo 13 (.fa 0 (tt 1)), oo 14 (.ld (tt 13)), oo 15 (.bin .eql (tt 14) (ci 1))]
abbrev c_impl_LightestCut_4 : List GOp := [oo 2 (.mv (.const (.slice none 0 0))), oo 3 (.mv (ci 0)), oo 4 (.mv (ci 6))]
abbrev c_impl_LightestCut_5 : List GOp := [oo 5 (.mv (.const (.slice none 0 0)))]
abbrev c_impl_LightestCut_6 : List GOp := [oo 6 (.mv (ci 0))]
abbrev c_impl_LightestCut_7 : List GOp := [oo 7 (.mv (ci 1))]
abbrev c_impl_LightestCut_8 : List GOp := [oo 16 (.mv (tt 7)), oo 17 (.fa 0 (tt 1)), oo 18 (.ld (tt 17)), oo 19 (.bin .shl (ci 1) (tt 18)), oo 20 (.bin .sub (tt 19) (ci 1)), oo 21 (.bin .lss (tt 16) (tt 20))]
abbrev c_impl_LightestCut_9 : List GOp := [oo 24 (.mv (tt 7)), oo 25 (.call (ff 142) [tt 24]), oo 8 (.mv (tt 25))]
abbrev c_impl_LightestCut_10 : List GOp := [oo 26 (.ldn 2 (tt 1)), oo 27 (.mv (tt 8)), oo 28 (.call (ff 143) [tt 26, tt 27]), oo 9 (.mv (tt 28))]
abbrev c_impl_LightestCut_11 : List GOp := [oo 29 (.mv (tt 5)), oo 30 (.eqs false (tt 29) (.const (.slice none 0 0))), oo 31 (.mv (tt 30)), og 32 31 false (.mv (tt 9)), og 33 31 false (.mv (tt 6)), og 34 31 false (.bin .lss (tt 32) (tt 33)), oo 35 (.pick (tt 31) (cb  true) (tt 34)), oo 36 (.mv (tt 35)), og 37 36 false (.mv (tt 9)), og 38 36 false (.mv (tt 6)), og 39 36 false (.bin .eql (tt 37) (tt 38)), og 40 36 false (.mv (tt 39)), og 41 40 true (.mv (tt 8)), og 42 40 true (.mv (tt 5)), og 43 40 true (.call (ff 144) [tt 41, tt 42]), og 44 40 true (.bin .lss (tt 43) (ci 0)), og 45 36 false (.pick (tt 40) (tt 44) (cb  false)), oo 46 (.pick (tt 36) (cb  true) (tt 45))]
abbrev c_impl_LightestCut_12 : List GOp := [oo 47 (.mv (tt 8)), oo 48 (.mv (tt 9)), oo 5 (.mv (tt 47)), oo 6 (.mv (tt 48))]
abbrev c_impl_LightestCut_13 : List GOp := [oo 22 (.mv (tt 7)), oo 23 (.bin .add (tt 22) (ci 2)), oo 7 (.mv (tt 23))]
abbrev c_impl_LightestCut_l0 : GCode := .seq (.seq (.reg c_impl_LightestCut_8) (.cond (tt 21) (.skip) (.exit 0))) (.seq (.blk 1 (.seq (.reg c_impl_LightestCut_9) (.seq (.reg c_impl_LightestCut_10) (.seq (.reg c_impl_LightestCut_11) (.cond (tt 46) (.reg c_impl_LightestCut_12) (.skip)))))) (.reg c_impl_LightestCut_13))
abbrev c_impl_LightestCut_15 : List GOp := [oo 49 (.mv (tt 5)), oo 50 (.mv (tt 6)), oo 2 (.mv (tt 49)), oo 3 (.mv (tt 50)), oo 4 (.mv (ci 0))]
abbrev c_impl_LightestCut : GCode := .seq (.reg c_impl_LightestCut_0) (.seq (.seq (.reg c_impl_LightestCut_1) (.cond (tt 12) (.seq (.reg c_impl_LightestCut_2) (.ret)) (.skip))) (.seq (.seq (.reg c_impl_LightestCut_3) (.cond (tt 15) (.seq (.reg c_impl_LightestCut_4) (.ret)) (.skip))) (.seq (.reg c_impl_LightestCut_5) (.seq (.reg c_impl_LightestCut_6) (.seq (.seq (.reg c_impl_LightestCut_7) (.blk 0 (.loop c_impl_LightestCut_l0))) (.seq (.reg c_impl_LightestCut_15) (.ret)))))))
theorem c_impl_LightestCut_d : decFn Try.prog Try.f55 = some (51, [.t 2, .t 3, .t 4], c_impl_LightestCut) := by kernel_rfl
theorem c_impl_LightestCut_i {args : List Value} {G : GH} {K : Value → GH → Prop} (hn : args.length ≤ 51) (h : gW Try.prog c_impl_LightestCut (RetK [.t 2, .t 3, .t 4] K) (T0 args) G) : GC Try.prog 55 args G K := GC_intro mixed Try.func55 c_impl_LightestCut_d hn h
abbrev c_impl_ValidGraph_0 : List GOp := [oo 1 (.bx (tt 0)), oo 2 (.mv (cb  false))]
abbrev c_impl_ValidGraph_1 : List GOp := [oo 5 (.fa 1 (tt 1)), oo 6 (.ld (tt 5)), oo 7 (.len (tt 6)), oo 8 (.mv (ci 0))]
abbrev c_impl_ValidGraph_2 : List GOp := [oo 9 (.bin .lss (tt 8) (tt 7))]
abbrev c_impl_ValidGraph_3 : List GOp := [oo 10 (.mv (tt 8)), oo 11 (.ia 3 (tt 6) (tt 8)), oo 12 (.ldn 3 (tt 11)), oo 4 (.al [.int .i64 0, .int .i64 0, .int .i64 0]), oo 3 (.mv (tt 10)), on (.st 3 (tt 4) (tt 12))]
abbrev c_impl_ValidGraph_4 : List DOp := [dl 0 (oo 13 (.fa 0 (tt 4))), dl 1 (oo 14 (.ld (tt 13))), dl 2 (oo 15 (.bin .lss (tt 14) (ci 0))), dl 3 (oo 16 (.mv (tt 15))), dl 4 (og 17 16 false (.fa 0 (tt 4))), dl 5 (og 18 16 false (.ld (tt 17))), dl 6 (og 19 16 false (.fa 1 (tt 4))), dl 7 (og 20 16 false (.ld (tt 19))), dl 8 (og 21 16 false (.bin .geq (tt 18) (tt 20))), dl 9 (oo 22 (.pick (tt 16) (cb  true) (tt 21))), dl 10 (oo 23 (.mv (tt 22))), dl 11 (og 24 23 false (.fa 1 (tt 4))), dl 12 (og 25 23 false (.ld (tt 24))), dl 13 (og 26 23 false (.fa 0 (tt 1))), dl 14 (og 27 23 false (.ld (tt 26))), dl 15 (og 28 23 false (.bin .geq (tt 25) (tt 27))), dl 16 (oo 29 (.pick (tt 23) (cb  true) (tt 28))), dl 17 (oo 30 (.mv (tt 29))), dl 18 (og 31 30 false (.fa 2 (tt 4))), dl 19 (og 32 30 false (.ld (tt 31))), dh 20 [14, 12, 7, 5, 1] (og 33 30 false (.call (ff 122) [tt 32, (ci 1), (ci 9)])), dl 21 (og 34 30 false (.un .not (tt 33))), dl 22 (oo 35 (.pick (tt 30) (cb  true) (tt 34))), dl 23 (oo 36 (.mv (tt 35))), dl 24 (og 37 36 false (.mv (tt 3))), dl 25 (og 38 36 false (.bin .gtr (tt 37) (ci 0))), dl 26 (og 39 36 false (.mv (tt 38))), dl 27 (og 40 39 true (.fa 1 (tt 1))), dl 28 (og 41 39 true (.ld (tt 40))), dl 29 (og 42 39 true (.mv (tt 3))), dl 30 (og 43 39 true (.bin .sub (tt 42) (ci 1))), dl 31 (og 44 39 true (.ia 3 (tt 41) (tt 43))), dl 32 (og 45 39 true (.ldn 3 (tt 44))), dl 33 (og 46 39 true (.ldn 3 (tt 4))), dh 34 [28, 19, 14, 12, 7, 5, 1] (og 47 39 true (.call (ff 217) [tt 45, tt 46])), dl 35 (og 48 39 true (.bin .geq (tt 47) (ci 0))), dl 36 (og 49 36 false (.pick (tt 39) (tt 48) (cb  false))), dl 37 (oo 50 (.pick (tt 36) (cb  true) (tt 49)))]
abbrev c_impl_ValidGraph_5 : List GOp := [oo 2 (.mv (cb  false))]
abbrev c_impl_ValidGraph_6 : List GOp := [oo 51 (.bin .add (tt 8) (ci 1)), oo 8 (.mv (tt 51))]
abbrev c_impl_ValidGraph_l0 : GCode := .seq (.reg c_impl_ValidGraph_2) (.seq (.cond (tt 9) (.skip) (.exit 0)) (.seq (.blk 1 (.seq (.reg c_impl_ValidGraph_3) (.seq (.dreg c_impl_ValidGraph_4) (.cond (tt 50) (.seq (.reg c_impl_ValidGraph_5) (.ret)) (.skip))))) (.reg c_impl_ValidGraph_6)))
abbrev c_impl_ValidGraph_8 : List GOp := [oo 52 (.fa 0 (tt 1)), oo 53 (.ld (tt 52)), oo 54 (.call (ff 122) [tt 53, (ci 1), (ci 12)]), oo 55 (.mv (tt 54)), og 56 55 true (.fa 1 (tt 1)), og 57 55 true (.ld (tt 56)), og 58 55 true (.len (tt 57)), og 59 55 true (.bin .leq (tt 58) (ci 24)), oo 60 (.pick (tt 55) (tt 59) (cb  false)), oo 2 (.mv (tt 60))]
abbrev c_impl_ValidGraph : GCode := .seq (.reg c_impl_ValidGraph_0) (.seq (.seq (.reg c_impl_ValidGraph_1) (.blk 0 (.loop c_impl_ValidGraph_l0))) (.seq (.reg c_impl_ValidGraph_8) (.ret)))
theorem c_impl_ValidGraph_d : decFn Try.prog Try.f141 = some (61, [.t 2], c_impl_ValidGraph) := by kernel_rfl
theorem c_impl_ValidGraph_i {args : List Value} {G : GH} {K : Value → GH → Prop} (hn : args.length ≤ 61) (h : gW Try.prog c_impl_ValidGraph (RetK [.t 2] K) (T0 args) G) : GC Try.prog 141 args G K := GC_intro mixed Try.func141 c_impl_ValidGraph_d hn h
abbrev c_impl_compareEdges_0 : List GOp := [oo 2 (.bx (tt 0)), oo 3 (.bx (tt 1)), oo 4 (.mv (ci 0))]
abbrev c_impl_compareEdges_1 : List DOp := [dl 0 (oo 5 (.fa 0 (tt 2))), dl 1 (oo 6 (.ld (tt 5))), dl 2 (oo 7 (.fa 0 (tt 3))), dl 3 (oo 8 (.ld (tt 7))), dl 5 (oo 10 (.fa 1 (tt 2))), dl 6 (oo 11 (.ld (tt 10))), dl 7 (oo 12 (.fa 1 (tt 3))), dl 8 (oo 13 (.ld (tt 12))), dh 4 [8, 6] (oo 9 (.call (ff 218) [tt 6, tt 8])), dh 9 [3, 1] (oo 14 (.call (ff 218) [tt 11, tt 13])), dh 10 [8, 6, 3, 1] (oo 15 (.bs 1 [tt 9, tt 14])), dh 11 [8, 6, 3, 1] (oo 16 (.call (ff 241) [tt 15])), dl 12 (oo 4 (.mv (tt 16)))]
abbrev c_impl_compareEdges : GCode := .seq (.reg c_impl_compareEdges_0) (.seq (.dreg c_impl_compareEdges_1) (.ret))
theorem c_impl_compareEdges_d : decFn Try.prog Try.f217 = some (17, [.t 4], c_impl_compareEdges) := by kernel_rfl
theorem c_impl_compareEdges_i {args : List Value} {G : GH} {K : Value → GH → Prop} (hn : args.length ≤ 17) (h : gW Try.prog c_impl_compareEdges (RetK [.t 4] K) (T0 args) G) : GC Try.prog 217 args G K := GC_intro mixed Try.func217 c_impl_compareEdges_d hn h
abbrev c_impl_cutWeight_0 : List GOp := [oo 2 (.bx (tt 0)), oo 4 (.mv (ci 0))]
abbrev c_impl_cutWeight_1 : List GOp := [oo 5 (.mv (ci 0))]
abbrev c_impl_cutWeight_2 : List GOp := [oo 8 (.fa 1 (tt 2)), oo 9 (.ld (tt 8)), oo 10 (.len (tt 9)), oo 11 (.mv (ci 0))]
abbrev c_impl_cutWeight_3 : List GOp := [oo 12 (.bin .lss (tt 11) (tt 10))]
abbrev c_impl_cutWeight_4 : List GOp := [oo 13 (.ia 3 (tt 9) (tt 11)), oo 14 (.ldn 3 (tt 13)), oo 7 (.al [.int .i64 0, .int .i64 0, .int .i64 0]), on (.st 3 (tt 7) (tt 14))]
abbrev c_impl_cutWeight_5 : List DOp := [dl 0 (oo 15 (.mv (tt 1))), dl 1 (oo 16 (.fa 0 (tt 7))), dl 2 (oo 17 (.ld (tt 16))), dl 4 (oo 19 (.mv (tt 1))), dl 5 (oo 20 (.fa 1 (tt 7))), dl 6 (oo 21 (.ld (tt 20))), dh 3 [6] (oo 18 (.call (ff 137) [tt 15, tt 17])), dh 7 [2] (oo 22 (.call (ff 137) [tt 19, tt 21])), dl 8 (oo 23 (.eqb true (tt 18) (tt 22)))]
abbrev c_impl_cutWeight_6 : List GOp := [oo 24 (.mv (tt 5)), oo 25 (.fa 2 (tt 7)), oo 26 (.ld (tt 25)), oo 27 (.bin .add (tt 24) (tt 26)), oo 5 (.mv (tt 27))]
abbrev c_impl_cutWeight_7 : List GOp := [oo 28 (.bin .add (tt 11) (ci 1)), oo 11 (.mv (tt 28))]
abbrev c_impl_cutWeight_l0 : GCode := .seq (.reg c_impl_cutWeight_3) (.seq (.cond (tt 12) (.skip) (.exit 0)) (.seq (.blk 1 (.seq (.reg c_impl_cutWeight_4) (.seq (.dreg c_impl_cutWeight_5) (.cond (tt 23) (.reg c_impl_cutWeight_6) (.skip))))) (.reg c_impl_cutWeight_7)))
abbrev c_impl_cutWeight_9 : List GOp := [oo 29 (.mv (tt 5)), oo 4 (.mv (tt 29))]
abbrev c_impl_cutWeight : GCode := .seq (.reg c_impl_cutWeight_0) (.seq (.reg c_impl_cutWeight_1) (.seq (.seq (.reg c_impl_cutWeight_2) (.blk 0 (.loop c_impl_cutWeight_l0))) (.seq (.reg c_impl_cutWeight_9) (.ret))))
theorem c_impl_cutWeight_d : decFn Try.prog Try.f143 = some (30, [.t 4], c_impl_cutWeight) := by kernel_rfl
theorem c_impl_cutWeight_i {args : List Value} {G : GH} {K : Value → GH → Prop} (hn : args.length ≤ 30) (h : gW Try.prog c_impl_cutWeight (RetK [.t 4] K) (T0 args) G) : GC Try.prog 143 args G K := GC_intro mixed Try.func143 c_impl_cutWeight_d hn h
abbrev c_impl_members_0 : List GOp := [oo 2 (.mv (.const (.slice none 0 0)))]
abbrev c_impl_members_1 : List GOp := [oo 3 (.mv (.const (.slice none 0 0)))]
abbrev c_impl_members_2 : List GOp := [oo 4 (.mv (ci 0))]
abbrev c_impl_members_3 : List GOp := [oo 5 (.mv (tt 0)), oo 6 (.mv (tt 4)), oo 7 (.bin .shr (tt 5) (tt 6)), oo 8 (.bin .gtr (tt 7) (ci 0))]
abbrev c_impl_members_4 : List GOp := [oo 11 (.mv (tt 0)), oo 12 (.mv (tt 4)), oo 13 (.bin .shr (tt 11) (tt 12)), oo 14 (.bin .and (tt 13) (ci 1)), oo 15 (.bin .eql (tt 14) (ci 1))]
abbrev c_impl_members_5 : List GOp := [oo 16 (.mv (tt 3)), oo 17 (.mv (tt 4)), oo 18 (.bs 1 [tt 17]), oo 19 (.ap 1 8 [.int .i64 0] (tt 16) (tt 18)), oo 3 (.mv (tt 19))]
abbrev c_impl_members_6 : List GOp := [oo 9 (.mv (tt 4)), oo 10 (.bin .add (tt 9) (ci 1)), oo 4 (.mv (tt 10))]
abbrev c_impl_members_l0 : GCode := .seq (.seq (.reg c_impl_members_3) (.cond (tt 8) (.skip) (.exit 0))) (.seq (.blk 1 (.seq (.reg c_impl_members_4) (.cond (tt 15) (.reg c_impl_members_5) (.skip)))) (.reg c_impl_members_6))
abbrev c_impl_members_8 : List GOp := [oo 20 (.mv (tt 3)), oo 2 (.mv (tt 20))]
abbrev c_impl_members : GCode := .seq (.reg c_impl_members_0) (.seq (.reg c_impl_members_1) (.seq (.seq (.reg c_impl_members_2) (.blk 0 (.loop c_impl_members_l0))) (.seq (.reg c_impl_members_8) (.ret))))
theorem c_impl_members_d : decFn Try.prog Try.f142 = some (21, [.t 2], c_impl_members) := by kernel_rfl
theorem c_impl_members_i {args : List Value} {G : GH} {K : Value → GH → Prop} (hn : args.length ≤ 21) (h : gW Try.prog c_impl_members (RetK [.t 2] K) (T0 args) G) : GC Try.prog 142 args G K := GC_intro mixed Try.func142 c_impl_members_d hn h
abbrev c_impl_within_0 : List GOp := [oo 6 (.mv (cb  false))]
abbrev c_impl_within_1 : List GOp := [oo 7 (.mv (tt 0)), oo 8 (.mv (tt 1)), oo 9 (.bin .geq (tt 7) (tt 8)), oo 10 (.mv (tt 9)), og 11 10 true (.mv (tt 0)), og 12 10 true (.mv (tt 2)), og 13 10 true (.bin .leq (tt 11) (tt 12)), oo 14 (.pick (tt 10) (tt 13) (cb  false)), oo 6 (.mv (tt 14))]
abbrev c_impl_within : GCode := .seq (.reg c_impl_within_0) (.seq (.reg c_impl_within_1) (.ret))
theorem c_impl_within_d : decFn Try.prog Try.f122 = some (15, [.t 6], c_impl_within) := by kernel_rfl
theorem c_impl_within_i {args : List Value} {G : GH} {K : Value → GH → Prop} (hn : args.length ≤ 15) (h : gW Try.prog c_impl_within (RetK [.t 6] K) (T0 args) G) : GC Try.prog 122 args G K := GC_intro mixed Try.func122 c_impl_within_d hn h
abbrev c_laws_FnExactLightestCut_0 : List GOp := [oo 1 (.bx (tt 0)), oo 2 (.mv (cb  false))]
abbrev c_laws_FnExactLightestCut_1 : List GOp := [oo 3 (.mv (ci 1048576))]
abbrev c_laws_FnExactLightestCut_2 : List GOp := [oo 17 (.ldn 2 (tt 1)), oo 18 (.mv (tt 3)), oo 19 (.call (ff 26) [tt 17, tt 18]), oo 3 (.mv (tt 19))]
abbrev c_laws_FnExactLightestCut_3 : List GOp := [oo 20 (.mv (tt 3)), oo 21 (.bin .lss (tt 20) (ci 0))]
abbrev c_laws_FnExactLightestCut_4 : List GOp := [oo 2 (.mv (cb  true))]
abbrev c_laws_FnExactLightestCut_5 : List GOp := [oo 23 (.ldn 2 (tt 1)), oo 24 (.call (ff 28) [tt 23]), oo 25 (.call (ff 54) [tt 24]), oo 22 (.mv (tt 25)), oo 26 (.ex 0 (tt 22)), oo 27 (.ex 1 (tt 22)), oo 28 (.ex 2 (tt 22)), oo 4 (.mv (tt 26)), oo 5 (.mv (tt 27)), oo 6 (.mv (tt 28))]
abbrev c_laws_FnExactLightestCut_6 : List GOp := [oo 29 (.ldn 2 (tt 1)), oo 30 (.call (ff 28) [tt 29]), oo 7 (.al [.int .i64 0, .slice none 0 0]), on (.st 2 (tt 7) (tt 30))]
abbrev c_laws_FnExactLightestCut_7 : List GOp := [oo 32 (.ldn 2 (tt 7)), oo 33 (.call (ff 55) [tt 32]), oo 31 (.mv (tt 33)), oo 34 (.ex 0 (tt 31)), oo 35 (.ex 1 (tt 31)), oo 36 (.ex 2 (tt 31)), oo 8 (.mv (tt 34)), oo 9 (.mv (tt 35)), oo 10 (.mv (tt 36))]
abbrev c_laws_FnExactLightestCut_8 : List GOp := [oo 37 (.mv (tt 8)), oo 38 (.mv (tt 4)), oo 39 (.call (ff 31) [tt 37, tt 38]), oo 40 (.un .not (tt 39)), oo 41 (.mv (tt 40)), og 42 41 false (.mv (tt 9)), og 43 41 false (.mv (tt 5)), og 44 41 false (.bin .neq (tt 42) (tt 43)), oo 45 (.pick (tt 41) (cb  true) (tt 44)), oo 46 (.mv (tt 45)), og 47 46 false (.mv (tt 10)), og 48 46 false (.mv (tt 6)), og 49 46 false (.bin .neq (tt 47) (tt 48)), oo 50 (.pick (tt 46) (cb  true) (tt 49))]
abbrev c_laws_FnExactLightestCut_9 : List GOp := [oo 2 (.mv (cb  false))]
abbrev c_laws_FnExactLightestCut_10 : List DOp := [dl 0 (oo 51 (.ldn 2 (tt 7))), dl 1 (oo 52 (.ldn 2 (tt 1))), dh 2 [0] (oo 53 (.call (ff 28) [tt 52])), dh 3 [1] (oo 54 (.call (ff 32) [tt 51, tt 53])), dl 4 (oo 55 (.un .not (tt 54)))]
abbrev c_laws_FnExactLightestCut_11 : List GOp := [oo 2 (.mv (cb  false))]
abbrev c_laws_FnExactLightestCut_12 : List GOp := [oo 11 (.mv (ci 1))]
abbrev c_laws_FnExactLightestCut_13 : List GOp := [oo 56 (.ldn 2 (tt 7)), oo 57 (.mv (tt 11)), oo 58 (.call (ff 33) [tt 56, tt 57]), oo 11 (.mv (tt 58))]
abbrev c_laws_FnExactLightestCut_14 : List GOp := [oo 59 (.mv (tt 11)), oo 60 (.bin .lss (tt 59) (ci 0)), oo 61 (.mv (tt 60)), og 62 61 false (.mv (tt 8)), og 63 61 false (.mv (tt 4)), og 64 61 false (.call (ff 31) [tt 62, tt 63]), og 65 61 false (.un .not (tt 64)), oo 66 (.pick (tt 61) (cb  true) (tt 65)), oo 67 (.mv (tt 66)), og 68 67 false (.mv (tt 9)), og 69 67 false (.mv (tt 5)), og 70 67 false (.bin .neq (tt 68) (tt 69)), oo 71 (.pick (tt 67) (cb  true) (tt 70)), oo 72 (.mv (tt 71)), og 73 72 false (.mv (tt 10)), og 74 72 false (.mv (tt 6)), og 75 72 false (.bin .neq (tt 73) (tt 74)), oo 76 (.pick (tt 72) (cb  true) (tt 75))]
abbrev c_laws_FnExactLightestCut_15 : List GOp := [oo 2 (.mv (cb  false))]
abbrev c_laws_FnExactLightestCut_16 : List GOp := [oo 12 (.mv (ci 1))]
abbrev c_laws_FnExactLightestCut_17 : List GOp := [oo 77 (.mv (tt 8)), oo 78 (.mv (tt 12)), oo 79 (.call (ff 34) [tt 77, tt 78]), oo 12 (.mv (tt 79))]
abbrev c_laws_FnExactLightestCut_18 : List GOp := [oo 13 (.mv (ci 1))]
abbrev c_laws_FnExactLightestCut_19 : List GOp := [oo 80 (.mv (tt 8)), oo 81 (.mv (tt 13)), oo 82 (.call (ff 35) [tt 80, tt 81]), oo 13 (.mv (tt 82))]
abbrev c_laws_FnExactLightestCut_20 : List GOp := [oo 83 (.mv (tt 13)), oo 84 (.bin .lss (tt 83) (ci 0))]
abbrev c_laws_FnExactLightestCut_21 : List GOp := [oo 2 (.mv (cb  false))]
abbrev c_laws_FnExactLightestCut_22 : List GOp := [oo 85 (.mv (tt 13)), oo 86 (.mv (tt 12)), oo 87 (.bin .neq (tt 85) (tt 86))]
abbrev c_laws_FnExactLightestCut_23 : List GOp := [oo 2 (.mv (cb  false))]
abbrev c_laws_FnExactLightestCut_24 : List GOp := [oo 89 (.ldn 2 (tt 1)), oo 90 (.call (ff 28) [tt 89]), oo 91 (.call (ff 55) [tt 90]), oo 88 (.mv (tt 91)), oo 92 (.ex 0 (tt 88)), oo 93 (.ex 1 (tt 88)), oo 94 (.ex 2 (tt 88)), oo 14 (.mv (tt 92)), oo 15 (.mv (tt 93)), oo 16 (.mv (tt 94))]
abbrev c_laws_FnExactLightestCut_25 : List GOp := [oo 95 (.mv (tt 14)), oo 96 (.mv (tt 4)), oo 97 (.call (ff 31) [tt 95, tt 96]), oo 98 (.un .not (tt 97)), oo 99 (.mv (tt 98)), og 100 99 false (.mv (tt 15)), og 101 99 false (.mv (tt 5)), og 102 99 false (.bin .neq (tt 100) (tt 101)), oo 103 (.pick (tt 99) (cb  true) (tt 102)), oo 104 (.mv (tt 103)), og 105 104 false (.mv (tt 16)), og 106 104 false (.mv (tt 6)), og 107 104 false (.bin .neq (tt 105) (tt 106)), oo 108 (.pick (tt 104) (cb  true) (tt 107))]
abbrev c_laws_FnExactLightestCut_26 : List GOp := [oo 2 (.mv (cb  false))]
abbrev c_laws_FnExactLightestCut_27 : List GOp := [oo 13 (.mv (ci 1))]
abbrev c_laws_FnExactLightestCut_28 : List GOp := [oo 109 (.mv (tt 8)), oo 110 (.mv (tt 13)), oo 111 (.call (ff 35) [tt 109, tt 110]), oo 13 (.mv (tt 111))]
abbrev c_laws_FnExactLightestCut_29 : List GOp := [oo 112 (.mv (tt 13)), oo 113 (.bin .lss (tt 112) (ci 0))]
abbrev c_laws_FnExactLightestCut_30 : List GOp := [oo 2 (.mv (cb  false))]
abbrev c_laws_FnExactLightestCut_31 : List GOp := [oo 114 (.mv (tt 13)), oo 115 (.mv (tt 12)), oo 116 (.bin .neq (tt 114) (tt 115))]
abbrev c_laws_FnExactLightestCut_32 : List GOp := [oo 2 (.mv (cb  false))]
abbrev c_laws_FnExactLightestCut_33 : List GOp := [oo 2 (.mv (cb  true))]
abbrev c_laws_FnExactLightestCut : GCode := .seq (.reg c_laws_FnExactLightestCut_0) (.seq (.reg c_laws_FnExactLightestCut_1) (.seq (.reg c_laws_FnExactLightestCut_2) (.seq (.seq (.reg c_laws_FnExactLightestCut_3) (.cond (tt 21) (.seq (.reg c_laws_FnExactLightestCut_4) (.ret)) (.skip))) (.seq (.reg c_laws_FnExactLightestCut_5) (.seq (.reg c_laws_FnExactLightestCut_6) (.seq (.reg c_laws_FnExactLightestCut_7) (.seq (.seq (.reg c_laws_FnExactLightestCut_8) (.cond (tt 50) (.seq (.reg c_laws_FnExactLightestCut_9) (.ret)) (.skip))) (.seq (.seq (.dreg c_laws_FnExactLightestCut_10) (.cond (tt 55) (.seq (.reg c_laws_FnExactLightestCut_11) (.ret)) (.skip))) (.seq (.reg c_laws_FnExactLightestCut_12) (.seq (.reg c_laws_FnExactLightestCut_13) (.seq (.seq (.reg c_laws_FnExactLightestCut_14) (.cond (tt 76) (.seq (.reg c_laws_FnExactLightestCut_15) (.ret)) (.skip))) (.seq (.reg c_laws_FnExactLightestCut_16) (.seq (.reg c_laws_FnExactLightestCut_17) (.seq (.reg c_laws_FnExactLightestCut_18) (.seq (.reg c_laws_FnExactLightestCut_19) (.seq (.seq (.reg c_laws_FnExactLightestCut_20) (.cond (tt 84) (.seq (.reg c_laws_FnExactLightestCut_21) (.ret)) (.skip))) (.seq (.seq (.reg c_laws_FnExactLightestCut_22) (.cond (tt 87) (.seq (.reg c_laws_FnExactLightestCut_23) (.ret)) (.skip))) (.seq (.reg c_laws_FnExactLightestCut_24) (.seq (.seq (.reg c_laws_FnExactLightestCut_25) (.cond (tt 108) (.seq (.reg c_laws_FnExactLightestCut_26) (.ret)) (.skip))) (.seq (.reg c_laws_FnExactLightestCut_27) (.seq (.reg c_laws_FnExactLightestCut_28) (.seq (.seq (.reg c_laws_FnExactLightestCut_29) (.cond (tt 113) (.seq (.reg c_laws_FnExactLightestCut_30) (.ret)) (.skip))) (.seq (.seq (.reg c_laws_FnExactLightestCut_31) (.cond (tt 116) (.seq (.reg c_laws_FnExactLightestCut_32) (.ret)) (.skip))) (.seq (.reg c_laws_FnExactLightestCut_33) (.ret)))))))))))))))))))))))))
theorem c_laws_FnExactLightestCut_d : decFn Try.prog Try.f13 = some (117, [.t 2], c_laws_FnExactLightestCut) := by kernel_rfl
theorem c_laws_FnExactLightestCut_i {args : List Value} {G : GH} {K : Value → GH → Prop} (hn : args.length ≤ 117) (h : gW Try.prog c_laws_FnExactLightestCut (RetK [.t 2] K) (T0 args) G) : GC Try.prog 13 args G K := GC_intro mixed Try.func13 c_laws_FnExactLightestCut_d hn h
abbrev c_laws_eqEdge_0 : List GOp := [oo 2 (.bx (tt 0)), oo 3 (.bx (tt 1)), oo 4 (.mv (cb  false))]
abbrev c_laws_eqEdge_1 : List GOp := [oo 5 (.fa 0 (tt 2)), oo 6 (.ld (tt 5)), oo 7 (.fa 0 (tt 3)), oo 8 (.ld (tt 7)), oo 9 (.bin .neq (tt 6) (tt 8))]
abbrev c_laws_eqEdge_2 : List GOp := [oo 4 (.mv (cb  false))]
abbrev c_laws_eqEdge_3 : List GOp := [oo 10 (.fa 1 (tt 2)), oo 11 (.ld (tt 10)), oo 12 (.fa 1 (tt 3)), oo 13 (.ld (tt 12)), oo 14 (.bin .neq (tt 11) (tt 13))]
abbrev c_laws_eqEdge_4 : List GOp := [oo 4 (.mv (cb  false))]
abbrev c_laws_eqEdge_5 : List GOp := [oo 15 (.fa 2 (tt 2)), oo 16 (.ld (tt 15)), oo 17 (.fa 2 (tt 3)), oo 18 (.ld (tt 17)), oo 19 (.bin .neq (tt 16) (tt 18))]
abbrev c_laws_eqEdge_6 : List GOp := [oo 4 (.mv (cb  false))]
abbrev c_laws_eqEdge_7 : List GOp := [oo 4 (.mv (cb  true))]
abbrev c_laws_eqEdge : GCode := .seq (.reg c_laws_eqEdge_0) (.seq (.seq (.reg c_laws_eqEdge_1) (.cond (tt 9) (.seq (.reg c_laws_eqEdge_2) (.ret)) (.skip))) (.seq (.seq (.reg c_laws_eqEdge_3) (.cond (tt 14) (.seq (.reg c_laws_eqEdge_4) (.ret)) (.skip))) (.seq (.seq (.reg c_laws_eqEdge_5) (.cond (tt 19) (.seq (.reg c_laws_eqEdge_6) (.ret)) (.skip))) (.seq (.reg c_laws_eqEdge_7) (.ret)))))
theorem c_laws_eqEdge_d : decFn Try.prog Try.f203 = some (20, [.t 4], c_laws_eqEdge) := by kernel_rfl
theorem c_laws_eqEdge_i {args : List Value} {G : GH} {K : Value → GH → Prop} (hn : args.length ≤ 20) (h : gW Try.prog c_laws_eqEdge (RetK [.t 4] K) (T0 args) G) : GC Try.prog 203 args G K := GC_intro mixed Try.func203 c_laws_eqEdge_d hn h
abbrev c_laws_eqEdgeS_0 : List GOp := [oo 4 (.mv (cb  false))]
abbrev c_laws_eqEdgeS_1 : List GOp := [oo 6 (.mv (tt 0)), oo 7 (.len (tt 6)), oo 8 (.mv (tt 1)), oo 9 (.len (tt 8)), oo 10 (.bin .neq (tt 7) (tt 9))]
abbrev c_laws_eqEdgeS_2 : List GOp := [oo 4 (.mv (cb  false))]
abbrev c_laws_eqEdgeS_3 : List GOp := [oo 5 (.mv (ci 0))]
abbrev c_laws_eqEdgeS_4 : List GOp := [oo 11 (.mv (tt 5)), oo 12 (.mv (tt 0)), oo 13 (.len (tt 12)), oo 14 (.bin .lss (tt 11) (tt 13))]
abbrev c_laws_eqEdgeS_5 : List DOp := [dl 0 (oo 17 (.mv (tt 0))), dl 1 (oo 18 (.mv (tt 5))), dl 2 (oo 19 (.ia 3 (tt 17) (tt 18))), dl 3 (oo 20 (.ldn 3 (tt 19))), dl 4 (oo 21 (.mv (tt 1))), dl 5 (oo 22 (.mv (tt 5))), dl 6 (oo 23 (.ia 3 (tt 21) (tt 22))), dl 7 (oo 24 (.ldn 3 (tt 23))), dh 8 [] (oo 25 (.call (ff 203) [tt 20, tt 24])), dl 9 (oo 26 (.un .not (tt 25)))]
abbrev c_laws_eqEdgeS_6 : List GOp := [oo 4 (.mv (cb  false))]
abbrev c_laws_eqEdgeS_7 : List GOp := [oo 15 (.mv (tt 5)), oo 16 (.bin .add (tt 15) (ci 1)), oo 5 (.mv (tt 16))]
abbrev c_laws_eqEdgeS_l0 : GCode := .seq (.seq (.reg c_laws_eqEdgeS_4) (.cond (tt 14) (.skip) (.exit 0))) (.seq (.blk 1 (.seq (.dreg c_laws_eqEdgeS_5) (.cond (tt 26) (.seq (.reg c_laws_eqEdgeS_6) (.ret)) (.skip)))) (.reg c_laws_eqEdgeS_7))
abbrev c_laws_eqEdgeS_9 : List GOp := [oo 4 (.mv (cb  true))]
abbrev c_laws_eqEdgeS : GCode := .seq (.reg c_laws_eqEdgeS_0) (.seq (.seq (.reg c_laws_eqEdgeS_1) (.cond (tt 10) (.seq (.reg c_laws_eqEdgeS_2) (.ret)) (.skip))) (.seq (.seq (.reg c_laws_eqEdgeS_3) (.blk 0 (.loop c_laws_eqEdgeS_l0))) (.seq (.reg c_laws_eqEdgeS_9) (.ret))))
theorem c_laws_eqEdgeS_d : decFn Try.prog Try.f105 = some (27, [.t 4], c_laws_eqEdgeS) := by kernel_rfl
theorem c_laws_eqEdgeS_i {args : List Value} {G : GH} {K : Value → GH → Prop} (hn : args.length ≤ 27) (h : gW Try.prog c_laws_eqEdgeS (RetK [.t 4] K) (T0 args) G) : GC Try.prog 105 args G K := GC_intro mixed Try.func105 c_laws_eqEdgeS_d hn h
abbrev c_laws_eqGraph_0 : List GOp := [oo 2 (.bx (tt 0)), oo 3 (.bx (tt 1)), oo 4 (.mv (cb  false))]
abbrev c_laws_eqGraph_1 : List GOp := [oo 5 (.fa 0 (tt 2)), oo 6 (.ld (tt 5)), oo 7 (.fa 0 (tt 3)), oo 8 (.ld (tt 7)), oo 9 (.bin .neq (tt 6) (tt 8))]
abbrev c_laws_eqGraph_2 : List GOp := [oo 4 (.mv (cb  false))]
abbrev c_laws_eqGraph_3 : List GOp := [oo 10 (.fa 1 (tt 2)), oo 11 (.ld (tt 10)), oo 12 (.fa 1 (tt 3)), oo 13 (.ld (tt 12)), oo 14 (.call (ff 105) [tt 11, tt 13]), oo 15 (.un .not (tt 14))]
abbrev c_laws_eqGraph_4 : List GOp := [oo 4 (.mv (cb  false))]
abbrev c_laws_eqGraph_5 : List GOp := [oo 4 (.mv (cb  true))]
abbrev c_laws_eqGraph : GCode := .seq (.reg c_laws_eqGraph_0) (.seq (.seq (.reg c_laws_eqGraph_1) (.cond (tt 9) (.seq (.reg c_laws_eqGraph_2) (.ret)) (.skip))) (.seq (.seq (.reg c_laws_eqGraph_3) (.cond (tt 15) (.seq (.reg c_laws_eqGraph_4) (.ret)) (.skip))) (.seq (.reg c_laws_eqGraph_5) (.ret))))
theorem c_laws_eqGraph_d : decFn Try.prog Try.f32 = some (16, [.t 4], c_laws_eqGraph) := by kernel_rfl
theorem c_laws_eqGraph_i {args : List Value} {G : GH} {K : Value → GH → Prop} (hn : args.length ≤ 16) (h : gW Try.prog c_laws_eqGraph (RetK [.t 4] K) (T0 args) G) : GC Try.prog 32 args G K := GC_intro mixed Try.func32 c_laws_eqGraph_d hn h
abbrev c_laws_eqInt64S_0 : List GOp := [oo 4 (.mv (cb  false))]
abbrev c_laws_eqInt64S_1 : List GOp := [oo 6 (.mv (tt 0)), oo 7 (.len (tt 6)), oo 8 (.mv (tt 1)), oo 9 (.len (tt 8)), oo 10 (.bin .neq (tt 7) (tt 9))]
abbrev c_laws_eqInt64S_2 : List GOp := [oo 4 (.mv (cb  false))]
abbrev c_laws_eqInt64S_3 : List GOp := [oo 5 (.mv (ci 0))]
abbrev c_laws_eqInt64S_4 : List GOp := [oo 11 (.mv (tt 5)), oo 12 (.mv (tt 0)), oo 13 (.len (tt 12)), oo 14 (.bin .lss (tt 11) (tt 13))]
abbrev c_laws_eqInt64S_5 : List DOp := [dl 0 (oo 17 (.mv (tt 0))), dl 1 (oo 18 (.mv (tt 5))), dl 2 (oo 19 (.ia 1 (tt 17) (tt 18))), dl 3 (oo 20 (.ld (tt 19))), dl 4 (oo 21 (.mv (tt 1))), dl 5 (oo 22 (.mv (tt 5))), dl 6 (oo 23 (.ia 1 (tt 21) (tt 22))), dl 7 (oo 24 (.ld (tt 23))), dl 8 (oo 25 (.bin .neq (tt 20) (tt 24)))]
abbrev c_laws_eqInt64S_6 : List GOp := [oo 4 (.mv (cb  false))]
abbrev c_laws_eqInt64S_7 : List GOp := [oo 15 (.mv (tt 5)), oo 16 (.bin .add (tt 15) (ci 1)), oo 5 (.mv (tt 16))]
abbrev c_laws_eqInt64S_l0 : GCode := .seq (.seq (.reg c_laws_eqInt64S_4) (.cond (tt 14) (.skip) (.exit 0))) (.seq (.blk 1 (.seq (.dreg c_laws_eqInt64S_5) (.cond (tt 25) (.seq (.reg c_laws_eqInt64S_6) (.ret)) (.skip)))) (.reg c_laws_eqInt64S_7))
abbrev c_laws_eqInt64S_9 : List GOp := [oo 4 (.mv (cb  true))]
abbrev c_laws_eqInt64S : GCode := .seq (.reg c_laws_eqInt64S_0) (.seq (.seq (.reg c_laws_eqInt64S_1) (.cond (tt 10) (.seq (.reg c_laws_eqInt64S_2) (.ret)) (.skip))) (.seq (.seq (.reg c_laws_eqInt64S_3) (.blk 0 (.loop c_laws_eqInt64S_l0))) (.seq (.reg c_laws_eqInt64S_9) (.ret))))
theorem c_laws_eqInt64S_d : decFn Try.prog Try.f31 = some (26, [.t 4], c_laws_eqInt64S) := by kernel_rfl
theorem c_laws_eqInt64S_i {args : List Value} {G : GH} {K : Value → GH → Prop} (hn : args.length ≤ 26) (h : gW Try.prog c_laws_eqInt64S (RetK [.t 4] K) (T0 args) G) : GC Try.prog 31 args G K := GC_intro mixed Try.func31 c_laws_eqInt64S_d hn h
abbrev c_laws_heldInt64S_0 : List GOp := [oo 4 (.mv (ci 0))]
abbrev c_laws_heldInt64S_1 : List GOp := [oo 5 (.mv (ci 0))]
abbrev c_laws_heldInt64S_2 : List GOp := [oo 6 (.mv (tt 5)), oo 7 (.mv (tt 0)), oo 8 (.len (tt 7)), oo 9 (.bin .lss (tt 6) (tt 8))]
abbrev c_laws_heldInt64S_3 : List GOp := [oo 12 (.mv (tt 0)), oo 13 (.mv (tt 5)), oo 14 (.ia 1 (tt 12) (tt 13)), oo 15 (.ld (tt 14)), oo 16 (.mv (tt 1)), oo 17 (.bin .neq (tt 15) (tt 16))]
abbrev c_laws_heldInt64S_4 : List GOp := [oo 4 (.mv (ci (-1)))]
abbrev c_laws_heldInt64S_5 : List GOp := [oo 18 (.mv (tt 1)), oo 19 (.bin .add (tt 18) (ci 1)), oo 1 (.mv (tt 19))]
abbrev c_laws_heldInt64S_6 : List GOp := [oo 10 (.mv (tt 5)), oo 11 (.bin .add (tt 10) (ci 1)), oo 5 (.mv (tt 11))]
abbrev c_laws_heldInt64S_l0 : GCode := .seq (.seq (.reg c_laws_heldInt64S_2) (.cond (tt 9) (.skip) (.exit 0))) (.seq (.blk 1 (.seq (.seq (.reg c_laws_heldInt64S_3) (.cond (tt 17) (.seq (.reg c_laws_heldInt64S_4) (.ret)) (.skip))) (.reg c_laws_heldInt64S_5))) (.reg c_laws_heldInt64S_6))
abbrev c_laws_heldInt64S_8 : List GOp := [oo 20 (.mv (tt 1)), oo 4 (.mv (tt 20))]
abbrev c_laws_heldInt64S : GCode := .seq (.reg c_laws_heldInt64S_0) (.seq (.seq (.reg c_laws_heldInt64S_1) (.blk 0 (.loop c_laws_heldInt64S_l0))) (.seq (.reg c_laws_heldInt64S_8) (.ret)))
theorem c_laws_heldInt64S_d : decFn Try.prog Try.f35 = some (21, [.t 4], c_laws_heldInt64S) := by kernel_rfl
theorem c_laws_heldInt64S_i {args : List Value} {G : GH} {K : Value → GH → Prop} (hn : args.length ≤ 21) (h : gW Try.prog c_laws_heldInt64S (RetK [.t 4] K) (T0 args) G) : GC Try.prog 35 args G K := GC_intro mixed Try.func35 c_laws_heldInt64S_d hn h
abbrev c_laws_markEdgeS_0 : List GOp := [oo 4 (.mv (ci 0))]
abbrev c_laws_markEdgeS_1 : List GOp := [oo 5 (.mv (ci 0))]
abbrev c_laws_markEdgeS_2 : List GOp := [oo 6 (.mv (tt 5)), oo 7 (.mv (tt 0)), oo 8 (.len (tt 7)), oo 9 (.bin .lss (tt 6) (tt 8))]
abbrev c_laws_markEdgeS_3 : List GOp := [oo 12 (.mv (tt 0)), oo 13 (.mv (tt 5)), oo 14 (.mv (tt 1)), oo 15 (.ia 3 (tt 12) (tt 13)), oo 16 (.fa 0 (tt 15)), on (.st 1 (tt 16) (tt 14))]
abbrev c_laws_markEdgeS_4 : List GOp := [oo 17 (.mv (tt 1)), oo 18 (.bin .add (tt 17) (ci 1)), oo 1 (.mv (tt 18))]
abbrev c_laws_markEdgeS_5 : List GOp := [oo 19 (.mv (tt 0)), oo 20 (.mv (tt 5)), oo 21 (.mv (tt 1)), oo 22 (.ia 3 (tt 19) (tt 20)), oo 23 (.fa 1 (tt 22)), on (.st 1 (tt 23) (tt 21))]
abbrev c_laws_markEdgeS_6 : List GOp := [oo 24 (.mv (tt 1)), oo 25 (.bin .add (tt 24) (ci 1)), oo 1 (.mv (tt 25))]
abbrev c_laws_markEdgeS_7 : List GOp := [oo 26 (.mv (tt 0)), oo 27 (.mv (tt 5)), oo 28 (.mv (tt 1)), oo 29 (.ia 3 (tt 26) (tt 27)), oo 30 (.fa 2 (tt 29)), on (.st 1 (tt 30) (tt 28))]
abbrev c_laws_markEdgeS_8 : List GOp := [oo 31 (.mv (tt 1)), oo 32 (.bin .add (tt 31) (ci 1)), oo 1 (.mv (tt 32))]
abbrev c_laws_markEdgeS_9 : List GOp := [oo 10 (.mv (tt 5)), oo 11 (.bin .add (tt 10) (ci 1)), oo 5 (.mv (tt 11))]
abbrev c_laws_markEdgeS_l0 : GCode := .seq (.seq (.reg c_laws_markEdgeS_2) (.cond (tt 9) (.skip) (.exit 0))) (.seq (.blk 1 (.seq (.reg c_laws_markEdgeS_3) (.seq (.reg c_laws_markEdgeS_4) (.seq (.reg c_laws_markEdgeS_5) (.seq (.reg c_laws_markEdgeS_6) (.seq (.reg c_laws_markEdgeS_7) (.reg c_laws_markEdgeS_8))))))) (.reg c_laws_markEdgeS_9))
abbrev c_laws_markEdgeS_11 : List GOp := [oo 33 (.mv (tt 1)), oo 4 (.mv (tt 33))]
abbrev c_laws_markEdgeS : GCode := .seq (.reg c_laws_markEdgeS_0) (.seq (.seq (.reg c_laws_markEdgeS_1) (.blk 0 (.loop c_laws_markEdgeS_l0))) (.seq (.reg c_laws_markEdgeS_11) (.ret)))
theorem c_laws_markEdgeS_d : decFn Try.prog Try.f106 = some (34, [.t 4], c_laws_markEdgeS) := by kernel_rfl
theorem c_laws_markEdgeS_i {args : List Value} {G : GH} {K : Value → GH → Prop} (hn : args.length ≤ 34) (h : gW Try.prog c_laws_markEdgeS (RetK [.t 4] K) (T0 args) G) : GC Try.prog 106 args G K := GC_intro mixed Try.func106 c_laws_markEdgeS_d hn h
abbrev c_laws_markGraph_0 : List GOp := [oo 2 (.bx (tt 0)), oo 4 (.mv (ci 0))]
abbrev c_laws_markGraph_1 : List GOp := [oo 5 (.fa 1 (tt 2)), oo 6 (.ld (tt 5)), oo 7 (.mv (tt 1)), oo 8 (.call (ff 106) [tt 6, tt 7]), oo 1 (.mv (tt 8))]
abbrev c_laws_markGraph_2 : List GOp := [oo 9 (.mv (tt 1)), oo 4 (.mv (tt 9))]
abbrev c_laws_markGraph : GCode := .seq (.reg c_laws_markGraph_0) (.seq (.reg c_laws_markGraph_1) (.seq (.reg c_laws_markGraph_2) (.ret)))
theorem c_laws_markGraph_d : decFn Try.prog Try.f33 = some (10, [.t 4], c_laws_markGraph) := by kernel_rfl
theorem c_laws_markGraph_i {args : List Value} {G : GH} {K : Value → GH → Prop} (hn : args.length ≤ 10) (h : gW Try.prog c_laws_markGraph (RetK [.t 4] K) (T0 args) G) : GC Try.prog 33 args G K := GC_intro mixed Try.func33 c_laws_markGraph_d hn h
abbrev c_laws_markInt64S_0 : List GOp := [oo 4 (.mv (ci 0))]
abbrev c_laws_markInt64S_1 : List GOp := [oo 5 (.mv (ci 0))]
abbrev c_laws_markInt64S_2 : List GOp := [oo 6 (.mv (tt 5)), oo 7 (.mv (tt 0)), oo 8 (.len (tt 7)), oo 9 (.bin .lss (tt 6) (tt 8))]
abbrev c_laws_markInt64S_3 : List GOp := [oo 12 (.mv (tt 0)), oo 13 (.mv (tt 5)), oo 14 (.mv (tt 1)), oo 15 (.ia 1 (tt 12) (tt 13)), on (.st 1 (tt 15) (tt 14))]
abbrev c_laws_markInt64S_4 : List GOp := [oo 16 (.mv (tt 1)), oo 17 (.bin .add (tt 16) (ci 1)), oo 1 (.mv (tt 17))]
abbrev c_laws_markInt64S_5 : List GOp := [oo 10 (.mv (tt 5)), oo 11 (.bin .add (tt 10) (ci 1)), oo 5 (.mv (tt 11))]
abbrev c_laws_markInt64S_l0 : GCode := .seq (.seq (.reg c_laws_markInt64S_2) (.cond (tt 9) (.skip) (.exit 0))) (.seq (.blk 1 (.seq (.reg c_laws_markInt64S_3) (.reg c_laws_markInt64S_4))) (.reg c_laws_markInt64S_5))
abbrev c_laws_markInt64S_7 : List GOp := [oo 18 (.mv (tt 1)), oo 4 (.mv (tt 18))]
abbrev c_laws_markInt64S : GCode := .seq (.reg c_laws_markInt64S_0) (.seq (.seq (.reg c_laws_markInt64S_1) (.blk 0 (.loop c_laws_markInt64S_l0))) (.seq (.reg c_laws_markInt64S_7) (.ret)))
theorem c_laws_markInt64S_d : decFn Try.prog Try.f34 = some (19, [.t 4], c_laws_markInt64S) := by kernel_rfl
theorem c_laws_markInt64S_i {args : List Value} {G : GH} {K : Value → GH → Prop} (hn : args.length ≤ 19) (h : gW Try.prog c_laws_markInt64S (RetK [.t 4] K) (T0 args) G) : GC Try.prog 34 args G K := GC_intro mixed Try.func34 c_laws_markInt64S_d hn h
abbrev c_laws_szEdgeS_0 : List GOp := [oo 4 (.mv (ci 0))]
abbrev c_laws_szEdgeS_1 : List GOp := [oo 5 (.mv (tt 1)), oo 6 (.mv (tt 0)), oo 7 (.len (tt 6)), oo 8 (.bin .sub (tt 5) (tt 7)), oo 1 (.mv (tt 8))]
abbrev c_laws_szEdgeS_2 : List GOp := [oo 9 (.mv (tt 1)), oo 10 (.bin .lss (tt 9) (ci 0))]
abbrev c_laws_szEdgeS_3 : List GOp := [oo 4 (.mv (ci (-1)))]
abbrev c_laws_szEdgeS_4 : List GOp := [oo 11 (.mv (tt 1)), oo 4 (.mv (tt 11))]
abbrev c_laws_szEdgeS : GCode := .seq (.reg c_laws_szEdgeS_0) (.seq (.reg c_laws_szEdgeS_1) (.seq (.seq (.reg c_laws_szEdgeS_2) (.cond (tt 10) (.seq (.reg c_laws_szEdgeS_3) (.ret)) (.skip))) (.seq (.reg c_laws_szEdgeS_4) (.ret))))
theorem c_laws_szEdgeS_d : decFn Try.prog Try.f99 = some (12, [.t 4], c_laws_szEdgeS) := by kernel_rfl
theorem c_laws_szEdgeS_i {args : List Value} {G : GH} {K : Value → GH → Prop} (hn : args.length ≤ 12) (h : gW Try.prog c_laws_szEdgeS (RetK [.t 4] K) (T0 args) G) : GC Try.prog 99 args G K := GC_intro mixed Try.func99 c_laws_szEdgeS_d hn h
abbrev c_laws_szGraph_0 : List GOp := [oo 2 (.bx (tt 0)), oo 4 (.mv (ci 0))]
abbrev c_laws_szGraph_1 : List GOp := [oo 5 (.fa 1 (tt 2)), oo 6 (.ld (tt 5)), oo 7 (.mv (tt 1)), oo 8 (.call (ff 99) [tt 6, tt 7]), oo 1 (.mv (tt 8))]
abbrev c_laws_szGraph_2 : List GOp := [oo 9 (.mv (tt 1)), oo 10 (.bin .lss (tt 9) (ci 0))]
abbrev c_laws_szGraph_3 : List GOp := [oo 4 (.mv (ci (-1)))]
abbrev c_laws_szGraph_4 : List GOp := [oo 11 (.mv (tt 1)), oo 4 (.mv (tt 11))]
abbrev c_laws_szGraph : GCode := .seq (.reg c_laws_szGraph_0) (.seq (.reg c_laws_szGraph_1) (.seq (.seq (.reg c_laws_szGraph_2) (.cond (tt 10) (.seq (.reg c_laws_szGraph_3) (.ret)) (.skip))) (.seq (.reg c_laws_szGraph_4) (.ret))))
theorem c_laws_szGraph_d : decFn Try.prog Try.f26 = some (12, [.t 4], c_laws_szGraph) := by kernel_rfl
theorem c_laws_szGraph_i {args : List Value} {G : GH} {K : Value → GH → Prop} (hn : args.length ≤ 12) (h : gW Try.prog c_laws_szGraph (RetK [.t 4] K) (T0 args) G) : GC Try.prog 26 args G K := GC_intro mixed Try.func26 c_laws_szGraph_d hn h
abbrev c_laws_toEdge_0 : List GOp := [oo 1 (.bx (tt 0)), oo 2 (.al [.int .i64 0, .int .i64 0, .int .i64 0])]
abbrev c_laws_toEdge_1 : List GOp := [oo 3 (.al [.int .i64 0, .int .i64 0, .int .i64 0])]
abbrev c_laws_toEdge_2 : List GOp := [oo 4 (.fa 0 (tt 1)), oo 5 (.ld (tt 4)), oo 6 (.fa 0 (tt 3)), on (.st 1 (tt 6) (tt 5))]
abbrev c_laws_toEdge_3 : List GOp := [oo 7 (.fa 1 (tt 1)), oo 8 (.ld (tt 7)), oo 9 (.fa 1 (tt 3)), on (.st 1 (tt 9) (tt 8))]
abbrev c_laws_toEdge_4 : List GOp := [oo 10 (.fa 2 (tt 1)), oo 11 (.ld (tt 10)), oo 12 (.fa 2 (tt 3)), on (.st 1 (tt 12) (tt 11))]
abbrev c_laws_toEdge_5 : List GOp := [oo 13 (.ldn 3 (tt 3)), on (.st 3 (tt 2) (tt 13))]
abbrev c_laws_toEdge : GCode := .seq (.reg c_laws_toEdge_0) (.seq (.reg c_laws_toEdge_1) (.seq (.reg c_laws_toEdge_2) (.seq (.reg c_laws_toEdge_3) (.seq (.reg c_laws_toEdge_4) (.seq (.reg c_laws_toEdge_5) (.ret))))))
theorem c_laws_toEdge_d : decFn Try.prog Try.f200 = some (14, [.cn 2 3], c_laws_toEdge) := by kernel_rfl
theorem c_laws_toEdge_i {args : List Value} {G : GH} {K : Value → GH → Prop} (hn : args.length ≤ 14) (h : gW Try.prog c_laws_toEdge (RetK [.cn 2 3] K) (T0 args) G) : GC Try.prog 200 args G K := GC_intro mixed Try.func200 c_laws_toEdge_d hn h
abbrev c_laws_toEdgeS_0 : List GOp := [oo 2 (.mv (.const (.slice none 0 0)))]
abbrev c_laws_toEdgeS_1 : List GOp := [oo 5 (.mv (tt 0)), oo 6 (.len (tt 5)), oo 7 (.mk 3 24 [.int .i64 0, .int .i64 0, .int .i64 0] (tt 6) (tt 6)), oo 3 (.mv (tt 7))]
abbrev c_laws_toEdgeS_2 : List GOp := [oo 4 (.mv (ci 0))]
abbrev c_laws_toEdgeS_3 : List GOp := [oo 8 (.mv (tt 4)), oo 9 (.mv (tt 0)), oo 10 (.len (tt 9)), oo 11 (.bin .lss (tt 8) (tt 10))]
abbrev c_laws_toEdgeS_4 : List GOp := [oo 14 (.mv (tt 3)), oo 15 (.mv (tt 4)), oo 16 (.mv (tt 0)), oo 17 (.mv (tt 4)), oo 18 (.ia 3 (tt 16) (tt 17)), oo 19 (.ldn 3 (tt 18)), oo 20 (.call (ff 200) [tt 19]), oo 21 (.ia 3 (tt 14) (tt 15)), on (.st 3 (tt 21) (tt 20))]
abbrev c_laws_toEdgeS_5 : List GOp := [oo 12 (.mv (tt 4)), oo 13 (.bin .add (tt 12) (ci 1)), oo 4 (.mv (tt 13))]
abbrev c_laws_toEdgeS_l0 : GCode := .seq (.seq (.reg c_laws_toEdgeS_3) (.cond (tt 11) (.skip) (.exit 0))) (.seq (.blk 1 (.reg c_laws_toEdgeS_4)) (.reg c_laws_toEdgeS_5))
abbrev c_laws_toEdgeS_7 : List GOp := [oo 22 (.mv (tt 3)), oo 2 (.mv (tt 22))]
abbrev c_laws_toEdgeS : GCode := .seq (.reg c_laws_toEdgeS_0) (.seq (.reg c_laws_toEdgeS_1) (.seq (.seq (.reg c_laws_toEdgeS_2) (.blk 0 (.loop c_laws_toEdgeS_l0))) (.seq (.reg c_laws_toEdgeS_7) (.ret))))
theorem c_laws_toEdgeS_d : decFn Try.prog Try.f101 = some (23, [.t 2], c_laws_toEdgeS) := by kernel_rfl
theorem c_laws_toEdgeS_i {args : List Value} {G : GH} {K : Value → GH → Prop} (hn : args.length ≤ 23) (h : gW Try.prog c_laws_toEdgeS (RetK [.t 2] K) (T0 args) G) : GC Try.prog 101 args G K := GC_intro mixed Try.func101 c_laws_toEdgeS_d hn h
abbrev c_laws_toGraph_0 : List GOp := [oo 1 (.bx (tt 0)), oo 2 (.al [.int .i64 0, .slice none 0 0])]
abbrev c_laws_toGraph_1 : List GOp := [oo 3 (.al [.int .i64 0, .slice none 0 0])]
abbrev c_laws_toGraph_2 : List GOp := [oo 4 (.fa 0 (tt 1)), oo 5 (.ld (tt 4)), oo 6 (.fa 0 (tt 3)), on (.st 1 (tt 6) (tt 5))]
abbrev c_laws_toGraph_3 : List GOp := [oo 7 (.fa 1 (tt 1)), oo 8 (.ld (tt 7)), oo 9 (.call (ff 101) [tt 8]), oo 10 (.fa 1 (tt 3)), on (.st 1 (tt 10) (tt 9))]
abbrev c_laws_toGraph_4 : List GOp := [oo 11 (.ldn 2 (tt 3)), on (.st 2 (tt 2) (tt 11))]
abbrev c_laws_toGraph : GCode := .seq (.reg c_laws_toGraph_0) (.seq (.reg c_laws_toGraph_1) (.seq (.reg c_laws_toGraph_2) (.seq (.reg c_laws_toGraph_3) (.seq (.reg c_laws_toGraph_4) (.ret)))))
theorem c_laws_toGraph_d : decFn Try.prog Try.f28 = some (12, [.cn 2 2], c_laws_toGraph) := by kernel_rfl
theorem c_laws_toGraph_i {args : List Value} {G : GH} {K : Value → GH → Prop} (hn : args.length ≤ 12) (h : gW Try.prog c_laws_toGraph (RetK [.cn 2 2] K) (T0 args) G) : GC Try.prog 28 args G K := GC_intro mixed Try.func28 c_laws_toGraph_d hn h
abbrev c_slices_Compare_int64_int64_0 : List GOp := [oo 4 (.mv (ci 0))]
abbrev c_slices_Compare_int64_int64_1 : List GOp := [oo 9 (.mv (tt 0)), oo 10 (.len (tt 9)), oo 11 (.mv (ci 0))]
abbrev c_slices_Compare_int64_int64_2 : List GOp := [oo 12 (.bin .lss (tt 11) (tt 10))]
abbrev c_slices_Compare_int64_int64_3 : List GOp := [oo 13 (.mv (tt 11)), oo 14 (.ia 1 (tt 9) (tt 11)), oo 15 (.ld (tt 14)), oo 5 (.mv (tt 13)), oo 6 (.mv (tt 15))]
abbrev c_slices_Compare_int64_int64_4 : List GOp := [oo 16 (.mv (tt 5)), oo 17 (.mv (tt 1)), oo 18 (.len (tt 17)), oo 19 (.bin .geq (tt 16) (tt 18))]
abbrev c_slices_Compare_int64_int64_5 : List GOp := [oo 4 (.mv (ci 1))]
abbrev c_slices_Compare_int64_int64_6 : List GOp := [oo 20 (.mv (tt 1)), oo 21 (.mv (tt 5)), oo 22 (.ia 1 (tt 20) (tt 21)), oo 23 (.ld (tt 22)), oo 7 (.mv (tt 23))]
abbrev c_slices_Compare_int64_int64_7 : List GOp := [oo 24 (.mv (tt 6)), oo 25 (.mv (tt 7)), oo 26 (.call (ff 218) [tt 24, tt 25]), oo 8 (.mv (tt 26))]
abbrev c_slices_Compare_int64_int64_8 : List GOp := [oo 27 (.mv (tt 8)), oo 28 (.bin .neq (tt 27) (ci 0))]
abbrev c_slices_Compare_int64_int64_9 : List GOp := [oo 29 (.mv (tt 8)), oo 4 (.mv (tt 29))]
abbrev c_slices_Compare_int64_int64_10 : List GOp := [oo 30 (.bin .add (tt 11) (ci 1)), oo 11 (.mv (tt 30))]
abbrev c_slices_Compare_int64_int64_l0 : GCode := .seq (.reg c_slices_Compare_int64_int64_2) (.seq (.cond (tt 12) (.skip) (.exit 0)) (.seq (.blk 1 (.seq (.reg c_slices_Compare_int64_int64_3) (.seq (.seq (.reg c_slices_Compare_int64_int64_4) (.cond (tt 19) (.seq (.reg c_slices_Compare_int64_int64_5) (.ret)) (.skip))) (.seq (.reg c_slices_Compare_int64_int64_6) (.seq (.reg c_slices_Compare_int64_int64_7) (.seq (.reg c_slices_Compare_int64_int64_8) (.cond (tt 28) (.seq (.reg c_slices_Compare_int64_int64_9) (.ret)) (.skip)))))))) (.reg c_slices_Compare_int64_int64_10)))
abbrev c_slices_Compare_int64_int64_12 : List GOp := [oo 31 (.mv (tt 0)), oo 32 (.len (tt 31)), oo 33 (.mv (tt 1)), oo 34 (.len (tt 33)), oo 35 (.bin .lss (tt 32) (tt 34))]
abbrev c_slices_Compare_int64_int64_13 : List GOp := [oo 4 (.mv (ci (-1)))]
abbrev c_slices_Compare_int64_int64_14 : List GOp := [oo 4 (.mv (ci 0))]
abbrev c_slices_Compare_int64_int64 : GCode := .seq (.reg c_slices_Compare_int64_int64_0) (.seq (.seq (.reg c_slices_Compare_int64_int64_1) (.blk 0 (.loop c_slices_Compare_int64_int64_l0))) (.seq (.seq (.reg c_slices_Compare_int64_int64_12) (.cond (tt 35) (.seq (.reg c_slices_Compare_int64_int64_13) (.ret)) (.skip))) (.seq (.reg c_slices_Compare_int64_int64_14) (.ret))))
theorem c_slices_Compare_int64_int64_d : decFn Try.prog Try.f144 = some (36, [.t 4], c_slices_Compare_int64_int64) := by kernel_rfl
theorem c_slices_Compare_int64_int64_i {args : List Value} {G : GH} {K : Value → GH → Prop} (hn : args.length ≤ 36) (h : gW Try.prog c_slices_Compare_int64_int64 (RetK [.t 4] K) (T0 args) G) : GC Try.prog 144 args G K := GC_intro mixed Try.func144 c_slices_Compare_int64_int64_d hn h
abbrev c_slices_Contains_int64_int64_0 : List GOp := [oo 4 (.mv (cb  false))]
abbrev c_slices_Contains_int64_int64_1 : List GOp := [oo 5 (.mv (tt 0)), oo 6 (.mv (tt 1)), oo 7 (.call (ff 166) [tt 5, tt 6]), oo 8 (.bin .geq (tt 7) (ci 0)), oo 4 (.mv (tt 8))]
abbrev c_slices_Contains_int64_int64 : GCode := .seq (.reg c_slices_Contains_int64_int64_0) (.seq (.reg c_slices_Contains_int64_int64_1) (.ret))
theorem c_slices_Contains_int64_int64_d : decFn Try.prog Try.f137 = some (9, [.t 4], c_slices_Contains_int64_int64) := by kernel_rfl
theorem c_slices_Contains_int64_int64_i {args : List Value} {G : GH} {K : Value → GH → Prop} (hn : args.length ≤ 9) (h : gW Try.prog c_slices_Contains_int64_int64 (RetK [.t 4] K) (T0 args) G) : GC Try.prog 137 args G K := GC_intro mixed Try.func137 c_slices_Contains_int64_int64_d hn h
abbrev c_slices_Index_int64_int64_0 : List GOp := [oo 4 (.mv (ci 0))]
abbrev c_slices_Index_int64_int64_1 : List GOp := [oo 6 (.mv (tt 0)), oo 7 (.len (tt 6)), oo 8 (.mv (ci 0))]
abbrev c_slices_Index_int64_int64_2 : List GOp := [oo 9 (.bin .lss (tt 8) (tt 7))]
abbrev c_slices_Index_int64_int64_3 : List GOp := [oo 10 (.mv (tt 8)), oo 5 (.mv (tt 10))]
abbrev c_slices_Index_int64_int64_4 : List GOp := [oo 11 (.mv (tt 1)), oo 12 (.mv (tt 0)), oo 13 (.mv (tt 5)), oo 14 (.ia 1 (tt 12) (tt 13)), oo 15 (.ld (tt 14)), oo 16 (.bin .eql (tt 11) (tt 15))]
abbrev c_slices_Index_int64_int64_5 : List GOp := [oo 17 (.mv (tt 5)), oo 4 (.mv (tt 17))]
abbrev c_slices_Index_int64_int64_6 : List GOp := [oo 18 (.bin .add (tt 8) (ci 1)), oo 8 (.mv (tt 18))]
abbrev c_slices_Index_int64_int64_l0 : GCode := .seq (.reg c_slices_Index_int64_int64_2) (.seq (.cond (tt 9) (.skip) (.exit 0)) (.seq (.blk 1 (.seq (.reg c_slices_Index_int64_int64_3) (.seq (.reg c_slices_Index_int64_int64_4) (.cond (tt 16) (.seq (.reg c_slices_Index_int64_int64_5) (.ret)) (.skip))))) (.reg c_slices_Index_int64_int64_6)))
abbrev c_slices_Index_int64_int64_8 : List GOp := [oo 4 (.mv (ci (-1)))]
abbrev c_slices_Index_int64_int64 : GCode := .seq (.reg c_slices_Index_int64_int64_0) (.seq (.seq (.reg c_slices_Index_int64_int64_1) (.blk 0 (.loop c_slices_Index_int64_int64_l0))) (.seq (.reg c_slices_Index_int64_int64_8) (.ret)))
theorem c_slices_Index_int64_int64_d : decFn Try.prog Try.f166 = some (19, [.t 4], c_slices_Index_int64_int64) := by kernel_rfl
theorem c_slices_Index_int64_int64_i {args : List Value} {G : GH} {K : Value → GH → Prop} (hn : args.length ≤ 19) (h : gW Try.prog c_slices_Index_int64_int64 (RetK [.t 4] K) (T0 args) G) : GC Try.prog 166 args G K := GC_intro mixed Try.func166 c_slices_Index_int64_int64_d hn h
abbrev c_spec_LightestCut_0 : List GOp := [oo 1 (.bx (tt 0)), oo 2 (.mv (.const (.slice none 0 0))), oo 3 (.mv (ci 0)), oo 4 (.mv (ci 0))]
abbrev c_spec_LightestCut_1 : List GOp := [oo 11 (.call (ff 138) [tt 1]), oo 12 (.un .not (tt 11))]
abbrev c_spec_LightestCut_2 : List GOp := [oo 2 (.mv (.const (.slice none 0 0))), oo 3 (.mv (ci 0)), oo 4 (.mv (ci 1))]
abbrev c_spec_LightestCut_3 : List GOp := [oo 13 (.fa 0 (tt 1)), oo 14 (.ld (tt 13)), oo 15 (.bin .eql (tt 14) (ci 1))]
abbrev c_spec_LightestCut_4 : List GOp := [oo 2 (.mv (.const (.slice none 0 0))), oo 3 (.mv (ci 0)), oo 4 (.mv (ci 6))]
abbrev c_spec_LightestCut_5 : List GOp := [oo 16 (.bs 1 []), oo 5 (.mv (tt 16))]
abbrev c_spec_LightestCut_6 : List GOp := [oo 6 (.mv (ci (-1)))]
abbrev c_spec_LightestCut_7 : List GOp := [oo 7 (.mv (ci 0))]
abbrev c_spec_LightestCut_8 : List GOp := [oo 17 (.mv (tt 7)), oo 18 (.fa 0 (tt 1)), oo 19 (.ld (tt 18)), oo 20 (.bin .sub (tt 19) (ci 1)), oo 21 (.bin .shl (ci 1) (tt 20)), oo 22 (.bin .sub (tt 21) (ci 1)), oo 23 (.bin .lss (tt 17) (tt 22))]
abbrev c_spec_LightestCut_9 : List GOp := [oo 26 (.bs 1 [(ci 0)]), oo 8 (.mv (tt 26))]
abbrev c_spec_LightestCut_10 : List GOp := [oo 9 (.mv (ci 1))]
abbrev c_spec_LightestCut_11 : List GOp := [oo 27 (.mv (tt 9)), oo 28 (.fa 0 (tt 1)), oo 29 (.ld (tt 28)), oo 30 (.bin .lss (tt 27) (tt 29))]
abbrev c_spec_LightestCut_12 : List GOp := [oo 33 (.mv (tt 7)), oo 34 (.mv (tt 9)), oo 35 (.bin .sub (tt 34) (ci 1)), oo 36 (.bin .shl (ci 1) (tt 35)), oo 37 (.bin .and (tt 33) (tt 36)), oo 38 (.bin .neq (tt 37) (ci 0))]
abbrev c_spec_LightestCut_13 : List GOp := [oo 39 (.mv (tt 8)), oo 40 (.mv (tt 9)), oo 41 (.bs 1 [tt 40]), oo 42 (.ap 1 8 [.int .i64 0] (tt 39) (tt 41)), oo 8 (.mv (tt 42))]
abbrev c_spec_LightestCut_14 : List GOp := [oo 31 (.mv (tt 9)), oo 32 (.bin .add (tt 31) (ci 1)), oo 9 (.mv (tt 32))]
abbrev c_spec_LightestCut_l0 : GCode := .seq (.seq (.reg c_spec_LightestCut_11) (.cond (tt 30) (.skip) (.exit 2))) (.seq (.blk 3 (.seq (.reg c_spec_LightestCut_12) (.cond (tt 38) (.reg c_spec_LightestCut_13) (.skip)))) (.reg c_spec_LightestCut_14))
abbrev c_spec_LightestCut_16 : List GOp := [oo 43 (.mv (tt 8)), oo 44 (.call (ff 139) [tt 1, tt 43]), oo 10 (.mv (tt 44))]
abbrev c_spec_LightestCut_17 : List GOp := [oo 45 (.mv (tt 6)), oo 46 (.bin .lss (tt 45) (ci 0)), oo 47 (.mv (tt 46)), og 48 47 false (.mv (tt 10)), og 49 47 false (.mv (tt 6)), og 50 47 false (.bin .lss (tt 48) (tt 49)), oo 51 (.pick (tt 47) (cb  true) (tt 50)), oo 52 (.mv (tt 51)), og 53 52 false (.mv (tt 10)), og 54 52 false (.mv (tt 6)), og 55 52 false (.bin .eql (tt 53) (tt 54)), og 56 52 false (.mv (tt 55)), og 57 56 true (.mv (tt 8)), og 58 56 true (.mv (tt 5)), og 59 56 true (.call (ff 140) [tt 57, tt 58]), og 60 52 false (.pick (tt 56) (tt 59) (cb  false)), oo 61 (.pick (tt 52) (cb  true) (tt 60))]
abbrev c_spec_LightestCut_18 : List GOp := [oo 62 (.mv (tt 8)), oo 5 (.mv (tt 62))]
abbrev c_spec_LightestCut_19 : List GOp := [oo 63 (.mv (tt 10)), oo 6 (.mv (tt 63))]
abbrev c_spec_LightestCut_20 : List GOp := [oo 24 (.mv (tt 7)), oo 25 (.bin .add (tt 24) (ci 1)), oo 7 (.mv (tt 25))]
abbrev c_spec_LightestCut_l1 : GCode := .seq (.seq (.reg c_spec_LightestCut_8) (.cond (tt 23) (.skip) (.exit 0))) (.seq (.blk 1 (.seq (.reg c_spec_LightestCut_9) (.seq (.seq (.reg c_spec_LightestCut_10) (.blk 2 (.loop c_spec_LightestCut_l0))) (.seq (.reg c_spec_LightestCut_16) (.seq (.reg c_spec_LightestCut_17) (.cond (tt 61) (.seq (.reg c_spec_LightestCut_18) (.reg c_spec_LightestCut_19)) (.skip))))))) (.reg c_spec_LightestCut_20))
abbrev c_spec_LightestCut_22 : List GOp := [oo 64 (.mv (tt 5)), oo 65 (.mv (tt 6)), oo 2 (.mv (tt 64)), oo 3 (.mv (tt 65)), oo 4 (.mv (ci 0))]
abbrev c_spec_LightestCut : GCode := .seq (.reg c_spec_LightestCut_0) (.seq (.seq (.reg c_spec_LightestCut_1) (.cond (tt 12) (.seq (.reg c_spec_LightestCut_2) (.ret)) (.skip))) (.seq (.seq (.reg c_spec_LightestCut_3) (.cond (tt 15) (.seq (.reg c_spec_LightestCut_4) (.ret)) (.skip))) (.seq (.reg c_spec_LightestCut_5) (.seq (.reg c_spec_LightestCut_6) (.seq (.seq (.reg c_spec_LightestCut_7) (.blk 0 (.loop c_spec_LightestCut_l1))) (.seq (.reg c_spec_LightestCut_22) (.ret)))))))
theorem c_spec_LightestCut_d : decFn Try.prog Try.f54 = some (66, [.t 2, .t 3, .t 4], c_spec_LightestCut) := by kernel_rfl
theorem c_spec_LightestCut_i {args : List Value} {G : GH} {K : Value → GH → Prop} (hn : args.length ≤ 66) (h : gW Try.prog c_spec_LightestCut (RetK [.t 2, .t 3, .t 4] K) (T0 args) G) : GC Try.prog 54 args G K := GC_intro mixed Try.func54 c_spec_LightestCut_d hn h
abbrev c_spec_l00Has_0 : List GOp := [oo 4 (.mv (cb  false))]
abbrev c_spec_l00Has_1 : List GOp := [oo 5 (.mv (ci 0))]
abbrev c_spec_l00Has_2 : List GOp := [oo 6 (.mv (tt 5)), oo 7 (.mv (tt 0)), oo 8 (.len (tt 7)), oo 9 (.bin .lss (tt 6) (tt 8))]
abbrev c_spec_l00Has_3 : List GOp := [oo 12 (.mv (tt 0)), oo 13 (.mv (tt 5)), oo 14 (.ia 1 (tt 12) (tt 13)), oo 15 (.ld (tt 14)), oo 16 (.mv (tt 1)), oo 17 (.bin .eql (tt 15) (tt 16))]
abbrev c_spec_l00Has_4 : List GOp := [oo 4 (.mv (cb  true))]
abbrev c_spec_l00Has_5 : List GOp := [oo 10 (.mv (tt 5)), oo 11 (.bin .add (tt 10) (ci 1)), oo 5 (.mv (tt 11))]
abbrev c_spec_l00Has_l0 : GCode := .seq (.seq (.reg c_spec_l00Has_2) (.cond (tt 9) (.skip) (.exit 0))) (.seq (.blk 1 (.seq (.reg c_spec_l00Has_3) (.cond (tt 17) (.seq (.reg c_spec_l00Has_4) (.ret)) (.skip)))) (.reg c_spec_l00Has_5))
abbrev c_spec_l00Has_7 : List GOp := [oo 4 (.mv (cb  false))]
abbrev c_spec_l00Has : GCode := .seq (.reg c_spec_l00Has_0) (.seq (.seq (.reg c_spec_l00Has_1) (.blk 0 (.loop c_spec_l00Has_l0))) (.seq (.reg c_spec_l00Has_7) (.ret)))
theorem c_spec_l00Has_d : decFn Try.prog Try.f134 = some (18, [.t 4], c_spec_l00Has) := by kernel_rfl
theorem c_spec_l00Has_i {args : List Value} {G : GH} {K : Value → GH → Prop} (hn : args.length ≤ 18) (h : gW Try.prog c_spec_l00Has (RetK [.t 4] K) (T0 args) G) : GC Try.prog 134 args G K := GC_intro mixed Try.func134 c_spec_l00Has_d hn h
abbrev c_spec_l00In_0 : List GOp := [oo 6 (.mv (cb  false))]
abbrev c_spec_l00In_1 : List GOp := [oo 7 (.mv (tt 0)), oo 8 (.mv (tt 1)), oo 9 (.bin .geq (tt 7) (tt 8)), oo 10 (.mv (tt 9)), og 11 10 true (.mv (tt 0)), og 12 10 true (.mv (tt 2)), og 13 10 true (.bin .leq (tt 11) (tt 12)), oo 14 (.pick (tt 10) (tt 13) (cb  false)), oo 6 (.mv (tt 14))]
abbrev c_spec_l00In : GCode := .seq (.reg c_spec_l00In_0) (.seq (.reg c_spec_l00In_1) (.ret))
theorem c_spec_l00In_d : decFn Try.prog Try.f121 = some (15, [.t 6], c_spec_l00In) := by kernel_rfl
theorem c_spec_l00In_i {args : List Value} {G : GH} {K : Value → GH → Prop} (hn : args.length ≤ 15) (h : gW Try.prog c_spec_l00In (RetK [.t 6] K) (T0 args) G) : GC Try.prog 121 args G K := GC_intro mixed Try.func121 c_spec_l00In_d hn h
abbrev c_spec_l16Before_0 : List GOp := [oo 4 (.mv (cb  false))]
abbrev c_spec_l16Before_1 : List GOp := [oo 5 (.mv (ci 0))]
abbrev c_spec_l16Before_2 : List GOp := [oo 6 (.mv (tt 5)), oo 7 (.mv (tt 0)), oo 8 (.len (tt 7)), oo 9 (.bin .lss (tt 6) (tt 8)), oo 10 (.mv (tt 9)), og 11 10 true (.mv (tt 5)), og 12 10 true (.mv (tt 1)), og 13 10 true (.len (tt 12)), og 14 10 true (.bin .lss (tt 11) (tt 13)), oo 15 (.pick (tt 10) (tt 14) (cb  false))]
abbrev c_spec_l16Before_3 : List DOp := [dl 0 (oo 18 (.mv (tt 0))), dl 1 (oo 19 (.mv (tt 5))), dl 2 (oo 20 (.ia 1 (tt 18) (tt 19))), dl 3 (oo 21 (.ld (tt 20))), dl 4 (oo 22 (.mv (tt 1))), dl 5 (oo 23 (.mv (tt 5))), dl 6 (oo 24 (.ia 1 (tt 22) (tt 23))), dl 7 (oo 25 (.ld (tt 24))), dl 8 (oo 26 (.bin .neq (tt 21) (tt 25)))]
abbrev c_spec_l16Before_4 : List DOp := [dl 0 (oo 27 (.mv (tt 0))), dl 1 (oo 28 (.mv (tt 5))), dl 2 (oo 29 (.ia 1 (tt 27) (tt 28))), dl 3 (oo 30 (.ld (tt 29))), dl 4 (oo 31 (.mv (tt 1))), dl 5 (oo 32 (.mv (tt 5))), dl 6 (oo 33 (.ia 1 (tt 31) (tt 32))), dl 7 (oo 34 (.ld (tt 33))), dl 8 (oo 35 (.bin .lss (tt 30) (tt 34))), dl 9 (oo 4 (.mv (tt 35)))]
abbrev c_spec_l16Before_5 : List GOp := [oo 16 (.mv (tt 5)), oo 17 (.bin .add (tt 16) (ci 1)), oo 5 (.mv (tt 17))]
abbrev c_spec_l16Before_l0 : GCode := .seq (.seq (.reg c_spec_l16Before_2) (.cond (tt 15) (.skip) (.exit 0))) (.seq (.blk 1 (.seq (.dreg c_spec_l16Before_3) (.cond (tt 26) (.seq (.dreg c_spec_l16Before_4) (.ret)) (.skip)))) (.reg c_spec_l16Before_5))
abbrev c_spec_l16Before_7 : List GOp := [oo 36 (.mv (tt 0)), oo 37 (.len (tt 36)), oo 38 (.mv (tt 1)), oo 39 (.len (tt 38)), oo 40 (.bin .lss (tt 37) (tt 39)), oo 4 (.mv (tt 40))]
abbrev c_spec_l16Before : GCode := .seq (.reg c_spec_l16Before_0) (.seq (.seq (.reg c_spec_l16Before_1) (.blk 0 (.loop c_spec_l16Before_l0))) (.seq (.reg c_spec_l16Before_7) (.ret)))
theorem c_spec_l16Before_d : decFn Try.prog Try.f140 = some (41, [.t 4], c_spec_l16Before) := by kernel_rfl
theorem c_spec_l16Before_i {args : List Value} {G : GH} {K : Value → GH → Prop} (hn : args.length ≤ 41) (h : gW Try.prog c_spec_l16Before (RetK [.t 4] K) (T0 args) G) : GC Try.prog 140 args G K := GC_intro mixed Try.func140 c_spec_l16Before_d hn h
abbrev c_spec_l16Cut_0 : List GOp := [oo 4 (.mv (ci 0))]
abbrev c_spec_l16Cut_1 : List GOp := [oo 5 (.mv (ci 0))]
abbrev c_spec_l16Cut_2 : List GOp := [oo 6 (.mv (ci 0))]
abbrev c_spec_l16Cut_3 : List GOp := [oo 8 (.mv (tt 6)), oo 9 (.mv (tt 0)), oo 10 (.nc (tt 9)), oo 11 (.fa 1 (tt 10)), oo 12 (.ld (tt 11)), oo 13 (.len (tt 12)), oo 14 (.bin .lss (tt 8) (tt 13))]
abbrev c_spec_l16Cut_4 : List GOp := [oo 17 (.mv (tt 0)), oo 18 (.nc (tt 17)), oo 19 (.fa 1 (tt 18)), oo 20 (.ld (tt 19)), oo 21 (.mv (tt 6)), oo 22 (.ia 3 (tt 20) (tt 21)), oo 23 (.ldn 3 (tt 22)), oo 7 (.al [.int .i64 0, .int .i64 0, .int .i64 0]), on (.st 3 (tt 7) (tt 23))]
abbrev c_spec_l16Cut_5 : List DOp := [dl 0 (oo 24 (.mv (tt 1))), dl 1 (oo 25 (.fa 0 (tt 7))), dl 2 (oo 26 (.ld (tt 25))), dl 4 (oo 28 (.mv (tt 1))), dl 5 (oo 29 (.fa 1 (tt 7))), dl 6 (oo 30 (.ld (tt 29))), dh 3 [6] (oo 27 (.call (ff 134) [tt 24, tt 26])), dh 7 [2] (oo 31 (.call (ff 134) [tt 28, tt 30])), dl 8 (oo 32 (.eqb true (tt 27) (tt 31)))]
abbrev c_spec_l16Cut_6 : List GOp := [oo 33 (.mv (tt 5)), oo 34 (.fa 2 (tt 7)), oo 35 (.ld (tt 34)), oo 36 (.bin .add (tt 33) (tt 35)), oo 5 (.mv (tt 36))]
abbrev c_spec_l16Cut_7 : List GOp := [oo 15 (.mv (tt 6)), oo 16 (.bin .add (tt 15) (ci 1)), oo 6 (.mv (tt 16))]
abbrev c_spec_l16Cut_l0 : GCode := .seq (.seq (.reg c_spec_l16Cut_3) (.cond (tt 14) (.skip) (.exit 0))) (.seq (.blk 1 (.seq (.reg c_spec_l16Cut_4) (.seq (.dreg c_spec_l16Cut_5) (.cond (tt 32) (.reg c_spec_l16Cut_6) (.skip))))) (.reg c_spec_l16Cut_7))
abbrev c_spec_l16Cut_9 : List GOp := [oo 37 (.mv (tt 5)), oo 4 (.mv (tt 37))]
abbrev c_spec_l16Cut : GCode := .seq (.reg c_spec_l16Cut_0) (.seq (.reg c_spec_l16Cut_1) (.seq (.seq (.reg c_spec_l16Cut_2) (.blk 0 (.loop c_spec_l16Cut_l0))) (.seq (.reg c_spec_l16Cut_9) (.ret))))
theorem c_spec_l16Cut_d : decFn Try.prog Try.f139 = some (38, [.t 4], c_spec_l16Cut) := by kernel_rfl
theorem c_spec_l16Cut_i {args : List Value} {G : GH} {K : Value → GH → Prop} (hn : args.length ≤ 38) (h : gW Try.prog c_spec_l16Cut (RetK [.t 4] K) (T0 args) G) : GC Try.prog 139 args G K := GC_intro mixed Try.func139 c_spec_l16Cut_d hn h
abbrev c_spec_l16Ok_0 : List GOp := [oo 2 (.mv (cb  false))]
abbrev c_spec_l16Ok_1 : List GOp := [oo 5 (.mv (tt 0)), oo 6 (.nc (tt 5)), oo 7 (.fa 0 (tt 6)), oo 8 (.ld (tt 7)), oo 9 (.call (ff 121) [tt 8, (ci 1), (ci 12)]), oo 10 (.un .not (tt 9))]
abbrev c_spec_l16Ok_2 : List GOp := [oo 2 (.mv (cb  false))]
abbrev c_spec_l16Ok_3 : List GOp := [oo 3 (.mv (ci 0))]
abbrev c_spec_l16Ok_4 : List GOp := [oo 11 (.mv (tt 3)), oo 12 (.mv (tt 0)), oo 13 (.nc (tt 12)), oo 14 (.fa 1 (tt 13)), oo 15 (.ld (tt 14)), oo 16 (.len (tt 15)), oo 17 (.bin .lss (tt 11) (tt 16))]
abbrev c_spec_l16Ok_5 : List GOp := [oo 20 (.mv (tt 0)), oo 21 (.nc (tt 20)), oo 22 (.fa 1 (tt 21)), oo 23 (.ld (tt 22)), oo 24 (.mv (tt 3)), oo 25 (.ia 3 (tt 23) (tt 24)), oo 26 (.ldn 3 (tt 25)), oo 4 (.al [.int .i64 0, .int .i64 0, .int .i64 0]), on (.st 3 (tt 4) (tt 26))]
abbrev c_spec_l16Ok_6 : List DOp := [dl 0 (oo 27 (.fa 1 (tt 4))), dl 1 (oo 28 (.ld (tt 27))), dl 2 (oo 29 (.mv (tt 0))), dl 3 (oo 30 (.nc (tt 29))), dl 4 (oo 31 (.fa 0 (tt 30))), dl 5 (oo 32 (.ld (tt 31))), dl 6 (oo 33 (.bin .sub (tt 32) (ci 1))), dh 7 [5] (oo 34 (.call (ff 121) [tt 28, (ci 0), tt 33])), dl 8 (oo 35 (.un .not (tt 34))), dl 9 (oo 36 (.mv (tt 35))), dl 10 (og 37 36 false (.fa 0 (tt 4))), dl 11 (og 38 36 false (.ld (tt 37))), dl 12 (og 39 36 false (.fa 1 (tt 4))), dl 13 (og 40 36 false (.ld (tt 39))), dl 14 (og 41 36 false (.bin .sub (tt 40) (ci 1))), dh 15 [13, 5, 1] (og 42 36 false (.call (ff 121) [tt 38, (ci 0), tt 41])), dl 16 (og 43 36 false (.un .not (tt 42))), dl 17 (oo 44 (.pick (tt 36) (cb  true) (tt 43))), dl 18 (oo 45 (.mv (tt 44))), dl 19 (og 46 45 false (.fa 2 (tt 4))), dl 20 (og 47 45 false (.ld (tt 46))), dh 21 [13, 11, 5, 1] (og 48 45 false (.call (ff 121) [tt 47, (ci 1), (ci 9)])), dl 22 (og 49 45 false (.un .not (tt 48))), dl 23 (oo 50 (.pick (tt 45) (cb  true) (tt 49)))]
abbrev c_spec_l16Ok_7 : List GOp := [oo 2 (.mv (cb  false))]
abbrev c_spec_l16Ok_8 : List DOp := [dl 0 (oo 51 (.mv (tt 3))), dl 1 (oo 52 (.bin .gtr (tt 51) (ci 0))), dl 2 (oo 53 (.mv (tt 52))), dl 3 (og 54 53 true (.mv (tt 0))), dl 4 (og 55 53 true (.nc (tt 54))), dl 5 (og 56 53 true (.fa 1 (tt 55))), dl 6 (og 57 53 true (.ld (tt 56))), dl 7 (og 58 53 true (.mv (tt 3))), dl 8 (og 59 53 true (.bin .sub (tt 58) (ci 1))), dl 9 (og 60 53 true (.ia 3 (tt 57) (tt 59))), dl 10 (og 61 53 true (.fa 0 (tt 60))), dl 11 (og 62 53 true (.ld (tt 61))), dl 12 (og 63 53 true (.fa 0 (tt 4))), dl 13 (og 64 53 true (.ld (tt 63))), dl 14 (og 65 53 true (.bin .gtr (tt 62) (tt 64))), dl 15 (og 66 53 true (.mv (tt 65))), dl 16 (og 67 66 false (.mv (tt 0))), dl 17 (og 68 66 false (.nc (tt 67))), dl 18 (og 69 66 false (.fa 1 (tt 68))), dl 19 (og 70 66 false (.ld (tt 69))), dl 20 (og 71 66 false (.mv (tt 3))), dl 21 (og 72 66 false (.bin .sub (tt 71) (ci 1))), dl 22 (og 73 66 false (.ia 3 (tt 70) (tt 72))), dl 23 (og 74 66 false (.fa 0 (tt 73))), dl 24 (og 75 66 false (.ld (tt 74))), dl 25 (og 76 66 false (.fa 0 (tt 4))), dl 26 (og 77 66 false (.ld (tt 76))), dl 27 (og 78 66 false (.bin .eql (tt 75) (tt 77))), dl 28 (og 79 66 false (.mv (tt 78))), dl 29 (og 80 79 true (.mv (tt 0))), dl 30 (og 81 79 true (.nc (tt 80))), dl 31 (og 82 79 true (.fa 1 (tt 81))), dl 32 (og 83 79 true (.ld (tt 82))), dl 33 (og 84 79 true (.mv (tt 3))), dl 34 (og 85 79 true (.bin .sub (tt 84) (ci 1))), dl 35 (og 86 79 true (.ia 3 (tt 83) (tt 85))), dl 36 (og 87 79 true (.fa 1 (tt 86))), dl 37 (og 88 79 true (.ld (tt 87))), dl 38 (og 89 79 true (.fa 1 (tt 4))), dl 39 (og 90 79 true (.ld (tt 89))), dl 40 (og 91 79 true (.bin .geq (tt 88) (tt 90))), dl 41 (og 92 66 false (.pick (tt 79) (tt 91) (cb  false))), dl 42 (og 93 53 true (.pick (tt 66) (cb  true) (tt 92))), dl 43 (oo 94 (.pick (tt 53) (tt 93) (cb  false)))]
abbrev c_spec_l16Ok_9 : List GOp := [oo 2 (.mv (cb  false))]
abbrev c_spec_l16Ok_10 : List GOp := [oo 18 (.mv (tt 3)), oo 19 (.bin .add (tt 18) (ci 1)), oo 3 (.mv (tt 19))]
abbrev c_spec_l16Ok_l0 : GCode := .seq (.seq (.reg c_spec_l16Ok_4) (.cond (tt 17) (.skip) (.exit 0))) (.seq (.blk 1 (.seq (.reg c_spec_l16Ok_5) (.seq (.seq (.dreg c_spec_l16Ok_6) (.cond (tt 50) (.seq (.reg c_spec_l16Ok_7) (.ret)) (.skip))) (.seq (.dreg c_spec_l16Ok_8) (.cond (tt 94) (.seq (.reg c_spec_l16Ok_9) (.ret)) (.skip)))))) (.reg c_spec_l16Ok_10))
abbrev c_spec_l16Ok_12 : List GOp := [oo 95 (.mv (tt 0)), oo 96 (.nc (tt 95)), oo 97 (.fa 1 (tt 96)), oo 98 (.ld (tt 97)), oo 99 (.len (tt 98)), oo 100 (.bin .leq (tt 99) (ci 24)), oo 2 (.mv (tt 100))]
abbrev c_spec_l16Ok : GCode := .seq (.reg c_spec_l16Ok_0) (.seq (.seq (.reg c_spec_l16Ok_1) (.cond (tt 10) (.seq (.reg c_spec_l16Ok_2) (.ret)) (.skip))) (.seq (.seq (.reg c_spec_l16Ok_3) (.blk 0 (.loop c_spec_l16Ok_l0))) (.seq (.reg c_spec_l16Ok_12) (.ret))))
theorem c_spec_l16Ok_d : decFn Try.prog Try.f138 = some (101, [.t 2], c_spec_l16Ok) := by kernel_rfl
theorem c_spec_l16Ok_i {args : List Value} {G : GH} {K : Value → GH → Prop} (hn : args.length ≤ 101) (h : gW Try.prog c_spec_l16Ok (RetK [.t 2] K) (T0 args) G) : GC Try.prog 138 args G K := GC_intro mixed Try.func138 c_spec_l16Ok_d hn h

end Go.Proofs.Ytmlkgpoakkgjbaa.Gh
