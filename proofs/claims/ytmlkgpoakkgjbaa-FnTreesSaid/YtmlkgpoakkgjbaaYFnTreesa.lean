/- Code trees that the law FnTrees reaches: each is what the decoding gives (checked by the kernel). -/
import Derived.Test.YtmlkgpoakkgjbaaC0
import Derived.Test.YtmlkgpoakkgjbaaFm
import Derived.Test.YtmlkgpoakkgjbaaFn
import Derived.Test.YtmlkgpoakkgjbaaFz
namespace Go.Proofs.Ytmlkgpoakkgjbaa.Gh
open Go Go.RowKit Go.Proofs
set_option linter.unusedVariables false
set_option linter.unusedSimpArgs false
set_option maxHeartbeats 4000000

abbrev c_cmp_Compare_int64_0 : List GOp := [oo 4 (.mv (ci 0))]
abbrev c_cmp_Compare_int64_1 : List GOp := [oo 7 (.mv (tt 0)), oo 8 (.call (ff 248) [tt 7]), oo 5 (.mv (tt 8))]
abbrev c_cmp_Compare_int64_2 : List GOp := [oo 9 (.mv (tt 1)), oo 10 (.call (ff 248) [tt 9]), oo 6 (.mv (tt 10))]
abbrev c_cmp_Compare_int64_3 : List GOp := [oo 11 (.mv (tt 5))]
abbrev c_cmp_Compare_int64_4 : List GOp := [oo 12 (.mv (tt 6))]
abbrev c_cmp_Compare_int64_5 : List GOp := [oo 4 (.mv (ci 0))]
abbrev c_cmp_Compare_int64_6 : List GOp := [oo 4 (.mv (ci (-1)))]
abbrev c_cmp_Compare_int64_7 : List GOp := [oo 13 (.mv (tt 6))]
abbrev c_cmp_Compare_int64_8 : List GOp := [oo 4 (.mv (ci 1))]
abbrev c_cmp_Compare_int64_9 : List GOp := [oo 14 (.mv (tt 0)), oo 15 (.mv (tt 1)), oo 16 (.bin .lss (tt 14) (tt 15))]
abbrev c_cmp_Compare_int64_10 : List GOp := [oo 4 (.mv (ci (-1)))]
abbrev c_cmp_Compare_int64_11 : List GOp := [oo 17 (.mv (tt 0)), oo 18 (.mv (tt 1)), oo 19 (.bin .gtr (tt 17) (tt 18))]
abbrev c_cmp_Compare_int64_12 : List GOp := [oo 4 (.mv (ci 1))]
abbrev c_cmp_Compare_int64_13 : List GOp := [oo 4 (.mv (ci 0))]
abbrev c_cmp_Compare_int64 : GCode := .seq (.reg c_cmp_Compare_int64_0) (.seq (.reg c_cmp_Compare_int64_1) (.seq (.reg c_cmp_Compare_int64_2) (.seq (.seq (.reg c_cmp_Compare_int64_3) (.cond (tt 11) (.seq (.seq (.reg c_cmp_Compare_int64_4) (.cond (tt 12) (.seq (.reg c_cmp_Compare_int64_5) (.ret)) (.skip))) (.seq (.reg c_cmp_Compare_int64_6) (.ret))) (.skip))) (.seq (.seq (.reg c_cmp_Compare_int64_7) (.cond (tt 13) (.seq (.reg c_cmp_Compare_int64_8) (.ret)) (.skip))) (.seq (.seq (.reg c_cmp_Compare_int64_9) (.cond (tt 16) (.seq (.reg c_cmp_Compare_int64_10) (.ret)) (.skip))) (.seq (.seq (.reg c_cmp_Compare_int64_11) (.cond (tt 19) (.seq (.reg c_cmp_Compare_int64_12) (.ret)) (.skip))) (.seq (.reg c_cmp_Compare_int64_13) (.ret))))))))
theorem c_cmp_Compare_int64_d : decFn Try.prog Try.f218 = some (20, [.t 4], c_cmp_Compare_int64) := by kernel_rfl
theorem c_cmp_Compare_int64_i {args : List Value} {G : GH} {K : Value → GH → Prop} (hn : args.length ≤ 20) (h : gW Try.prog c_cmp_Compare_int64 (RetK [.t 4] K) (T0 args) G) : GC Try.prog 218 args G K := GC_intro mixed Try.func218 c_cmp_Compare_int64_d hn h
abbrev c_cmp_Or_int_0 : List GOp := [oo 2 (.mv (ci 0))]
abbrev c_cmp_Or_int_1 : List GOp := [oo 3 (.mv (ci 0))]
abbrev c_cmp_Or_int_2 : List GOp := [oo 6 (.mv (tt 0)), oo 7 (.len (tt 6)), oo 8 (.mv (ci 0))]
abbrev c_cmp_Or_int_3 : List GOp := [oo 9 (.bin .lss (tt 8) (tt 7))]
abbrev c_cmp_Or_int_4 : List GOp := [oo 10 (.ia 1 (tt 6) (tt 8)), oo 11 (.ld (tt 10)), oo 5 (.mv (tt 11))]
abbrev c_cmp_Or_int_5 : List GOp := [oo 12 (.mv (tt 5)), oo 13 (.mv (tt 3)), oo 14 (.bin .neq (tt 12) (tt 13))]
abbrev c_cmp_Or_int_6 : List GOp := [oo 15 (.mv (tt 5)), oo 2 (.mv (tt 15))]
abbrev c_cmp_Or_int_7 : List GOp := [oo 16 (.bin .add (tt 8) (ci 1)), oo 8 (.mv (tt 16))]
abbrev c_cmp_Or_int_l0 : GCode := .seq (.reg c_cmp_Or_int_3) (.seq (.cond (tt 9) (.skip) (.exit 0)) (.seq (.blk 1 (.seq (.reg c_cmp_Or_int_4) (.seq (.reg c_cmp_Or_int_5) (.cond (tt 14) (.seq (.reg c_cmp_Or_int_6) (.ret)) (.skip))))) (.reg c_cmp_Or_int_7)))
abbrev c_cmp_Or_int_9 : List GOp := [oo 17 (.mv (tt 3)), oo 2 (.mv (tt 17))]
abbrev c_cmp_Or_int : GCode := .seq (.reg c_cmp_Or_int_0) (.seq (.reg c_cmp_Or_int_1) (.seq (.seq (.reg c_cmp_Or_int_2) (.blk 0 (.loop c_cmp_Or_int_l0))) (.seq (.reg c_cmp_Or_int_9) (.ret))))
theorem c_cmp_Or_int_d : decFn Try.prog Try.f241 = some (18, [.t 2], c_cmp_Or_int) := by kernel_rfl
theorem c_cmp_Or_int_i {args : List Value} {G : GH} {K : Value → GH → Prop} (hn : args.length ≤ 18) (h : gW Try.prog c_cmp_Or_int (RetK [.t 2] K) (T0 args) G) : GC Try.prog 241 args G K := GC_intro mixed Try.func241 c_cmp_Or_int_d hn h
abbrev c_cmp_isNaN_int64_0 : List GOp := [oo 2 (.mv (cb  false))]
abbrev c_cmp_isNaN_int64_1 : List GOp := [oo 3 (.mv (tt 0)), oo 4 (.mv (tt 0)), oo 5 (.bin .neq (tt 3) (tt 4)), oo 2 (.mv (tt 5))]
abbrev c_cmp_isNaN_int64 : GCode := .seq (.reg c_cmp_isNaN_int64_0) (.seq (.reg c_cmp_isNaN_int64_1) (.ret))
theorem c_cmp_isNaN_int64_d : decFn Try.prog Try.f248 = some (6, [.t 2], c_cmp_isNaN_int64) := by kernel_rfl
theorem c_cmp_isNaN_int64_i {args : List Value} {G : GH} {K : Value → GH → Prop} (hn : args.length ≤ 6) (h : gW Try.prog c_cmp_isNaN_int64 (RetK [.t 2] K) (T0 args) G) : GC Try.prog 248 args G K := GC_intro mixed Try.func248 c_cmp_isNaN_int64_d hn h
abbrev c_impl_CountTrees_0 : List GOp := [oo 1 (.bx (tt 0)), oo 2 (.mv (ci 0)), oo 3 (.mv (ci 0))]
abbrev c_impl_CountTrees_1 : List GOp := [oo 4 (.ldn 2 (tt 1)), oo 5 (.call (ff 141) [tt 4]), oo 6 (.un .not (tt 5))]
abbrev c_impl_CountTrees_2 : List GOp := [oo 2 (.mv (ci 0)), oo 3 (.mv (ci 1))]
abbrev c_impl_CountTrees_3 : List GOp := [oo 7 (.ldn 2 (tt 1)), oo 8 (.bs 1 [(ci 0)]), oo 9 (.call (ff 178) [tt 7, tt 8]), oo 2 (.mv (tt 9)), oo 3 (.mv (ci 0))]
abbrev c_impl_CountTrees : GCode := .seq (.reg c_impl_CountTrees_0) (.seq (.seq (.reg c_impl_CountTrees_1) (.cond (tt 6) (.seq (.reg c_impl_CountTrees_2) (.ret)) (.skip))) (.seq (.reg c_impl_CountTrees_3) (.ret)))
theorem c_impl_CountTrees_d : decFn Try.prog Try.f82 = some (10, [.t 2, .t 3], c_impl_CountTrees) := by kernel_rfl
theorem c_impl_CountTrees_i {args : List Value} {G : GH} {K : Value → GH → Prop} (hn : args.length ≤ 10) (h : gW Try.prog c_impl_CountTrees (RetK [.t 2, .t 3] K) (T0 args) G) : GC Try.prog 82 args G K := GC_intro mixed Try.func82 c_impl_CountTrees_d hn h
abbrev c_impl_ResistanceOf_0 : List GOp := [oo 3 (.bx (tt 0)), oo 6 (.mv (ci 0)), oo 7 (.mv (ci 0)), oo 8 (.mv (ci 0))]
abbrev c_impl_ResistanceOf_1 : List GOp := [oo 13 (.ldn 2 (tt 3)), oo 14 (.call (ff 141) [tt 13]), oo 15 (.un .not (tt 14)), oo 12 (.mv (tt 15))]
abbrev c_impl_ResistanceOf_2 : List GOp := [oo 6 (.mv (ci 0)), oo 7 (.mv (ci 0)), oo 8 (.mv (ci 1))]
abbrev c_impl_ResistanceOf_3 : List GOp := [oo 17 (.mv (tt 1)), oo 18 (.fa 0 (tt 3)), oo 19 (.ld (tt 18)), oo 20 (.call (ff 180) [tt 17, tt 19]), oo 21 (.un .not (tt 20)), oo 22 (.mv (tt 21)), og 23 22 false (.mv (tt 2)), og 24 22 false (.fa 0 (tt 3)), og 25 22 false (.ld (tt 24)), og 26 22 false (.call (ff 180) [tt 23, tt 25]), og 27 22 false (.un .not (tt 26)), oo 28 (.pick (tt 22) (cb  true) (tt 27)), oo 16 (.mv (tt 28))]
abbrev c_impl_ResistanceOf_4 : List GOp := [oo 6 (.mv (ci 0)), oo 7 (.mv (ci 0)), oo 8 (.mv (ci 2))]
abbrev c_impl_ResistanceOf_5 : List GOp := [oo 30 (.ldn 2 (tt 3)), oo 31 (.call (ff 181) [tt 30]), oo 32 (.un .not (tt 31)), oo 29 (.mv (tt 32))]
abbrev c_impl_ResistanceOf_6 : List GOp := [oo 6 (.mv (ci 0)), oo 7 (.mv (ci 0)), oo 8 (.mv (ci 6))]
abbrev c_impl_ResistanceOf_7 : List GOp := [oo 34 (.mv (tt 1)), oo 35 (.mv (tt 2)), oo 36 (.bin .eql (tt 34) (tt 35)), oo 33 (.mv (tt 36))]
abbrev c_impl_ResistanceOf_8 : List GOp := [oo 6 (.mv (ci 0)), oo 7 (.mv (ci 1)), oo 8 (.mv (ci 0))]
abbrev c_impl_ResistanceOf_9 : DT := (.path [dl 0 (oo 37 (.ldn 2 (tt 3)))] (.path [dl 1 (oo 38 (.mv (tt 1)))] (.path [dl 2 (oo 39 (.mv (tt 2)))] (.path [dl 5 (oo 42 (.ldn 2 (tt 3)))] (.both (.path [dh 3 [5, 0] (oo 40 (.bs 1 [tt 38, tt 39]))] (.both (.path [dh 4 [5] (oo 41 (.call (ff 178) [tt 37, tt 40]))] (.path [dh 6 [5, 0] (oo 43 (.bs 1 [(ci 0)]))] (.path [dh 7 [0] (oo 44 (.call (ff 178) [tt 42, tt 43]))] (.path [dl 8 (oo 9 (.mv (tt 41)))] (.path [dl 9 (oo 10 (.mv (tt 44)))] .fin))))) (.path [dh 6 [5, 0] (oo 43 (.bs 1 [(ci 0)]))] (.path [dh 4 [5] (oo 41 (.call (ff 178) [tt 37, tt 40]))] (.path [dh 7 [0] (oo 44 (.call (ff 178) [tt 42, tt 43]))] (.path [dl 8 (oo 9 (.mv (tt 41)))] (.path [dl 9 (oo 10 (.mv (tt 44)))] .fin))))))) (.path [dh 6 [5, 0] (oo 43 (.bs 1 [(ci 0)]))] (.path [dh 3 [5, 0] (oo 40 (.bs 1 [tt 38, tt 39]))] (.path [dh 4 [5] (oo 41 (.call (ff 178) [tt 37, tt 40]))] (.path [dh 7 [0] (oo 44 (.call (ff 178) [tt 42, tt 43]))] (.path [dl 8 (oo 9 (.mv (tt 41)))] (.path [dl 9 (oo 10 (.mv (tt 44)))] .fin)))))))))))
abbrev c_impl_ResistanceOf_10 : List GOp := [oo 45 (.mv (tt 9)), oo 46 (.mv (tt 10)), oo 47 (.call (ff 182) [tt 45, tt 46]), oo 11 (.mv (tt 47))]
abbrev c_impl_ResistanceOf_11 : List DOp := [dl 0 (oo 48 (.mv (tt 9))), dl 1 (oo 49 (.mv (tt 11))), dl 2 (oo 50 (.bin .quo (tt 48) (tt 49))), dl 3 (oo 51 (.mv (tt 10))), dl 4 (oo 52 (.mv (tt 11))), dl 5 (oo 53 (.bin .quo (tt 51) (tt 52))), dl 6 (oo 6 (.mv (tt 50))), dl 7 (oo 7 (.mv (tt 53))), dl 8 (oo 8 (.mv (ci 0)))]
abbrev c_impl_ResistanceOf : GCode := .seq (.reg c_impl_ResistanceOf_0) (.seq (.blk 0 (.seq (.reg c_impl_ResistanceOf_1) (.cond (tt 12) (.seq (.reg c_impl_ResistanceOf_2) (.ret)) (.seq (.reg c_impl_ResistanceOf_3) (.cond (tt 16) (.seq (.reg c_impl_ResistanceOf_4) (.ret)) (.seq (.reg c_impl_ResistanceOf_5) (.cond (tt 29) (.seq (.reg c_impl_ResistanceOf_6) (.ret)) (.seq (.reg c_impl_ResistanceOf_7) (.cond (tt 33) (.seq (.reg c_impl_ResistanceOf_8) (.ret)) (.skip)))))))))) (.seq (.dtree c_impl_ResistanceOf_9) (.seq (.reg c_impl_ResistanceOf_10) (.seq (.dreg c_impl_ResistanceOf_11) (.ret)))))
theorem c_impl_ResistanceOf_d : decFn Try.prog Try.f84 = some (54, [.t 6, .t 7, .t 8], c_impl_ResistanceOf) := by kernel_rfl
theorem c_impl_ResistanceOf_i {args : List Value} {G : GH} {K : Value → GH → Prop} (hn : args.length ≤ 54) (h : gW Try.prog c_impl_ResistanceOf (RetK [.t 6, .t 7, .t 8] K) (T0 args) G) : GC Try.prog 84 args G K := GC_intro mixed Try.func84 c_impl_ResistanceOf_d hn h
abbrev c_impl_ValidGraph_0 : List GOp := [oo 1 (.bx (tt 0)), oo 2 (.mv (cb  false))]
abbrev c_impl_ValidGraph_1 : List GOp := [oo 5 (.fa 1 (tt 1)), oo 6 (.ld (tt 5)), oo 7 (.len (tt 6)), oo 8 (.mv (ci 0))]
abbrev c_impl_ValidGraph_2 : List GOp := [oo 9 (.bin .lss (tt 8) (tt 7))]
abbrev c_impl_ValidGraph_3 : List GOp := [oo 10 (.mv (tt 8)), oo 11 (.ia 3 (tt 6) (tt 8)), oo 12 (.ldn 3 (tt 11)), oo 4 (.al [.int .i64 0, .int .i64 0, .int .i64 0]), oo 3 (.mv (tt 10)), on (.st 3 (tt 4) (tt 12))]
abbrev c_impl_ValidGraph_4 : List DOp := [dl 0 (oo 13 (.fa 0 (tt 4))), dl 1 (oo 14 (.ld (tt 13))), dl 2 (oo 15 (.bin .lss (tt 14) (ci 0))), dl 3 (oo 16 (.mv (tt 15))), dl 4 (og 17 16 false (.fa 0 (tt 4))), dl 5 (og 18 16 false (.ld (tt 17))), dl 6 (og 19 16 false (.fa 1 (tt 4))), dl 7 (og 20 16 false (.ld (tt 19))), dl 8 (og 21 16 false (.bin .geq (tt 18) (tt 20))), dl 9 (oo 22 (.pick (tt 16) (cb  true) (tt 21))), dl 10 (oo 23 (.mv (tt 22))), dl 11 (og 24 23 false (.fa 1 (tt 4))), dl 12 (og 25 23 false (.ld (tt 24))), dl 13 (og 26 23 false (.fa 0 (tt 1))), dl 14 (og 27 23 false (.ld (tt 26))), dl 15 (og 28 23 false (.bin .geq (tt 25) (tt 27))), dl 16 (oo 29 (.pick (tt 23) (cb  true) (tt 28))), dl 17 (oo 30 (.mv (tt 29))), dl 18 (og 31 30 false (.fa 2 (tt 4))), dl 19 (og 32 30 false (.ld (tt 31))), dh 20 [14, 12, 7, 5, 1] (og 33 30 false (.call (ff 122) [tt 32, (ci 1), (ci 9)])), dl 21 (og 34 30 false (.un .not (tt 33))), dl 22 (oo 35 (.pick (tt 30) (cb  true) (tt 34))), dl 23 (oo 36 (.mv (tt 35))), dl 24 (og 37 36 false (.mv (tt 3))), dl 25 (og 38 36 false (.bin .gtr (tt 37) (ci 0))), dl 26 (og 39 36 false (.mv (tt 38))), dl 27 (og 40 39 true (.fa 1 (tt 1))), dl 28 (og 41 39 true (.ld (tt 40))), dl 29 (og 42 39 true (.mv (tt 3))), dl 30 (og 43 39 true (.bin .sub (tt 42) (ci 1))), dl 31 (og 44 39 true (.ia 3 (tt 41) (tt 43))), dl 32 (og 45 39 true (.ldn 3 (tt 44))), dl 33 (og 46 39 true (.ldn 3 (tt 4))), dh 34 [28, 19, 14, 12, 7, 5, 1] (og 47 39 true (.call (ff 217) [tt 45, tt 46])), dl 35 (og 48 39 true (.bin .geq (tt 47) (ci 0))), dl 36 (og 49 36 false (.pick (tt 39) (tt 48) (cb  false))), dl 37 (oo 50 (.pick (tt 36) (cb  true) (tt 49)))]
abbrev c_impl_ValidGraph_5 : List GOp := [oo 2 (.mv (cb  false))]
abbrev c_impl_ValidGraph_6 : List GOp := [oo 51 (.bin .add (tt 8) (ci 1)), oo 8 (.mv (tt 51))]
abbrev c_impl_ValidGraph_l0 : GCode := .seq (.reg c_impl_ValidGraph_2) (.seq (.cond (tt 9) (.skip) (.exit 0)) (.seq (.blk 1 (.seq (.reg c_impl_ValidGraph_3) (.seq (.dreg c_impl_ValidGraph_4) (.cond (tt 50) (.seq (.reg c_impl_ValidGraph_5) (.ret)) (.skip))))) (.reg c_impl_ValidGraph_6)))
abbrev c_impl_ValidGraph_8 : List GOp := [oo 52 (.fa 0 (tt 1)), oo 53 (.ld (tt 52)), oo 54 (.call (ff 122) [tt 53, (ci 1), (ci 12)]), oo 55 (.mv (tt 54)), og 56 55 true (.fa 1 (tt 1)), og 57 55 true (.ld (tt 56)), og 58 55 true (.len (tt 57)), og 59 55 true (.bin .leq (tt 58) (ci 24)), oo 60 (.pick (tt 55) (tt 59) (cb  false)), oo 2 (.mv (tt 60))]
abbrev c_impl_ValidGraph : GCode := .seq (.reg c_impl_ValidGraph_0) (.seq (.seq (.reg c_impl_ValidGraph_1) (.blk 0 (.loop c_impl_ValidGraph_l0))) (.seq (.reg c_impl_ValidGraph_8) (.ret)))
theorem c_impl_ValidGraph_d : decFn Try.prog Try.f141 = some (61, [.t 2], c_impl_ValidGraph) := by kernel_rfl
theorem c_impl_ValidGraph_i {args : List Value} {G : GH} {K : Value → GH → Prop} (hn : args.length ≤ 61) (h : gW Try.prog c_impl_ValidGraph (RetK [.t 2] K) (T0 args) G) : GC Try.prog 141 args G K := GC_intro mixed Try.func141 c_impl_ValidGraph_d hn h
abbrev c_impl_addTimes_0 : List GOp := [oo 8 (.mv (.const (.slice none 0 0)))]
abbrev c_impl_addTimes_1 : List GOp := [oo 9 (.mv (.const (.slice none 0 0)))]
abbrev c_impl_addTimes_2 : List GOp := [oo 11 (.mv (tt 0)), oo 12 (.len (tt 11)), oo 13 (.mv (ci 0))]
abbrev c_impl_addTimes_3 : List GOp := [oo 14 (.bin .lss (tt 13) (tt 12))]
abbrev c_impl_addTimes_4 : List GOp := [oo 15 (.mv (tt 13)), oo 10 (.mv (tt 15))]
abbrev c_impl_addTimes_5 : List DOp := [dl 0 (oo 16 (.mv (tt 9))), dl 1 (oo 17 (.mv (tt 0))), dl 2 (oo 18 (.mv (tt 10))), dl 3 (oo 19 (.ia 1 (tt 17) (tt 18))), dl 4 (oo 20 (.ld (tt 19))), dl 5 (oo 21 (.mv (tt 2))), dl 6 (oo 22 (.mv (tt 1))), dl 7 (oo 23 (.mv (tt 10))), dl 8 (oo 24 (.ia 1 (tt 22) (tt 23))), dl 9 (oo 25 (.ld (tt 24))), dl 10 (oo 26 (.bin .mul (tt 21) (tt 25))), dl 11 (oo 27 (.bin .add (tt 20) (tt 26))), dl 12 (oo 28 (.mv (tt 3))), dl 13 (oo 29 (.bin .rem (tt 27) (tt 28))), dh 14 [9, 4] (oo 30 (.bs 1 [tt 29])), dh 15 [9, 4] (oo 31 (.ap 1 8 [.int .i64 0] (tt 16) (tt 30))), dl 16 (oo 9 (.mv (tt 31)))]
abbrev c_impl_addTimes_6 : List GOp := [oo 32 (.bin .add (tt 13) (ci 1)), oo 13 (.mv (tt 32))]
abbrev c_impl_addTimes_l0 : GCode := .seq (.reg c_impl_addTimes_3) (.seq (.cond (tt 14) (.skip) (.exit 0)) (.seq (.blk 1 (.seq (.reg c_impl_addTimes_4) (.dreg c_impl_addTimes_5))) (.reg c_impl_addTimes_6)))
abbrev c_impl_addTimes_8 : List GOp := [oo 33 (.mv (tt 9)), oo 8 (.mv (tt 33))]
abbrev c_impl_addTimes : GCode := .seq (.reg c_impl_addTimes_0) (.seq (.reg c_impl_addTimes_1) (.seq (.seq (.reg c_impl_addTimes_2) (.blk 0 (.loop c_impl_addTimes_l0))) (.seq (.reg c_impl_addTimes_8) (.ret))))
theorem c_impl_addTimes_d : decFn Try.prog Try.f255 = some (34, [.t 8], c_impl_addTimes) := by kernel_rfl
theorem c_impl_addTimes_i {args : List Value} {G : GH} {K : Value → GH → Prop} (hn : args.length ≤ 34) (h : gW Try.prog c_impl_addTimes (RetK [.t 8] K) (T0 args) G) : GC Try.prog 255 args G K := GC_intro mixed Try.func255 c_impl_addTimes_d hn h
abbrev c_impl_compareEdges_0 : List GOp := [oo 2 (.bx (tt 0)), oo 3 (.bx (tt 1)), oo 4 (.mv (ci 0))]
abbrev c_impl_compareEdges_1 : List DOp := [dl 0 (oo 5 (.fa 0 (tt 2))), dl 1 (oo 6 (.ld (tt 5))), dl 2 (oo 7 (.fa 0 (tt 3))), dl 3 (oo 8 (.ld (tt 7))), dl 5 (oo 10 (.fa 1 (tt 2))), dl 6 (oo 11 (.ld (tt 10))), dl 7 (oo 12 (.fa 1 (tt 3))), dl 8 (oo 13 (.ld (tt 12))), dh 4 [8, 6] (oo 9 (.call (ff 218) [tt 6, tt 8])), dh 9 [3, 1] (oo 14 (.call (ff 218) [tt 11, tt 13])), dh 10 [8, 6, 3, 1] (oo 15 (.bs 1 [tt 9, tt 14])), dh 11 [8, 6, 3, 1] (oo 16 (.call (ff 241) [tt 15])), dl 12 (oo 4 (.mv (tt 16)))]
abbrev c_impl_compareEdges : GCode := .seq (.reg c_impl_compareEdges_0) (.seq (.dreg c_impl_compareEdges_1) (.ret))
theorem c_impl_compareEdges_d : decFn Try.prog Try.f217 = some (17, [.t 4], c_impl_compareEdges) := by kernel_rfl
theorem c_impl_compareEdges_i {args : List Value} {G : GH} {K : Value → GH → Prop} (hn : args.length ≤ 17) (h : gW Try.prog c_impl_compareEdges (RetK [.t 4] K) (T0 args) G) : GC Try.prog 217 args G K := GC_intro mixed Try.func217 c_impl_compareEdges_d hn h
abbrev c_impl_components_0 : List GOp := [oo 1 (.bx (tt 0)), oo 2 (.mv (.const (.slice none 0 0)))]
abbrev c_impl_components_1 : List GOp := [oo 7 (.fa 0 (tt 1)), oo 8 (.ld (tt 7)), oo 9 (.call (ff 128) [tt 8]), oo 3 (.mv (tt 9))]
abbrev c_impl_components_2 : List GOp := [oo 10 (.fa 0 (tt 1)), oo 11 (.ld (tt 10)), oo 12 (.mv (ci 0))]
abbrev c_impl_components_3 : List GOp := [oo 13 (.bin .lss (tt 12) (tt 11))]
abbrev c_impl_components_4 : List GOp := [oo 14 (.fa 1 (tt 1)), oo 15 (.ld (tt 14)), oo 16 (.len (tt 15)), oo 17 (.mv (ci 0))]
abbrev c_impl_components_5 : List GOp := [oo 18 (.bin .lss (tt 17) (tt 16))]
abbrev c_impl_components_6 : List GOp := [oo 19 (.ia 3 (tt 15) (tt 17)), oo 20 (.ldn 3 (tt 19)), oo 5 (.al [.int .i64 0, .int .i64 0, .int .i64 0]), on (.st 3 (tt 5) (tt 20))]
abbrev c_impl_components_7 : List DOp := [dl 0 (oo 21 (.mv (tt 3))), dl 1 (oo 22 (.fa 0 (tt 5))), dl 2 (oo 23 (.ld (tt 22))), dl 3 (oo 24 (.ia 1 (tt 21) (tt 23))), dl 4 (oo 25 (.ld (tt 24))), dl 5 (oo 26 (.mv (tt 3))), dl 6 (oo 27 (.fa 1 (tt 5))), dl 7 (oo 28 (.ld (tt 27))), dl 8 (oo 29 (.ia 1 (tt 26) (tt 28))), dl 9 (oo 30 (.ld (tt 29))), dl 10 (oo 31 (.mn [tt 25, tt 30])), dl 11 (oo 6 (.mv (tt 31)))]
abbrev c_impl_components_8 : List DOp := [dl 0 (oo 32 (.mv (tt 3))), dl 1 (oo 33 (.fa 0 (tt 5))), dl 2 (oo 34 (.ld (tt 33))), dl 3 (oo 35 (.mv (tt 3))), dl 4 (oo 36 (.fa 1 (tt 5))), dl 5 (oo 37 (.ld (tt 36))), dl 6 (oo 38 (.mv (tt 6))), dl 7 (oo 39 (.mv (tt 6))), dl 8 (oo 40 (.ia 1 (tt 32) (tt 34))), dh 9 [5] (on (.st 1 (tt 40) (tt 38))), dl 10 (oo 41 (.ia 1 (tt 35) (tt 37))), dh 11 [] (on (.st 1 (tt 41) (tt 39)))]
abbrev c_impl_components_9 : List GOp := [oo 42 (.bin .add (tt 17) (ci 1)), oo 17 (.mv (tt 42))]
abbrev c_impl_components_l0 : GCode := .seq (.reg c_impl_components_5) (.seq (.cond (tt 18) (.skip) (.exit 2)) (.seq (.blk 3 (.seq (.reg c_impl_components_6) (.seq (.dreg c_impl_components_7) (.dreg c_impl_components_8)))) (.reg c_impl_components_9)))
abbrev c_impl_components_11 : List GOp := [oo 43 (.bin .add (tt 12) (ci 1)), oo 12 (.mv (tt 43))]
abbrev c_impl_components_l1 : GCode := .seq (.reg c_impl_components_3) (.seq (.cond (tt 13) (.skip) (.exit 0)) (.seq (.blk 1 (.seq (.reg c_impl_components_4) (.blk 2 (.loop c_impl_components_l0)))) (.reg c_impl_components_11)))
abbrev c_impl_components_13 : List GOp := [oo 44 (.mv (tt 3)), oo 2 (.mv (tt 44))]
abbrev c_impl_components : GCode := .seq (.reg c_impl_components_0) (.seq (.reg c_impl_components_1) (.seq (.seq (.reg c_impl_components_2) (.blk 0 (.loop c_impl_components_l1))) (.seq (.reg c_impl_components_13) (.ret))))
theorem c_impl_components_d : decFn Try.prog Try.f116 = some (45, [.t 2], c_impl_components) := by kernel_rfl
theorem c_impl_components_i {args : List Value} {G : GH} {K : Value → GH → Prop} (hn : args.length ≤ 45) (h : gW Try.prog c_impl_components (RetK [.t 2] K) (T0 args) G) : GC Try.prog 116 args G K := GC_intro mixed Try.func116 c_impl_components_d hn h
abbrev c_impl_eliminate_0 : List GOp := [oo 6 (.mv (.const (.slice none 0 0))), oo 7 (.mv (ci 0))]
abbrev c_impl_eliminate_1 : List GOp := [oo 8 (.mv (.const (.slice none 0 0)))]
abbrev c_impl_eliminate_2 : List GOp := [oo 9 (.mv (ci 1))]
abbrev c_impl_eliminate_3 : List GOp := [oo 16 (.mv (tt 1)), oo 17 (.mv (ci 0))]
abbrev c_impl_eliminate_4 : List GOp := [oo 18 (.bin .lss (tt 17) (tt 16))]
abbrev c_impl_eliminate_5 : List GOp := [oo 19 (.mv (tt 17)), oo 10 (.al [.int .i64 0]), on (.st 1 (tt 10) (tt 19))]
abbrev c_impl_eliminate_6 : List GOp := [oo 20 (.mv (tt 8)), oo 21 (.len (tt 20)), oo 11 (.mv (tt 21))]
abbrev c_impl_eliminate_7 : List GOp := [oo 22 (.mv (tt 0)), oo 23 (.mv (tt 11)), oo 24 (.sl 1 (tt 22) (some (tt 23)) none), oo 25 (.mf (.func 254) [] [tt 10]), oo 26 (.call (ff 253) [tt 24, tt 25]), oo 12 (.mv (tt 26))]
abbrev c_impl_eliminate_8 : List GOp := [oo 27 (.mv (tt 12)), oo 28 (.bin .lss (tt 27) (ci 0))]
abbrev c_impl_eliminate_9 : List GOp := [oo 9 (.mv (ci 0))]
abbrev c_impl_eliminate_10 : List GOp := [oo 29 (.mv (tt 12)), oo 30 (.bin .gtr (tt 29) (ci 0))]
abbrev c_impl_eliminate_11 : List DOp := [dl 0 (oo 31 (.mv (tt 0))), dl 1 (oo 32 (.mv (tt 11))), dl 2 (oo 33 (.mv (tt 0))), dl 3 (oo 34 (.mv (tt 11))), dl 4 (oo 35 (.mv (tt 12))), dl 5 (oo 36 (.bin .add (tt 34) (tt 35))), dl 6 (oo 37 (.mv (tt 0))), dl 7 (oo 38 (.mv (tt 11))), dl 8 (oo 39 (.mv (tt 12))), dl 9 (oo 40 (.bin .add (tt 38) (tt 39))), dl 10 (oo 41 (.ia 1 (tt 37) (tt 40))), dl 11 (oo 42 (.ld (tt 41))), dl 12 (oo 43 (.mv (tt 0))), dl 13 (oo 44 (.mv (tt 11))), dl 14 (oo 45 (.ia 1 (tt 43) (tt 44))), dl 15 (oo 46 (.ld (tt 45))), dl 16 (oo 47 (.ia 1 (tt 31) (tt 32))), dh 17 [] (on (.st 1 (tt 47) (tt 42))), dl 18 (oo 48 (.ia 1 (tt 33) (tt 36))), dh 19 [] (on (.st 1 (tt 48) (tt 46)))]
abbrev c_impl_eliminate_12 : List GOp := [oo 49 (.mv (tt 9)), oo 50 (.un .neg (tt 49)), oo 51 (.mv (tt 2)), oo 52 (.call (ff 165) [tt 50, tt 51]), oo 9 (.mv (tt 52))]
abbrev c_impl_eliminate_13 : List DOp := [dl 0 (oo 53 (.mv (tt 0))), dl 1 (oo 54 (.mv (tt 11))), dl 2 (oo 55 (.ia 1 (tt 53) (tt 54))), dl 3 (oo 56 (.ld (tt 55))), dl 4 (oo 57 (.ld (tt 10))), dl 5 (oo 58 (.ia 1 (tt 56) (tt 57))), dl 6 (oo 59 (.ld (tt 58))), dl 7 (oo 13 (.mv (tt 59)))]
abbrev c_impl_eliminate_14 : List GOp := [oo 60 (.mv (tt 9)), oo 61 (.mv (tt 13)), oo 62 (.bin .mul (tt 60) (tt 61)), oo 63 (.mv (tt 2)), oo 64 (.bin .rem (tt 62) (tt 63)), oo 9 (.mv (tt 64))]
abbrev c_impl_eliminate_15 : DT := (.path [dl 0 (oo 65 (.mv (tt 0)))] (.path [dl 1 (oo 66 (.mv (tt 11)))] (.path [dl 2 (oo 67 (.mv (tt 1)))] (.path [dl 4 (oo 69 (.mv (tt 0)))] (.path [dl 5 (oo 70 (.mv (tt 11)))] (.path [dl 6 (oo 71 (.ia 1 (tt 69) (tt 70)))] (.path [dl 7 (oo 72 (.ld (tt 71)))] (.path [dl 8 (oo 73 (.mv (tt 13)))] (.path [dl 9 (oo 74 (.mv (tt 2)))] (.path [dl 11 (oo 76 (.mv (tt 2)))] (.both (.path [dh 3 [7] (oo 68 (.mk 1 8 [.int .i64 0] (tt 67) (tt 67)))] (.path [dh 10 [7] (oo 75 (.call (ff 236) [tt 73, tt 74]))] (.path [dh 12 [] (oo 77 (.call (ff 255) [tt 68, tt 72, tt 75, tt 76]))] (.path [dl 13 (oo 78 (.ia 1 (tt 65) (tt 66)))] (.path [dh 14 [] (on (.st 1 (tt 78) (tt 77)))] .fin))))) (.path [dh 10 [7] (oo 75 (.call (ff 236) [tt 73, tt 74]))] (.path [dh 3 [7] (oo 68 (.mk 1 8 [.int .i64 0] (tt 67) (tt 67)))] (.path [dh 12 [] (oo 77 (.call (ff 255) [tt 68, tt 72, tt 75, tt 76]))] (.path [dl 13 (oo 78 (.ia 1 (tt 65) (tt 66)))] (.path [dh 14 [] (on (.st 1 (tt 78) (tt 77)))] .fin))))))))))))))))
abbrev c_impl_eliminate_16 : List GOp := [oo 79 (.mv (tt 0)), oo 80 (.len (tt 79)), oo 81 (.mv (ci 0))]
abbrev c_impl_eliminate_17 : List GOp := [oo 82 (.bin .lss (tt 81) (tt 80))]
abbrev c_impl_eliminate_18 : List GOp := [oo 83 (.mv (tt 81)), oo 84 (.ia 1 (tt 79) (tt 81)), oo 85 (.ld (tt 84)), oo 14 (.mv (tt 83)), oo 15 (.mv (tt 85))]
abbrev c_impl_eliminate_19 : List GOp := [oo 86 (.mv (tt 14)), oo 87 (.mv (tt 11)), oo 88 (.bin .neq (tt 86) (tt 87)), oo 89 (.mv (tt 88)), og 90 89 true (.mv (tt 15)), og 91 89 true (.ld (tt 10)), og 92 89 true (.ia 1 (tt 90) (tt 91)), og 93 89 true (.ld (tt 92)), og 94 89 true (.bin .neq (tt 93) (ci 0)), oo 95 (.pick (tt 89) (tt 94) (cb  false))]
abbrev c_impl_eliminate_20 : List DOp := [dl 0 (oo 96 (.mv (tt 0))), dl 1 (oo 97 (.mv (tt 14))), dl 2 (oo 98 (.mv (tt 15))), dl 3 (oo 99 (.mv (tt 0))), dl 4 (oo 100 (.mv (tt 11))), dl 5 (oo 101 (.ia 1 (tt 99) (tt 100))), dl 6 (oo 102 (.ld (tt 101))), dl 7 (oo 103 (.mv (tt 2))), dl 8 (oo 104 (.mv (tt 15))), dl 9 (oo 105 (.ld (tt 10))), dl 10 (oo 106 (.ia 1 (tt 104) (tt 105))), dl 11 (oo 107 (.ld (tt 106))), dl 12 (oo 108 (.bin .sub (tt 103) (tt 107))), dl 13 (oo 109 (.mv (tt 2))), dh 14 [11, 9] (oo 110 (.call (ff 255) [tt 98, tt 102, tt 108, tt 109])), dl 15 (oo 111 (.ia 1 (tt 96) (tt 97))), dh 16 [] (on (.st 1 (tt 111) (tt 110)))]
abbrev c_impl_eliminate_21 : List GOp := [oo 112 (.bin .add (tt 81) (ci 1)), oo 81 (.mv (tt 112))]
abbrev c_impl_eliminate_l0 : GCode := .seq (.reg c_impl_eliminate_17) (.seq (.cond (tt 82) (.skip) (.exit 2)) (.seq (.blk 3 (.seq (.reg c_impl_eliminate_18) (.seq (.reg c_impl_eliminate_19) (.cond (tt 95) (.dreg c_impl_eliminate_20) (.skip))))) (.reg c_impl_eliminate_21)))
abbrev c_impl_eliminate_23 : List GOp := [oo 113 (.mv (tt 8)), oo 114 (.ld (tt 10)), oo 115 (.bs 1 [tt 114]), oo 116 (.ap 1 8 [.int .i64 0] (tt 113) (tt 115)), oo 8 (.mv (tt 116))]
abbrev c_impl_eliminate_24 : List GOp := [oo 117 (.bin .add (tt 17) (ci 1)), oo 17 (.mv (tt 117))]
abbrev c_impl_eliminate_l1 : GCode := .seq (.reg c_impl_eliminate_4) (.seq (.cond (tt 18) (.skip) (.exit 0)) (.seq (.blk 1 (.seq (.reg c_impl_eliminate_5) (.seq (.reg c_impl_eliminate_6) (.seq (.reg c_impl_eliminate_7) (.seq (.seq (.reg c_impl_eliminate_8) (.cond (tt 28) (.seq (.reg c_impl_eliminate_9) (.exit 1)) (.skip))) (.seq (.seq (.reg c_impl_eliminate_10) (.cond (tt 30) (.seq (.dreg c_impl_eliminate_11) (.reg c_impl_eliminate_12)) (.skip))) (.seq (.dreg c_impl_eliminate_13) (.seq (.reg c_impl_eliminate_14) (.seq (.dtree c_impl_eliminate_15) (.seq (.seq (.reg c_impl_eliminate_16) (.blk 2 (.loop c_impl_eliminate_l0))) (.reg c_impl_eliminate_23))))))))))) (.reg c_impl_eliminate_24)))
abbrev c_impl_eliminate_26 : List GOp := [oo 118 (.mv (tt 8)), oo 119 (.mv (tt 9)), oo 6 (.mv (tt 118)), oo 7 (.mv (tt 119))]
abbrev c_impl_eliminate : GCode := .seq (.reg c_impl_eliminate_0) (.seq (.reg c_impl_eliminate_1) (.seq (.reg c_impl_eliminate_2) (.seq (.seq (.reg c_impl_eliminate_3) (.blk 0 (.loop c_impl_eliminate_l1))) (.seq (.reg c_impl_eliminate_26) (.ret)))))
theorem c_impl_eliminate_d : decFn Try.prog Try.f231 = some (120, [.t 6, .t 7], c_impl_eliminate) := by kernel_rfl
theorem c_impl_eliminate_i {args : List Value} {G : GH} {K : Value → GH → Prop} (hn : args.length ≤ 120) (h : gW Try.prog c_impl_eliminate (RetK [.t 6, .t 7] K) (T0 args) G) : GC Try.prog 231 args G K := GC_intro mixed Try.func231 c_impl_eliminate_d hn h
abbrev c_impl_eliminate_fn1_0 : List GOp := [oo 3 (.mv (cb  false))]
abbrev c_impl_eliminate_fn1_1 : List GOp := [oo 4 (.mv (tt 0)), oo 5 (.ld (tt 1)), oo 6 (.ia 1 (tt 4) (tt 5)), oo 7 (.ld (tt 6)), oo 8 (.bin .neq (tt 7) (ci 0)), oo 3 (.mv (tt 8))]
abbrev c_impl_eliminate_fn1 : GCode := .seq (.reg c_impl_eliminate_fn1_0) (.seq (.reg c_impl_eliminate_fn1_1) (.ret))
theorem c_impl_eliminate_fn1_d : decFn Try.prog Try.f254 = some (9, [.t 3], c_impl_eliminate_fn1) := by kernel_rfl
theorem c_impl_eliminate_fn1_i {args : List Value} {G : GH} {K : Value → GH → Prop} (hn : args.length ≤ 9) (h : gW Try.prog c_impl_eliminate_fn1 (RetK [.t 3] K) (T0 args) G) : GC Try.prog 254 args G K := GC_intro mixed Try.func254 c_impl_eliminate_fn1_d hn h
abbrev c_impl_firstChoice_0 : List GOp := [oo 2 (.mv (.const (.slice none 0 0)))]
abbrev c_impl_firstChoice_1 : List GOp := [oo 3 (.mv (.const (.slice none 0 0)))]
abbrev c_impl_firstChoice_2 : List GOp := [oo 5 (.mv (tt 0)), oo 6 (.mv (ci 0))]
abbrev c_impl_firstChoice_3 : List GOp := [oo 7 (.bin .lss (tt 6) (tt 5))]
abbrev c_impl_firstChoice_4 : List GOp := [oo 8 (.mv (tt 6)), oo 4 (.mv (tt 8))]
abbrev c_impl_firstChoice_5 : List GOp := [oo 9 (.mv (tt 3)), oo 10 (.mv (tt 4)), oo 11 (.bs 1 [tt 10]), oo 12 (.ap 1 8 [.int .i64 0] (tt 9) (tt 11)), oo 3 (.mv (tt 12))]
abbrev c_impl_firstChoice_6 : List GOp := [oo 13 (.bin .add (tt 6) (ci 1)), oo 6 (.mv (tt 13))]
abbrev c_impl_firstChoice_l0 : GCode := .seq (.reg c_impl_firstChoice_3) (.seq (.cond (tt 7) (.skip) (.exit 0)) (.seq (.blk 1 (.seq (.reg c_impl_firstChoice_4) (.reg c_impl_firstChoice_5))) (.reg c_impl_firstChoice_6)))
abbrev c_impl_firstChoice_8 : List GOp := [oo 14 (.mv (tt 3)), oo 2 (.mv (tt 14))]
abbrev c_impl_firstChoice : GCode := .seq (.reg c_impl_firstChoice_0) (.seq (.reg c_impl_firstChoice_1) (.seq (.seq (.reg c_impl_firstChoice_2) (.blk 0 (.loop c_impl_firstChoice_l0))) (.seq (.reg c_impl_firstChoice_8) (.ret))))
theorem c_impl_firstChoice_d : decFn Try.prog Try.f128 = some (15, [.t 2], c_impl_firstChoice) := by kernel_rfl
theorem c_impl_firstChoice_i {args : List Value} {G : GH} {K : Value → GH → Prop} (hn : args.length ≤ 15) (h : gW Try.prog c_impl_firstChoice (RetK [.t 2] K) (T0 args) G) : GC Try.prog 128 args G K := GC_intro mixed Try.func128 c_impl_firstChoice_d hn h
abbrev c_impl_gcd_0 : List GOp := [oo 4 (.mv (ci 0))]
abbrev c_impl_gcd_1 : List GOp := [oo 5 (.mv (tt 1)), oo 6 (.bin .neq (tt 5) (ci 0))]
abbrev c_impl_gcd_2 : List DOp := [dl 0 (oo 7 (.mv (tt 1))), dl 1 (oo 8 (.mv (tt 0))), dl 2 (oo 9 (.mv (tt 1))), dl 3 (oo 10 (.bin .rem (tt 8) (tt 9))), dl 4 (oo 0 (.mv (tt 7))), dl 5 (oo 1 (.mv (tt 10)))]
abbrev c_impl_gcd_l0 : GCode := .seq (.seq (.reg c_impl_gcd_1) (.cond (tt 6) (.skip) (.exit 0))) (.blk 1 (.dreg c_impl_gcd_2))
abbrev c_impl_gcd_4 : List GOp := [oo 11 (.mv (tt 0)), oo 4 (.mv (tt 11))]
abbrev c_impl_gcd : GCode := .seq (.reg c_impl_gcd_0) (.seq (.blk 0 (.loop c_impl_gcd_l0)) (.seq (.reg c_impl_gcd_4) (.ret)))
theorem c_impl_gcd_d : decFn Try.prog Try.f182 = some (12, [.t 4], c_impl_gcd) := by kernel_rfl
theorem c_impl_gcd_i {args : List Value} {G : GH} {K : Value → GH → Prop} (hn : args.length ≤ 12) (h : gW Try.prog c_impl_gcd (RetK [.t 4] K) (T0 args) G) : GC Try.prog 182 args G K := GC_intro mixed Try.func182 c_impl_gcd_d hn h
abbrev c_impl_inverseOf_0 : List GOp := [oo 4 (.mv (ci 0))]
abbrev c_impl_inverseOf_1 : List GOp := [oo 5 (.mv (tt 0)), oo 6 (.mv (tt 1)), oo 7 (.bin .sub (tt 6) (ci 2)), oo 8 (.mv (tt 1)), oo 9 (.call (ff 256) [tt 5, tt 7, tt 8]), oo 4 (.mv (tt 9))]
abbrev c_impl_inverseOf : GCode := .seq (.reg c_impl_inverseOf_0) (.seq (.reg c_impl_inverseOf_1) (.ret))
theorem c_impl_inverseOf_d : decFn Try.prog Try.f236 = some (10, [.t 4], c_impl_inverseOf) := by kernel_rfl
theorem c_impl_inverseOf_i {args : List Value} {G : GH} {K : Value → GH → Prop} (hn : args.length ≤ 10) (h : gW Try.prog c_impl_inverseOf (RetK [.t 4] K) (T0 args) G) : GC Try.prog 236 args G K := GC_intro mixed Try.func236 c_impl_inverseOf_d hn h
abbrev c_impl_isConnected_0 : List GOp := [oo 1 (.bx (tt 0)), oo 2 (.mv (cb  false))]
abbrev c_impl_isConnected_1 : List GOp := [oo 3 (.ldn 2 (tt 1)), oo 4 (.call (ff 116) [tt 3]), oo 5 (.call (ff 237) [tt 4]), oo 2 (.mv (tt 5))]
abbrev c_impl_isConnected : GCode := .seq (.reg c_impl_isConnected_0) (.seq (.reg c_impl_isConnected_1) (.ret))
theorem c_impl_isConnected_d : decFn Try.prog Try.f181 = some (6, [.t 2], c_impl_isConnected) := by kernel_rfl
theorem c_impl_isConnected_i {args : List Value} {G : GH} {K : Value → GH → Prop} (hn : args.length ≤ 6) (h : gW Try.prog c_impl_isConnected (RetK [.t 2] K) (T0 args) G) : GC Try.prog 181 args G K := GC_intro mixed Try.func181 c_impl_isConnected_d hn h
abbrev c_impl_isElement_0 : List GOp := [oo 4 (.mv (cb  false))]
abbrev c_impl_isElement_1 : List GOp := [oo 5 (.mv (tt 0)), oo 6 (.mv (tt 1)), oo 7 (.bin .sub (tt 6) (ci 1)), oo 8 (.call (ff 122) [tt 5, (ci 0), tt 7]), oo 4 (.mv (tt 8))]
abbrev c_impl_isElement : GCode := .seq (.reg c_impl_isElement_0) (.seq (.reg c_impl_isElement_1) (.ret))
theorem c_impl_isElement_d : decFn Try.prog Try.f180 = some (9, [.t 4], c_impl_isElement) := by kernel_rfl
theorem c_impl_isElement_i {args : List Value} {G : GH} {K : Value → GH → Prop} (hn : args.length ≤ 9) (h : gW Try.prog c_impl_isElement (RetK [.t 4] K) (T0 args) G) : GC Try.prog 180 args G K := GC_intro mixed Try.func180 c_impl_isElement_d hn h
abbrev c_impl_isZero_0 : List GOp := [oo 2 (.mv (cb  false))]
abbrev c_impl_isZero_1 : List GOp := [oo 3 (.mv (tt 0)), oo 4 (.call (ff 152) [tt 3, (ff 257)]), oo 5 (.un .not (tt 4)), oo 2 (.mv (tt 5))]
abbrev c_impl_isZero : GCode := .seq (.reg c_impl_isZero_0) (.seq (.reg c_impl_isZero_1) (.ret))
theorem c_impl_isZero_d : decFn Try.prog Try.f237 = some (6, [.t 2], c_impl_isZero) := by kernel_rfl
theorem c_impl_isZero_i {args : List Value} {G : GH} {K : Value → GH → Prop} (hn : args.length ≤ 6) (h : gW Try.prog c_impl_isZero (RetK [.t 2] K) (T0 args) G) : GC Try.prog 237 args G K := GC_intro mixed Try.func237 c_impl_isZero_d hn h
abbrev c_impl_isZero_fn1_0 : List GOp := [oo 2 (.mv (cb  false))]
abbrev c_impl_isZero_fn1_1 : List GOp := [oo 3 (.mv (tt 0)), oo 4 (.bin .neq (tt 3) (ci 0)), oo 2 (.mv (tt 4))]
abbrev c_impl_isZero_fn1 : GCode := .seq (.reg c_impl_isZero_fn1_0) (.seq (.reg c_impl_isZero_fn1_1) (.ret))
theorem c_impl_isZero_fn1_d : decFn Try.prog Try.f257 = some (5, [.t 2], c_impl_isZero_fn1) := by kernel_rfl
theorem c_impl_isZero_fn1_i {args : List Value} {G : GH} {K : Value → GH → Prop} (hn : args.length ≤ 5) (h : gW Try.prog c_impl_isZero_fn1 (RetK [.t 2] K) (T0 args) G) : GC Try.prog 257 args G K := GC_intro mixed Try.func257 c_impl_isZero_fn1_d hn h
abbrev c_impl_laplacian_0 : List GOp := [oo 1 (.bx (tt 0)), oo 2 (.mv (.const (.slice none 0 0)))]
abbrev c_impl_laplacian_1 : List GOp := [oo 7 (.fa 0 (tt 1)), oo 8 (.ld (tt 7)), oo 9 (.mk 1 24 [.slice none 0 0] (tt 8) (tt 8)), oo 3 (.mv (tt 9))]
abbrev c_impl_laplacian_2 : List GOp := [oo 10 (.mv (tt 3)), oo 11 (.len (tt 10)), oo 12 (.mv (ci 0))]
abbrev c_impl_laplacian_3 : List GOp := [oo 13 (.bin .lss (tt 12) (tt 11))]
abbrev c_impl_laplacian_4 : List GOp := [oo 14 (.mv (tt 12)), oo 4 (.mv (tt 14))]
abbrev c_impl_laplacian_5 : List GOp := [oo 15 (.mv (tt 3)), oo 16 (.mv (tt 4)), oo 17 (.fa 0 (tt 1)), oo 18 (.ld (tt 17)), oo 19 (.mk 1 8 [.int .i64 0] (tt 18) (tt 18)), oo 20 (.ia 1 (tt 15) (tt 16)), on (.st 1 (tt 20) (tt 19))]
abbrev c_impl_laplacian_6 : List GOp := [oo 21 (.bin .add (tt 12) (ci 1)), oo 12 (.mv (tt 21))]
abbrev c_impl_laplacian_l0 : GCode := .seq (.reg c_impl_laplacian_3) (.seq (.cond (tt 13) (.skip) (.exit 0)) (.seq (.blk 1 (.seq (.reg c_impl_laplacian_4) (.reg c_impl_laplacian_5))) (.reg c_impl_laplacian_6)))
abbrev c_impl_laplacian_8 : List GOp := [oo 22 (.fa 1 (tt 1)), oo 23 (.ld (tt 22)), oo 24 (.len (tt 23)), oo 25 (.mv (ci 0))]
abbrev c_impl_laplacian_9 : List GOp := [oo 26 (.bin .lss (tt 25) (tt 24))]
abbrev c_impl_laplacian_10 : List GOp := [oo 27 (.ia 3 (tt 23) (tt 25)), oo 28 (.ldn 3 (tt 27)), oo 6 (.al [.int .i64 0, .int .i64 0, .int .i64 0]), on (.st 3 (tt 6) (tt 28))]
abbrev c_impl_laplacian_11 : List DOp := [dl 0 (oo 29 (.mv (tt 3))), dl 1 (oo 30 (.fa 0 (tt 6))), dl 2 (oo 31 (.ld (tt 30))), dl 3 (oo 32 (.ia 1 (tt 29) (tt 31))), dl 4 (oo 33 (.ld (tt 32))), dl 5 (oo 34 (.fa 0 (tt 6))), dl 6 (oo 35 (.ld (tt 34))), dl 7 (oo 36 (.ia 1 (tt 33) (tt 35))), dl 8 (oo 37 (.ld (tt 36))), dl 9 (oo 38 (.fa 2 (tt 6))), dl 10 (oo 39 (.ld (tt 38))), dl 11 (oo 40 (.bin .add (tt 37) (tt 39))), dl 12 (oo 41 (.ia 1 (tt 33) (tt 35))), dh 13 [] (on (.st 1 (tt 41) (tt 40)))]
abbrev c_impl_laplacian_12 : List DOp := [dl 0 (oo 42 (.mv (tt 3))), dl 1 (oo 43 (.fa 1 (tt 6))), dl 2 (oo 44 (.ld (tt 43))), dl 3 (oo 45 (.ia 1 (tt 42) (tt 44))), dl 4 (oo 46 (.ld (tt 45))), dl 5 (oo 47 (.fa 1 (tt 6))), dl 6 (oo 48 (.ld (tt 47))), dl 7 (oo 49 (.ia 1 (tt 46) (tt 48))), dl 8 (oo 50 (.ld (tt 49))), dl 9 (oo 51 (.fa 2 (tt 6))), dl 10 (oo 52 (.ld (tt 51))), dl 11 (oo 53 (.bin .add (tt 50) (tt 52))), dl 12 (oo 54 (.ia 1 (tt 46) (tt 48))), dh 13 [] (on (.st 1 (tt 54) (tt 53)))]
abbrev c_impl_laplacian_13 : List DOp := [dl 0 (oo 55 (.mv (tt 3))), dl 1 (oo 56 (.fa 0 (tt 6))), dl 2 (oo 57 (.ld (tt 56))), dl 3 (oo 58 (.ia 1 (tt 55) (tt 57))), dl 4 (oo 59 (.ld (tt 58))), dl 5 (oo 60 (.fa 1 (tt 6))), dl 6 (oo 61 (.ld (tt 60))), dl 7 (oo 62 (.fa 2 (tt 6))), dl 8 (oo 63 (.ld (tt 62))), dl 9 (oo 64 (.un .neg (tt 63))), dl 10 (oo 65 (.ia 1 (tt 59) (tt 61))), dh 11 [] (on (.st 1 (tt 65) (tt 64)))]
abbrev c_impl_laplacian_14 : List DOp := [dl 0 (oo 66 (.mv (tt 3))), dl 1 (oo 67 (.fa 1 (tt 6))), dl 2 (oo 68 (.ld (tt 67))), dl 3 (oo 69 (.ia 1 (tt 66) (tt 68))), dl 4 (oo 70 (.ld (tt 69))), dl 5 (oo 71 (.fa 0 (tt 6))), dl 6 (oo 72 (.ld (tt 71))), dl 7 (oo 73 (.fa 2 (tt 6))), dl 8 (oo 74 (.ld (tt 73))), dl 9 (oo 75 (.un .neg (tt 74))), dl 10 (oo 76 (.ia 1 (tt 70) (tt 72))), dh 11 [] (on (.st 1 (tt 76) (tt 75)))]
abbrev c_impl_laplacian_15 : List GOp := [oo 77 (.bin .add (tt 25) (ci 1)), oo 25 (.mv (tt 77))]
abbrev c_impl_laplacian_l1 : GCode := .seq (.reg c_impl_laplacian_9) (.seq (.cond (tt 26) (.skip) (.exit 2)) (.seq (.blk 3 (.seq (.reg c_impl_laplacian_10) (.seq (.dreg c_impl_laplacian_11) (.seq (.dreg c_impl_laplacian_12) (.seq (.dreg c_impl_laplacian_13) (.dreg c_impl_laplacian_14)))))) (.reg c_impl_laplacian_15)))
abbrev c_impl_laplacian_17 : List GOp := [oo 78 (.mv (tt 3)), oo 2 (.mv (tt 78))]
abbrev c_impl_laplacian : GCode := .seq (.reg c_impl_laplacian_0) (.seq (.reg c_impl_laplacian_1) (.seq (.seq (.reg c_impl_laplacian_2) (.blk 0 (.loop c_impl_laplacian_l0))) (.seq (.seq (.reg c_impl_laplacian_8) (.blk 2 (.loop c_impl_laplacian_l1))) (.seq (.reg c_impl_laplacian_17) (.ret)))))
theorem c_impl_laplacian_d : decFn Try.prog Try.f148 = some (79, [.t 2], c_impl_laplacian) := by kernel_rfl
theorem c_impl_laplacian_i {args : List Value} {G : GH} {K : Value → GH → Prop} (hn : args.length ≤ 79) (h : gW Try.prog c_impl_laplacian (RetK [.t 2] K) (T0 args) G) : GC Try.prog 148 args G K := GC_intro mixed Try.func148 c_impl_laplacian_d hn h
abbrev c_impl_minor_0 : List GOp := [oo 2 (.bx (tt 0)), oo 4 (.mv (ci 0))]
abbrev c_impl_minor_1 : List GOp := [oo 5 (.mv (.const (.slice none 0 0)))]
abbrev c_impl_minor_2 : List GOp := [oo 13 (.ldn 2 (tt 2)), oo 14 (.call (ff 148) [tt 13]), oo 15 (.len (tt 14)), oo 16 (.mv (ci 0))]
abbrev c_impl_minor_3 : List GOp := [oo 17 (.bin .lss (tt 16) (tt 15))]
abbrev c_impl_minor_4 : List GOp := [oo 18 (.mv (tt 16)), oo 19 (.ia 1 (tt 14) (tt 16)), oo 20 (.ld (tt 19)), oo 6 (.mv (tt 18)), oo 7 (.mv (tt 20))]
abbrev c_impl_minor_5 : List GOp := [oo 21 (.mv (tt 1)), oo 22 (.mv (tt 6)), oo 23 (.call (ff 137) [tt 21, tt 22])]
abbrev c_impl_minor_6 : List GOp := [oo 8 (.mv (.const (.slice none 0 0)))]
abbrev c_impl_minor_7 : List GOp := [oo 24 (.mv (tt 7)), oo 25 (.len (tt 24)), oo 26 (.mv (ci 0))]
abbrev c_impl_minor_8 : List GOp := [oo 27 (.bin .lss (tt 26) (tt 25))]
abbrev c_impl_minor_9 : List GOp := [oo 28 (.mv (tt 26)), oo 29 (.ia 1 (tt 24) (tt 26)), oo 30 (.ld (tt 29)), oo 9 (.mv (tt 28)), oo 10 (.mv (tt 30))]
abbrev c_impl_minor_10 : List GOp := [oo 31 (.mv (tt 1)), oo 32 (.mv (tt 9)), oo 33 (.call (ff 137) [tt 31, tt 32]), oo 34 (.un .not (tt 33))]
abbrev c_impl_minor_11 : List GOp := [oo 35 (.mv (tt 8)), oo 36 (.mv (tt 10)), oo 37 (.bs 1 [tt 36]), oo 38 (.ap 1 8 [.int .i64 0] (tt 35) (tt 37)), oo 8 (.mv (tt 38))]
abbrev c_impl_minor_12 : List GOp := [oo 39 (.bin .add (tt 26) (ci 1)), oo 26 (.mv (tt 39))]
abbrev c_impl_minor_l0 : GCode := .seq (.reg c_impl_minor_8) (.seq (.cond (tt 27) (.skip) (.exit 2)) (.seq (.blk 3 (.seq (.reg c_impl_minor_9) (.seq (.reg c_impl_minor_10) (.cond (tt 34) (.reg c_impl_minor_11) (.skip))))) (.reg c_impl_minor_12)))
abbrev c_impl_minor_14 : List GOp := [oo 40 (.mv (tt 5)), oo 41 (.mv (tt 8)), oo 42 (.bs 1 [tt 41]), oo 43 (.ap 1 24 [.slice none 0 0] (tt 40) (tt 42)), oo 5 (.mv (tt 43))]
abbrev c_impl_minor_15 : List GOp := [oo 44 (.bin .add (tt 16) (ci 1)), oo 16 (.mv (tt 44))]
abbrev c_impl_minor_l1 : GCode := .seq (.reg c_impl_minor_3) (.seq (.cond (tt 17) (.skip) (.exit 0)) (.seq (.blk 1 (.seq (.reg c_impl_minor_4) (.seq (.seq (.reg c_impl_minor_5) (.cond (tt 23) (.exit 1) (.skip))) (.seq (.reg c_impl_minor_6) (.seq (.seq (.reg c_impl_minor_7) (.blk 2 (.loop c_impl_minor_l0))) (.reg c_impl_minor_14)))))) (.reg c_impl_minor_15)))
abbrev c_impl_minor_17 : List GOp := [oo 45 (.mv (tt 5)), oo 46 (.call (ff 235) [tt 45, (ci 1000000007)]), oo 47 (.mv (tt 5)), oo 48 (.call (ff 235) [tt 47, (ci 1000000009)]), oo 11 (.mv (tt 46)), oo 12 (.mv (tt 48))]
abbrev c_impl_minor_18 : List GOp := [oo 49 (.mv (tt 11)), oo 50 (.mv (tt 12)), oo 51 (.mv (tt 11)), oo 52 (.bin .sub (tt 50) (tt 51)), oo 53 (.call (ff 165) [tt 52, (ci 1000000009)]), oo 54 (.call (ff 236) [(ci 1000000007), (ci 1000000009)]), oo 55 (.bin .mul (tt 53) (tt 54)), oo 56 (.bin .rem (tt 55) (ci 1000000009)), oo 57 (.bin .mul (ci 1000000007) (tt 56)), oo 58 (.bin .add (tt 49) (tt 57)), oo 4 (.mv (tt 58))]
abbrev c_impl_minor : GCode := .seq (.reg c_impl_minor_0) (.seq (.reg c_impl_minor_1) (.seq (.seq (.reg c_impl_minor_2) (.blk 0 (.loop c_impl_minor_l1))) (.seq (.reg c_impl_minor_17) (.seq (.reg c_impl_minor_18) (.ret)))))
theorem c_impl_minor_d : decFn Try.prog Try.f178 = some (59, [.t 4], c_impl_minor) := by kernel_rfl
theorem c_impl_minor_i {args : List Value} {G : GH} {K : Value → GH → Prop} (hn : args.length ≤ 59) (h : gW Try.prog c_impl_minor (RetK [.t 4] K) (T0 args) G) : GC Try.prog 178 args G K := GC_intro mixed Try.func178 c_impl_minor_d hn h
abbrev c_impl_modularDet_0 : List GOp := [oo 4 (.mv (ci 0))]
abbrev c_impl_modularDet_1 : List GOp := [oo 5 (.mv (.const (.slice none 0 0)))]
abbrev c_impl_modularDet_2 : List GOp := [oo 13 (.mv (tt 0)), oo 14 (.len (tt 13)), oo 15 (.mv (ci 0))]
abbrev c_impl_modularDet_3 : List GOp := [oo 16 (.bin .lss (tt 15) (tt 14))]
abbrev c_impl_modularDet_4 : List GOp := [oo 17 (.ia 1 (tt 13) (tt 15)), oo 18 (.ld (tt 17)), oo 7 (.mv (tt 18))]
abbrev c_impl_modularDet_5 : List GOp := [oo 8 (.mv (.const (.slice none 0 0)))]
abbrev c_impl_modularDet_6 : List GOp := [oo 19 (.mv (tt 7)), oo 20 (.len (tt 19)), oo 21 (.mv (ci 0))]
abbrev c_impl_modularDet_7 : List GOp := [oo 22 (.bin .lss (tt 21) (tt 20))]
abbrev c_impl_modularDet_8 : List GOp := [oo 23 (.ia 1 (tt 19) (tt 21)), oo 24 (.ld (tt 23)), oo 10 (.mv (tt 24))]
abbrev c_impl_modularDet_9 : List GOp := [oo 25 (.mv (tt 8)), oo 26 (.mv (tt 10)), oo 27 (.mv (tt 1)), oo 28 (.call (ff 165) [tt 26, tt 27]), oo 29 (.bs 1 [tt 28]), oo 30 (.ap 1 8 [.int .i64 0] (tt 25) (tt 29)), oo 8 (.mv (tt 30))]
abbrev c_impl_modularDet_10 : List GOp := [oo 31 (.bin .add (tt 21) (ci 1)), oo 21 (.mv (tt 31))]
abbrev c_impl_modularDet_l0 : GCode := .seq (.reg c_impl_modularDet_7) (.seq (.cond (tt 22) (.skip) (.exit 2)) (.seq (.blk 3 (.seq (.reg c_impl_modularDet_8) (.reg c_impl_modularDet_9))) (.reg c_impl_modularDet_10)))
abbrev c_impl_modularDet_12 : List GOp := [oo 32 (.mv (tt 5)), oo 33 (.mv (tt 8)), oo 34 (.bs 1 [tt 33]), oo 35 (.ap 1 24 [.slice none 0 0] (tt 32) (tt 34)), oo 5 (.mv (tt 35))]
abbrev c_impl_modularDet_13 : List GOp := [oo 36 (.bin .add (tt 15) (ci 1)), oo 15 (.mv (tt 36))]
abbrev c_impl_modularDet_l1 : GCode := .seq (.reg c_impl_modularDet_3) (.seq (.cond (tt 16) (.skip) (.exit 0)) (.seq (.blk 1 (.seq (.reg c_impl_modularDet_4) (.seq (.reg c_impl_modularDet_5) (.seq (.seq (.reg c_impl_modularDet_6) (.blk 2 (.loop c_impl_modularDet_l0))) (.reg c_impl_modularDet_12))))) (.reg c_impl_modularDet_13)))
abbrev c_impl_modularDet_15 : List GOp := [oo 38 (.mv (tt 5)), oo 39 (.mv (tt 0)), oo 40 (.call (ff 228) [tt 39]), oo 41 (.mv (tt 1)), oo 42 (.call (ff 231) [tt 38, tt 40, tt 41]), oo 37 (.mv (tt 42)), oo 43 (.ex 0 (tt 37)), oo 44 (.ex 1 (tt 37)), oo 11 (.mv (tt 43)), oo 12 (.mv (tt 44))]
abbrev c_impl_modularDet_16 : List GOp := [oo 45 (.mv (tt 12)), oo 4 (.mv (tt 45))]
abbrev c_impl_modularDet : GCode := .seq (.reg c_impl_modularDet_0) (.seq (.reg c_impl_modularDet_1) (.seq (.seq (.reg c_impl_modularDet_2) (.blk 0 (.loop c_impl_modularDet_l1))) (.seq (.reg c_impl_modularDet_15) (.seq (.reg c_impl_modularDet_16) (.ret)))))
theorem c_impl_modularDet_d : decFn Try.prog Try.f235 = some (46, [.t 4], c_impl_modularDet) := by kernel_rfl
theorem c_impl_modularDet_i {args : List Value} {G : GH} {K : Value → GH → Prop} (hn : args.length ≤ 46) (h : gW Try.prog c_impl_modularDet (RetK [.t 4] K) (T0 args) G) : GC Try.prog 235 args G K := GC_intro mixed Try.func235 c_impl_modularDet_d hn h
abbrev c_impl_powerOf_0 : List GOp := [oo 6 (.mv (ci 0))]
abbrev c_impl_powerOf_1 : List GOp := [oo 7 (.mv (ci 1))]
abbrev c_impl_powerOf_2 : List GOp := [oo 8 (.mv (tt 1)), oo 9 (.bin .gtr (tt 8) (ci 0))]
abbrev c_impl_powerOf_3 : List GOp := [oo 12 (.mv (tt 1)), oo 13 (.bin .rem (tt 12) (ci 2)), oo 14 (.bin .eql (tt 13) (ci 1))]
abbrev c_impl_powerOf_4 : List GOp := [oo 15 (.mv (tt 7)), oo 16 (.mv (tt 0)), oo 17 (.bin .mul (tt 15) (tt 16)), oo 18 (.mv (tt 2)), oo 19 (.bin .rem (tt 17) (tt 18)), oo 7 (.mv (tt 19))]
abbrev c_impl_powerOf_5 : List GOp := [oo 20 (.mv (tt 0)), oo 21 (.mv (tt 0)), oo 22 (.bin .mul (tt 20) (tt 21)), oo 23 (.mv (tt 2)), oo 24 (.bin .rem (tt 22) (tt 23)), oo 0 (.mv (tt 24))]
abbrev c_impl_powerOf_6 : List GOp := [oo 10 (.mv (tt 1)), oo 11 (.bin .quo (tt 10) (ci 2)), oo 1 (.mv (tt 11))]
abbrev c_impl_powerOf_l0 : GCode := .seq (.seq (.reg c_impl_powerOf_2) (.cond (tt 9) (.skip) (.exit 0))) (.seq (.blk 1 (.seq (.seq (.reg c_impl_powerOf_3) (.cond (tt 14) (.reg c_impl_powerOf_4) (.skip))) (.reg c_impl_powerOf_5))) (.reg c_impl_powerOf_6))
abbrev c_impl_powerOf_8 : List GOp := [oo 25 (.mv (tt 7)), oo 6 (.mv (tt 25))]
abbrev c_impl_powerOf : GCode := .seq (.reg c_impl_powerOf_0) (.seq (.reg c_impl_powerOf_1) (.seq (.blk 0 (.loop c_impl_powerOf_l0)) (.seq (.reg c_impl_powerOf_8) (.ret))))
theorem c_impl_powerOf_d : decFn Try.prog Try.f256 = some (26, [.t 6], c_impl_powerOf) := by kernel_rfl
theorem c_impl_powerOf_i {args : List Value} {G : GH} {K : Value → GH → Prop} (hn : args.length ≤ 26) (h : gW Try.prog c_impl_powerOf (RetK [.t 6] K) (T0 args) G) : GC Try.prog 256 args G K := GC_intro mixed Try.func256 c_impl_powerOf_d hn h
abbrev c_impl_reduce_0 : List GOp := [oo 4 (.mv (ci 0))]
abbrev c_impl_reduce_1 : List GOp := [oo 5 (.mv (tt 0)), oo 6 (.mv (tt 1)), oo 7 (.bin .rem (tt 5) (tt 6)), oo 8 (.mv (tt 1)), oo 9 (.bin .add (tt 7) (tt 8)), oo 10 (.mv (tt 1)), oo 11 (.bin .rem (tt 9) (tt 10)), oo 4 (.mv (tt 11))]
abbrev c_impl_reduce : GCode := .seq (.reg c_impl_reduce_0) (.seq (.reg c_impl_reduce_1) (.ret))
theorem c_impl_reduce_d : decFn Try.prog Try.f165 = some (12, [.t 4], c_impl_reduce) := by kernel_rfl
theorem c_impl_reduce_i {args : List Value} {G : GH} {K : Value → GH → Prop} (hn : args.length ≤ 12) (h : gW Try.prog c_impl_reduce (RetK [.t 4] K) (T0 args) G) : GC Try.prog 165 args G K := GC_intro mixed Try.func165 c_impl_reduce_d hn h
abbrev c_impl_size_S_int64_0 : List GOp := [oo 2 (.mv (ci 0))]
abbrev c_impl_size_S_int64_1 : List GOp := [oo 3 (.mv (tt 0)), oo 4 (.len (tt 3)), oo 2 (.mv (tt 4))]
abbrev c_impl_size_S_int64 : GCode := .seq (.reg c_impl_size_S_int64_0) (.seq (.reg c_impl_size_S_int64_1) (.ret))
theorem c_impl_size_S_int64_d : decFn Try.prog Try.f228 = some (5, [.t 2], c_impl_size_S_int64) := by kernel_rfl
theorem c_impl_size_S_int64_i {args : List Value} {G : GH} {K : Value → GH → Prop} (hn : args.length ≤ 5) (h : gW Try.prog c_impl_size_S_int64 (RetK [.t 2] K) (T0 args) G) : GC Try.prog 228 args G K := GC_intro mixed Try.func228 c_impl_size_S_int64_d hn h
abbrev c_impl_within_0 : List GOp := [oo 6 (.mv (cb  false))]
abbrev c_impl_within_1 : List GOp := [oo 7 (.mv (tt 0)), oo 8 (.mv (tt 1)), oo 9 (.bin .geq (tt 7) (tt 8)), oo 10 (.mv (tt 9)), og 11 10 true (.mv (tt 0)), og 12 10 true (.mv (tt 2)), og 13 10 true (.bin .leq (tt 11) (tt 12)), oo 14 (.pick (tt 10) (tt 13) (cb  false)), oo 6 (.mv (tt 14))]
abbrev c_impl_within : GCode := .seq (.reg c_impl_within_0) (.seq (.reg c_impl_within_1) (.ret))
theorem c_impl_within_d : decFn Try.prog Try.f122 = some (15, [.t 6], c_impl_within) := by kernel_rfl
theorem c_impl_within_i {args : List Value} {G : GH} {K : Value → GH → Prop} (hn : args.length ≤ 15) (h : gW Try.prog c_impl_within (RetK [.t 6] K) (T0 args) G) : GC Try.prog 122 args G K := GC_intro mixed Try.func122 c_impl_within_d hn h
abbrev c_laws_FnTrees_0 : List GOp := [oo 4 (.mv (cb  false))]
abbrev c_laws_FnTrees_1 : List GOp := [oo 24 (.mv (tt 0)), oo 25 (.call (ff 56) [tt 24]), oo 26 (.mv (tt 25)), og 27 26 false (.mv (tt 1)), og 28 26 false (.call (ff 56) [tt 27]), oo 29 (.pick (tt 26) (cb  true) (tt 28))]
abbrev c_laws_FnTrees_2 : List GOp := [oo 4 (.mv (cb  true))]
abbrev c_laws_FnTrees_3 : List GOp := [oo 30 (.mv (tt 0)), oo 31 (.call (ff 85) [tt 30]), oo 5 (.al [.int .i64 0, .slice none 0 0]), on (.st 2 (tt 5) (tt 31))]
abbrev c_laws_FnTrees_4 : List GOp := [oo 33 (.ldn 2 (tt 5)), oo 34 (.call (ff 82) [tt 33]), oo 32 (.mv (tt 34)), oo 35 (.ex 0 (tt 32)), oo 36 (.ex 1 (tt 32)), oo 6 (.mv (tt 35)), oo 7 (.mv (tt 36))]
abbrev c_laws_FnTrees_5 : List GOp := [oo 37 (.mv (tt 7)), oo 38 (.bin .eql (tt 37) (ci 0)), oo 39 (.mv (tt 38)), og 40 39 true (.fa 1 (tt 5)), og 41 39 true (.ld (tt 40)), og 42 39 true (.len (tt 41)), og 43 39 true (.bin .gtr (tt 42) (ci 0)), oo 44 (.pick (tt 39) (tt 43) (cb  false))]
abbrev c_laws_FnTrees_6 : List GOp := [oo 45 (.fa 1 (tt 5)), oo 46 (.ld (tt 45)), oo 47 (.fa 1 (tt 5)), oo 48 (.ld (tt 47)), oo 49 (.len (tt 48)), oo 50 (.bin .sub (tt 49) (ci 1)), oo 51 (.ia 3 (tt 46) (tt 50)), oo 52 (.ldn 3 (tt 51)), oo 8 (.al [.int .i64 0, .int .i64 0, .int .i64 0]), on (.st 3 (tt 8) (tt 52))]
abbrev c_laws_FnTrees_7 : DT := (.path [dl 0 (oo 53 (.fa 0 (tt 5)))] (.path [dl 1 (oo 54 (.ld (tt 53)))] (.path [dl 3 (oo 56 (.fa 1 (tt 5)))] (.path [dl 4 (oo 57 (.ld (tt 56)))] (.path [dl 5 (oo 58 (.fa 1 (tt 5)))] (.path [dl 6 (oo 59 (.ld (tt 58)))] (.path [dl 7 (oo 60 (.len (tt 59)))] (.path [dl 8 (oo 61 (.bin .sub (tt 60) (ci 1)))] (.path [dl 9 (oo 62 (.sl 3 (tt 57) none (some (tt 61))))] (.both (.path [dh 2 [6, 4, 1] (oo 55 (.bs 3 []))] (.both (.path [dh 10 [6, 4, 1] (oo 63 (.ap 3 24 [.int .i64 0, .int .i64 0, .int .i64 0] (tt 55) (tt 62)))] (.path [dl 11 (oo 64 (.bld [.int .i64 0, .slice none 0 0] [(0, 1, (tt 54)), (1, 1, (tt 63))]))] (.path [dh 12 [6, 4, 1] (oo 9 (.al [.int .i64 0, .slice none 0 0]))] (.path [dh 13 [] (on (.st 2 (tt 9) (tt 64)))] .fin)))) (.path [dh 12 [6, 4, 1] (oo 9 (.al [.int .i64 0, .slice none 0 0]))] (.path [dh 10 [6, 4, 1] (oo 63 (.ap 3 24 [.int .i64 0, .int .i64 0, .int .i64 0] (tt 55) (tt 62)))] (.path [dl 11 (oo 64 (.bld [.int .i64 0, .slice none 0 0] [(0, 1, (tt 54)), (1, 1, (tt 63))]))] (.path [dh 13 [] (on (.st 2 (tt 9) (tt 64)))] .fin)))))) (.path [dh 12 [6, 4, 1] (oo 9 (.al [.int .i64 0, .slice none 0 0]))] (.path [dh 2 [6, 4, 1] (oo 55 (.bs 3 []))] (.path [dh 10 [6, 4, 1] (oo 63 (.ap 3 24 [.int .i64 0, .int .i64 0, .int .i64 0] (tt 55) (tt 62)))] (.path [dl 11 (oo 64 (.bld [.int .i64 0, .slice none 0 0] [(0, 1, (tt 54)), (1, 1, (tt 63))]))] (.path [dh 13 [] (on (.st 2 (tt 9) (tt 64)))] .fin)))))))))))))))
abbrev c_laws_FnTrees_8 : List GOp := [oo 66 (.ldn 2 (tt 9)), oo 67 (.call (ff 82) [tt 66]), oo 65 (.mv (tt 67)), oo 68 (.ex 0 (tt 65)), oo 69 (.ex 1 (tt 65)), oo 10 (.mv (tt 68)), oo 11 (.mv (tt 69))]
abbrev c_laws_FnTrees_9 : List GOp := [oo 71 (.ldn 2 (tt 5)), oo 72 (.fa 0 (tt 8)), oo 73 (.ld (tt 72)), oo 74 (.fa 1 (tt 8)), oo 75 (.ld (tt 74)), oo 76 (.call (ff 84) [tt 71, tt 73, tt 75]), oo 70 (.mv (tt 76)), oo 77 (.ex 0 (tt 70)), oo 78 (.ex 1 (tt 70)), oo 79 (.ex 2 (tt 70)), oo 12 (.mv (tt 77)), oo 13 (.mv (tt 78)), oo 14 (.mv (tt 79))]
abbrev c_laws_FnTrees_10 : List GOp := [oo 80 (.mv (tt 11)), oo 81 (.bin .neq (tt 80) (ci 0)), oo 82 (.mv (tt 81)), og 83 82 false (.mv (tt 10)), og 84 82 false (.bin .lss (tt 83) (ci 0)), oo 85 (.pick (tt 82) (cb  true) (tt 84)), oo 86 (.mv (tt 85)), og 87 86 false (.mv (tt 6)), og 88 86 false (.mv (tt 10)), og 89 86 false (.bin .lss (tt 87) (tt 88)), oo 90 (.pick (tt 86) (cb  true) (tt 89)), oo 91 (.mv (tt 90)), og 92 91 false (.mv (tt 6)), og 93 91 false (.bin .eql (tt 92) (ci 0)), og 94 91 false (.mv (tt 14)), og 95 91 false (.bin .neq (tt 94) (ci 0)), og 96 91 false (.eqb true (tt 93) (tt 95)), oo 97 (.pick (tt 91) (cb  true) (tt 96))]
abbrev c_laws_FnTrees_11 : List GOp := [oo 4 (.mv (cb  false))]
abbrev c_laws_FnTrees_12 : List DOp := [dl 0 (oo 98 (.mv (tt 14))), dl 1 (oo 99 (.bin .eql (tt 98) (ci 0))), dl 2 (oo 100 (.mv (tt 99))), dl 3 (og 101 100 true (.mv (tt 13))), dl 4 (og 102 100 true (.bin .lss (tt 101) (ci 1))), dl 5 (og 103 100 true (.mv (tt 102))), dl 6 (og 104 103 false (.mv (tt 12))), dl 7 (og 105 103 false (.bin .lss (tt 104) (ci 1))), dl 8 (og 106 100 true (.pick (tt 103) (cb  true) (tt 105))), dl 9 (og 107 100 true (.mv (tt 106))), dl 10 (og 108 107 false (.mv (tt 6))), dl 11 (og 109 107 false (.mv (tt 13))), dl 12 (og 110 107 false (.bin .rem (tt 108) (tt 109))), dl 13 (og 111 107 false (.bin .neq (tt 110) (ci 0))), dl 14 (og 112 100 true (.pick (tt 107) (cb  true) (tt 111))), dl 15 (og 113 100 true (.mv (tt 112))), dl 16 (og 114 113 false (.mv (tt 6))), dl 17 (og 115 113 false (.mv (tt 13))), dl 18 (og 116 113 false (.bin .quo (tt 114) (tt 115))), dl 19 (og 117 113 false (.mv (tt 12))), dl 20 (og 118 113 false (.bin .mul (tt 116) (tt 117))), dl 21 (og 119 113 false (.fa 2 (tt 8))), dl 22 (og 120 113 false (.ld (tt 119))), dl 23 (og 121 113 false (.bin .mul (tt 118) (tt 120))), dl 24 (og 122 113 false (.mv (tt 6))), dl 25 (og 123 113 false (.mv (tt 10))), dl 26 (og 124 113 false (.bin .sub (tt 122) (tt 123))), dl 27 (og 125 113 false (.bin .neq (tt 121) (tt 124))), dl 28 (og 126 100 true (.pick (tt 113) (cb  true) (tt 125))), dl 29 (oo 127 (.pick (tt 100) (tt 126) (cb  false)))]
abbrev c_laws_FnTrees_13 : List GOp := [oo 4 (.mv (cb  false))]
abbrev c_laws_FnTrees_14 : List GOp := [oo 129 (.mv (tt 1)), oo 130 (.call (ff 86) [tt 129]), oo 128 (.mv (tt 130)), oo 131 (.ex 0 (tt 128)), oo 132 (.ex 1 (tt 128)), oo 133 (.ex 2 (tt 128)), oo 15 (.al [.int .i64 0, .slice none 0 0]), on (.st 2 (tt 15) (tt 131)), oo 16 (.mv (tt 132)), oo 17 (.mv (tt 133))]
abbrev c_laws_FnTrees_15 : List GOp := [oo 135 (.ldn 2 (tt 15)), oo 136 (.mv (tt 16)), oo 137 (.mv (tt 17)), oo 138 (.call (ff 84) [tt 135, tt 136, tt 137]), oo 134 (.mv (tt 138)), oo 139 (.ex 0 (tt 134)), oo 140 (.ex 1 (tt 134)), oo 141 (.ex 2 (tt 134)), oo 18 (.mv (tt 139)), oo 19 (.mv (tt 140)), oo 20 (.mv (tt 141))]
abbrev c_laws_FnTrees_16 : List GOp := [oo 143 (.ldn 2 (tt 15)), oo 144 (.mv (tt 17)), oo 145 (.mv (tt 16)), oo 146 (.call (ff 84) [tt 143, tt 144, tt 145]), oo 142 (.mv (tt 146)), oo 147 (.ex 0 (tt 142)), oo 148 (.ex 1 (tt 142)), oo 149 (.ex 2 (tt 142)), oo 21 (.mv (tt 147)), oo 22 (.mv (tt 148)), oo 23 (.mv (tt 149))]
abbrev c_laws_FnTrees_17 : List GOp := [oo 150 (.mv (tt 20)), oo 151 (.mv (tt 23)), oo 152 (.bin .eql (tt 150) (tt 151)), oo 153 (.mv (tt 152)), og 154 153 true (.mv (tt 18)), og 155 153 true (.mv (tt 21)), og 156 153 true (.bin .eql (tt 154) (tt 155)), oo 157 (.pick (tt 153) (tt 156) (cb  false)), oo 158 (.mv (tt 157)), og 159 158 true (.mv (tt 19)), og 160 158 true (.mv (tt 22)), og 161 158 true (.bin .eql (tt 159) (tt 160)), oo 162 (.pick (tt 158) (tt 161) (cb  false)), oo 163 (.mv (tt 162)), og 164 163 true (.mv (tt 20)), og 165 163 true (.bin .neq (tt 164) (ci 0)), og 166 163 true (.mv (tt 165)), og 167 166 false (.mv (tt 19)), og 168 166 false (.bin .geq (tt 167) (ci 1)), og 169 166 false (.mv (tt 168)), og 170 169 true (.mv (tt 18)), og 171 169 true (.bin .eql (tt 170) (ci 0)), og 172 169 true (.mv (tt 16)), og 173 169 true (.mv (tt 17)), og 174 169 true (.bin .eql (tt 172) (tt 173)), og 175 169 true (.eqb false (tt 171) (tt 174)), og 176 166 false (.pick (tt 169) (tt 175) (cb  false)), og 177 163 true (.pick (tt 166) (cb  true) (tt 176)), oo 178 (.pick (tt 163) (tt 177) (cb  false)), oo 4 (.mv (tt 178))]
abbrev c_laws_FnTrees : GCode := .seq (.reg c_laws_FnTrees_0) (.seq (.seq (.reg c_laws_FnTrees_1) (.cond (tt 29) (.seq (.reg c_laws_FnTrees_2) (.ret)) (.skip))) (.seq (.reg c_laws_FnTrees_3) (.seq (.reg c_laws_FnTrees_4) (.seq (.seq (.reg c_laws_FnTrees_5) (.cond (tt 44) (.seq (.reg c_laws_FnTrees_6) (.seq (.dtree c_laws_FnTrees_7) (.seq (.reg c_laws_FnTrees_8) (.seq (.reg c_laws_FnTrees_9) (.seq (.seq (.reg c_laws_FnTrees_10) (.cond (tt 97) (.seq (.reg c_laws_FnTrees_11) (.ret)) (.skip))) (.seq (.dreg c_laws_FnTrees_12) (.cond (tt 127) (.seq (.reg c_laws_FnTrees_13) (.ret)) (.skip)))))))) (.skip))) (.seq (.reg c_laws_FnTrees_14) (.seq (.reg c_laws_FnTrees_15) (.seq (.reg c_laws_FnTrees_16) (.seq (.reg c_laws_FnTrees_17) (.ret)))))))))
theorem c_laws_FnTrees_d : decFn Try.prog Try.f21 = some (179, [.t 4], c_laws_FnTrees) := by kernel_rfl
theorem c_laws_FnTrees_i {args : List Value} {G : GH} {K : Value → GH → Prop} (hn : args.length ≤ 179) (h : gW Try.prog c_laws_FnTrees (RetK [.t 4] K) (T0 args) G) : GC Try.prog 21 args G K := GC_intro mixed Try.func21 c_laws_FnTrees_d hn h
abbrev c_laws_b10Long_0 : List GOp := [oo 2 (.mv (cb  false))]
abbrev c_laws_b10Long_1 : List GOp := [oo 3 (.mv (tt 0)), oo 4 (.len (tt 3)), oo 5 (.bin .gtr (tt 4) (ci 1048576)), oo 2 (.mv (tt 5))]
abbrev c_laws_b10Long : GCode := .seq (.reg c_laws_b10Long_0) (.seq (.reg c_laws_b10Long_1) (.ret))
theorem c_laws_b10Long_d : decFn Try.prog Try.f56 = some (6, [.t 2], c_laws_b10Long) := by kernel_rfl
theorem c_laws_b10Long_i {args : List Value} {G : GH} {K : Value → GH → Prop} (hn : args.length ≤ 6) (h : gW Try.prog c_laws_b10Long (RetK [.t 2] K) (T0 args) G) : GC Try.prog 56 args G K := GC_intro mixed Try.func56 c_laws_b10Long_d hn h
abbrev c_slices_ContainsFunc_int64_int64_0 : List GOp := [oo 4 (.mv (cb  false))]
abbrev c_slices_ContainsFunc_int64_int64_1 : List GOp := [oo 5 (.mv (tt 0)), oo 6 (.mv (tt 1)), oo 7 (.call (ff 222) [tt 5, tt 6]), oo 8 (.bin .geq (tt 7) (ci 0)), oo 4 (.mv (tt 8))]
abbrev c_slices_ContainsFunc_int64_int64 : GCode := .seq (.reg c_slices_ContainsFunc_int64_int64_0) (.seq (.reg c_slices_ContainsFunc_int64_int64_1) (.ret))
theorem c_slices_ContainsFunc_int64_int64_d : decFn Try.prog Try.f152 = some (9, [.t 4], c_slices_ContainsFunc_int64_int64) := by kernel_rfl
theorem c_slices_ContainsFunc_int64_int64_i {args : List Value} {G : GH} {K : Value → GH → Prop} (hn : args.length ≤ 9) (h : gW Try.prog c_slices_ContainsFunc_int64_int64 (RetK [.t 4] K) (T0 args) G) : GC Try.prog 152 args G K := GC_intro mixed Try.func152 c_slices_ContainsFunc_int64_int64_d hn h
abbrev c_slices_Contains_int64_int64_0 : List GOp := [oo 4 (.mv (cb  false))]
abbrev c_slices_Contains_int64_int64_1 : List GOp := [oo 5 (.mv (tt 0)), oo 6 (.mv (tt 1)), oo 7 (.call (ff 166) [tt 5, tt 6]), oo 8 (.bin .geq (tt 7) (ci 0)), oo 4 (.mv (tt 8))]
abbrev c_slices_Contains_int64_int64 : GCode := .seq (.reg c_slices_Contains_int64_int64_0) (.seq (.reg c_slices_Contains_int64_int64_1) (.ret))
theorem c_slices_Contains_int64_int64_d : decFn Try.prog Try.f137 = some (9, [.t 4], c_slices_Contains_int64_int64) := by kernel_rfl
theorem c_slices_Contains_int64_int64_i {args : List Value} {G : GH} {K : Value → GH → Prop} (hn : args.length ≤ 9) (h : gW Try.prog c_slices_Contains_int64_int64 (RetK [.t 4] K) (T0 args) G) : GC Try.prog 137 args G K := GC_intro mixed Try.func137 c_slices_Contains_int64_int64_d hn h
abbrev c_slices_IndexFunc_SS_int64_int64_0 : List GOp := [oo 4 (.mv (ci 0))]
abbrev c_slices_IndexFunc_SS_int64_int64_1 : List GOp := [oo 6 (.mv (tt 0)), oo 7 (.len (tt 6)), oo 8 (.mv (ci 0))]
abbrev c_slices_IndexFunc_SS_int64_int64_2 : List GOp := [oo 9 (.bin .lss (tt 8) (tt 7))]
abbrev c_slices_IndexFunc_SS_int64_int64_3 : List GOp := [oo 10 (.mv (tt 8)), oo 5 (.mv (tt 10))]
abbrev c_slices_IndexFunc_SS_int64_int64_4 : List GOp := [oo 11 (.mv (tt 1)), oo 12 (.mv (tt 0)), oo 13 (.mv (tt 5)), oo 14 (.ia 1 (tt 12) (tt 13)), oo 15 (.ld (tt 14)), oo 16 (.call (tt 11) [tt 15])]
abbrev c_slices_IndexFunc_SS_int64_int64_5 : List GOp := [oo 17 (.mv (tt 5)), oo 4 (.mv (tt 17))]
abbrev c_slices_IndexFunc_SS_int64_int64_6 : List GOp := [oo 18 (.bin .add (tt 8) (ci 1)), oo 8 (.mv (tt 18))]
abbrev c_slices_IndexFunc_SS_int64_int64_l0 : GCode := .seq (.reg c_slices_IndexFunc_SS_int64_int64_2) (.seq (.cond (tt 9) (.skip) (.exit 0)) (.seq (.blk 1 (.seq (.reg c_slices_IndexFunc_SS_int64_int64_3) (.seq (.reg c_slices_IndexFunc_SS_int64_int64_4) (.cond (tt 16) (.seq (.reg c_slices_IndexFunc_SS_int64_int64_5) (.ret)) (.skip))))) (.reg c_slices_IndexFunc_SS_int64_int64_6)))
abbrev c_slices_IndexFunc_SS_int64_int64_8 : List GOp := [oo 4 (.mv (ci (-1)))]
abbrev c_slices_IndexFunc_SS_int64_int64 : GCode := .seq (.reg c_slices_IndexFunc_SS_int64_int64_0) (.seq (.seq (.reg c_slices_IndexFunc_SS_int64_int64_1) (.blk 0 (.loop c_slices_IndexFunc_SS_int64_int64_l0))) (.seq (.reg c_slices_IndexFunc_SS_int64_int64_8) (.ret)))
theorem c_slices_IndexFunc_SS_int64_int64_d : decFn Try.prog Try.f253 = some (19, [.t 4], c_slices_IndexFunc_SS_int64_int64) := by kernel_rfl
theorem c_slices_IndexFunc_SS_int64_int64_i {args : List Value} {G : GH} {K : Value → GH → Prop} (hn : args.length ≤ 19) (h : gW Try.prog c_slices_IndexFunc_SS_int64_int64 (RetK [.t 4] K) (T0 args) G) : GC Try.prog 253 args G K := GC_intro mixed Try.func253 c_slices_IndexFunc_SS_int64_int64_d hn h
abbrev c_slices_IndexFunc_int64_int64_0 : List GOp := [oo 4 (.mv (ci 0))]
abbrev c_slices_IndexFunc_int64_int64_1 : List GOp := [oo 6 (.mv (tt 0)), oo 7 (.len (tt 6)), oo 8 (.mv (ci 0))]
abbrev c_slices_IndexFunc_int64_int64_2 : List GOp := [oo 9 (.bin .lss (tt 8) (tt 7))]
abbrev c_slices_IndexFunc_int64_int64_3 : List GOp := [oo 10 (.mv (tt 8)), oo 5 (.mv (tt 10))]
abbrev c_slices_IndexFunc_int64_int64_4 : List GOp := [oo 11 (.mv (tt 1)), oo 12 (.mv (tt 0)), oo 13 (.mv (tt 5)), oo 14 (.ia 1 (tt 12) (tt 13)), oo 15 (.ld (tt 14)), oo 16 (.call (tt 11) [tt 15])]
abbrev c_slices_IndexFunc_int64_int64_5 : List GOp := [oo 17 (.mv (tt 5)), oo 4 (.mv (tt 17))]
abbrev c_slices_IndexFunc_int64_int64_6 : List GOp := [oo 18 (.bin .add (tt 8) (ci 1)), oo 8 (.mv (tt 18))]
abbrev c_slices_IndexFunc_int64_int64_l0 : GCode := .seq (.reg c_slices_IndexFunc_int64_int64_2) (.seq (.cond (tt 9) (.skip) (.exit 0)) (.seq (.blk 1 (.seq (.reg c_slices_IndexFunc_int64_int64_3) (.seq (.reg c_slices_IndexFunc_int64_int64_4) (.cond (tt 16) (.seq (.reg c_slices_IndexFunc_int64_int64_5) (.ret)) (.skip))))) (.reg c_slices_IndexFunc_int64_int64_6)))
abbrev c_slices_IndexFunc_int64_int64_8 : List GOp := [oo 4 (.mv (ci (-1)))]
abbrev c_slices_IndexFunc_int64_int64 : GCode := .seq (.reg c_slices_IndexFunc_int64_int64_0) (.seq (.seq (.reg c_slices_IndexFunc_int64_int64_1) (.blk 0 (.loop c_slices_IndexFunc_int64_int64_l0))) (.seq (.reg c_slices_IndexFunc_int64_int64_8) (.ret)))
theorem c_slices_IndexFunc_int64_int64_d : decFn Try.prog Try.f222 = some (19, [.t 4], c_slices_IndexFunc_int64_int64) := by kernel_rfl
theorem c_slices_IndexFunc_int64_int64_i {args : List Value} {G : GH} {K : Value → GH → Prop} (hn : args.length ≤ 19) (h : gW Try.prog c_slices_IndexFunc_int64_int64 (RetK [.t 4] K) (T0 args) G) : GC Try.prog 222 args G K := GC_intro mixed Try.func222 c_slices_IndexFunc_int64_int64_d hn h
abbrev c_slices_Index_int64_int64_0 : List GOp := [oo 4 (.mv (ci 0))]
abbrev c_slices_Index_int64_int64_1 : List GOp := [oo 6 (.mv (tt 0)), oo 7 (.len (tt 6)), oo 8 (.mv (ci 0))]
abbrev c_slices_Index_int64_int64_2 : List GOp := [oo 9 (.bin .lss (tt 8) (tt 7))]
abbrev c_slices_Index_int64_int64_3 : List GOp := [oo 10 (.mv (tt 8)), oo 5 (.mv (tt 10))]
abbrev c_slices_Index_int64_int64_4 : List GOp := [oo 11 (.mv (tt 1)), oo 12 (.mv (tt 0)), oo 13 (.mv (tt 5)), oo 14 (.ia 1 (tt 12) (tt 13)), oo 15 (.ld (tt 14)), oo 16 (.bin .eql (tt 11) (tt 15))]
abbrev c_slices_Index_int64_int64_5 : List GOp := [oo 17 (.mv (tt 5)), oo 4 (.mv (tt 17))]
abbrev c_slices_Index_int64_int64_6 : List GOp := [oo 18 (.bin .add (tt 8) (ci 1)), oo 8 (.mv (tt 18))]
abbrev c_slices_Index_int64_int64_l0 : GCode := .seq (.reg c_slices_Index_int64_int64_2) (.seq (.cond (tt 9) (.skip) (.exit 0)) (.seq (.blk 1 (.seq (.reg c_slices_Index_int64_int64_3) (.seq (.reg c_slices_Index_int64_int64_4) (.cond (tt 16) (.seq (.reg c_slices_Index_int64_int64_5) (.ret)) (.skip))))) (.reg c_slices_Index_int64_int64_6)))
abbrev c_slices_Index_int64_int64_8 : List GOp := [oo 4 (.mv (ci (-1)))]
abbrev c_slices_Index_int64_int64 : GCode := .seq (.reg c_slices_Index_int64_int64_0) (.seq (.seq (.reg c_slices_Index_int64_int64_1) (.blk 0 (.loop c_slices_Index_int64_int64_l0))) (.seq (.reg c_slices_Index_int64_int64_8) (.ret)))
theorem c_slices_Index_int64_int64_d : decFn Try.prog Try.f166 = some (19, [.t 4], c_slices_Index_int64_int64) := by kernel_rfl
theorem c_slices_Index_int64_int64_i {args : List Value} {G : GH} {K : Value → GH → Prop} (hn : args.length ≤ 19) (h : gW Try.prog c_slices_Index_int64_int64 (RetK [.t 4] K) (T0 args) G) : GC Try.prog 166 args G K := GC_intro mixed Try.func166 c_slices_Index_int64_int64_d hn h
abbrev c_spec_DrawCountTrees_0 : List GOp := [oo 2 (.al [.int .i64 0, .slice none 0 0])]
abbrev c_spec_DrawCountTrees_1 : List GOp := [oo 4 (.mv (tt 0)), oo 5 (.call (ff 145) [tt 4]), oo 3 (.mv (tt 5))]
abbrev c_spec_DrawCountTrees_2 : List GOp := [oo 6 (.mv (tt 3)), oo 7 (.call (ff 146) [tt 6]), on (.st 2 (tt 2) (tt 7))]
abbrev c_spec_DrawCountTrees : GCode := .seq (.reg c_spec_DrawCountTrees_0) (.seq (.reg c_spec_DrawCountTrees_1) (.seq (.reg c_spec_DrawCountTrees_2) (.ret)))
theorem c_spec_DrawCountTrees_d : decFn Try.prog Try.f85 = some (8, [.cn 2 2], c_spec_DrawCountTrees) := by kernel_rfl
theorem c_spec_DrawCountTrees_i {args : List Value} {G : GH} {K : Value → GH → Prop} (hn : args.length ≤ 8) (h : gW Try.prog c_spec_DrawCountTrees (RetK [.cn 2 2] K) (T0 args) G) : GC Try.prog 85 args G K := GC_intro mixed Try.func85 c_spec_DrawCountTrees_d hn h
abbrev c_spec_DrawResistanceOf_0 : List GOp := [oo 2 (.al [.int .i64 0, .slice none 0 0]), oo 3 (.mv (ci 0)), oo 4 (.mv (ci 0))]
abbrev c_spec_DrawResistanceOf_1 : List GOp := [oo 8 (.mv (tt 0)), oo 9 (.call (ff 145) [tt 8]), oo 5 (.mv (tt 9))]
abbrev c_spec_DrawResistanceOf_2 : List GOp := [oo 10 (.mv (tt 5)), oo 11 (.call (ff 146) [tt 10]), oo 6 (.al [.int .i64 0, .slice none 0 0]), on (.st 2 (tt 6) (tt 11))]
abbrev c_spec_DrawResistanceOf_3 : List GOp := [oo 12 (.mv (tt 5)), oo 13 (.call (ff 183) [tt 12, tt 6]), oo 7 (.mv (tt 13))]
abbrev c_spec_DrawResistanceOf_4 : List DOp := [dl 0 (oo 14 (.ldn 2 (tt 6))), dl 1 (oo 15 (.mv (tt 7))), dl 2 (oo 16 (.mv (tt 5))), dh 3 [0] (oo 17 (.call (ff 183) [tt 16, tt 6])), dh 4 [] (on (.st 2 (tt 2) (tt 14))), dl 5 (oo 3 (.mv (tt 15))), dl 6 (oo 4 (.mv (tt 17)))]
abbrev c_spec_DrawResistanceOf : GCode := .seq (.reg c_spec_DrawResistanceOf_0) (.seq (.reg c_spec_DrawResistanceOf_1) (.seq (.reg c_spec_DrawResistanceOf_2) (.seq (.reg c_spec_DrawResistanceOf_3) (.seq (.dreg c_spec_DrawResistanceOf_4) (.ret)))))
theorem c_spec_DrawResistanceOf_d : decFn Try.prog Try.f86 = some (18, [.cn 2 2, .t 3, .t 4], c_spec_DrawResistanceOf) := by kernel_rfl
theorem c_spec_DrawResistanceOf_i {args : List Value} {G : GH} {K : Value → GH → Prop} (hn : args.length ≤ 18) (h : gW Try.prog c_spec_DrawResistanceOf (RetK [.cn 2 2, .t 3, .t 4] K) (T0 args) G) : GC Try.prog 86 args G K := GC_intro mixed Try.func86 c_spec_DrawResistanceOf_d hn h
abbrev c_spec_l00From_0 : List GOp := [oo 2 (.mv (.const (.pointer none)))]
abbrev c_spec_l00From_1 : List GOp := [oo 3 (.mv (tt 0)), oo 4 (.bld [.slice none 0 0, .int .i64 0, .int .u64 0] [(0, 1, (tt 3))]), oo 5 (.bx (tt 4)), oo 2 (.mv (tt 5))]
abbrev c_spec_l00From : GCode := .seq (.reg c_spec_l00From_0) (.seq (.reg c_spec_l00From_1) (.ret))
theorem c_spec_l00From_d : decFn Try.prog Try.f145 = some (6, [.t 2], c_spec_l00From) := by kernel_rfl
theorem c_spec_l00From_i {args : List Value} {G : GH} {K : Value → GH → Prop} (hn : args.length ≤ 6) (h : gW Try.prog c_spec_l00From (RetK [.t 2] K) (T0 args) G) : GC Try.prog 145 args G K := GC_intro mixed Try.func145 c_spec_l00From_d hn h
abbrev c_spec_l00Max_0 : List GOp := [oo 4 (.mv (ci 0))]
abbrev c_spec_l00Max_1 : List GOp := [oo 5 (.mv (tt 0)), oo 6 (.mv (tt 1)), oo 7 (.bin .gtr (tt 5) (tt 6))]
abbrev c_spec_l00Max_2 : List GOp := [oo 8 (.mv (tt 0)), oo 4 (.mv (tt 8))]
abbrev c_spec_l00Max_3 : List GOp := [oo 9 (.mv (tt 1)), oo 4 (.mv (tt 9))]
abbrev c_spec_l00Max : GCode := .seq (.reg c_spec_l00Max_0) (.seq (.seq (.reg c_spec_l00Max_1) (.cond (tt 7) (.seq (.reg c_spec_l00Max_2) (.ret)) (.skip))) (.seq (.reg c_spec_l00Max_3) (.ret)))
theorem c_spec_l00Max_d : decFn Try.prog Try.f113 = some (10, [.t 4], c_spec_l00Max) := by kernel_rfl
theorem c_spec_l00Max_i {args : List Value} {G : GH} {K : Value → GH → Prop} (hn : args.length ≤ 10) (h : gW Try.prog c_spec_l00Max (RetK [.t 4] K) (T0 args) G) : GC Try.prog 113 args G K := GC_intro mixed Try.func113 c_spec_l00Max_d hn h
abbrev c_spec_l00Src_among_0 : List GOp := [oo 4 (.mv (ci 0))]
abbrev c_spec_l00Src_among_1 : List GOp := [oo 5 (.mv (tt 1)), oo 6 (.mv (tt 0)), oo 7 (.mv (tt 1)), oo 8 (.len (tt 7)), oo 9 (.call (ff 220) [tt 6, tt 8]), oo 10 (.ia 1 (tt 5) (tt 9)), oo 11 (.ld (tt 10)), oo 4 (.mv (tt 11))]
abbrev c_spec_l00Src_among : GCode := .seq (.reg c_spec_l00Src_among_0) (.seq (.reg c_spec_l00Src_among_1) (.ret))
theorem c_spec_l00Src_among_d : decFn Try.prog Try.f157 = some (12, [.t 4], c_spec_l00Src_among) := by kernel_rfl
theorem c_spec_l00Src_among_i {args : List Value} {G : GH} {K : Value → GH → Prop} (hn : args.length ≤ 12) (h : gW Try.prog c_spec_l00Src_among (RetK [.t 4] K) (T0 args) G) : GC Try.prog 157 args G K := GC_intro mixed Try.func157 c_spec_l00Src_among_d hn h
abbrev c_spec_l00Src_next_0 : List GOp := [oo 2 (.mv (ci 0))]
abbrev c_spec_l00Src_next_1 : List GOp := [oo 3 (.mv (ci 0))]
abbrev c_spec_l00Src_next_2 : List DOp := [dl 0 (oo 4 (.mv (tt 0))), dl 1 (oo 5 (.nc (tt 4))), dl 2 (oo 6 (.fa 1 (tt 5))), dl 3 (oo 7 (.ld (tt 6))), dl 4 (oo 8 (.mv (tt 0))), dl 5 (oo 9 (.nc (tt 8))), dl 6 (oo 10 (.fa 0 (tt 9))), dl 7 (oo 11 (.ld (tt 10))), dl 8 (oo 12 (.len (tt 11))), dl 9 (oo 13 (.bin .lss (tt 7) (tt 12)))]
abbrev c_spec_l00Src_next_3 : List DOp := [dl 0 (oo 14 (.mv (tt 0))), dl 1 (oo 15 (.nc (tt 14))), dl 2 (oo 16 (.fa 0 (tt 15))), dl 3 (oo 17 (.ld (tt 16))), dl 4 (oo 18 (.mv (tt 0))), dl 5 (oo 19 (.nc (tt 18))), dl 6 (oo 20 (.fa 1 (tt 19))), dl 7 (oo 21 (.ld (tt 20))), dl 8 (oo 22 (.ia 1 (tt 17) (tt 21))), dl 9 (oo 23 (.ld (tt 22))), dl 10 (oo 24 (.cvi .i64 (tt 23))), dl 11 (oo 3 (.mv (tt 24)))]
abbrev c_spec_l00Src_next_4 : List GOp := [oo 25 (.mv (tt 0)), oo 26 (.nc (tt 25)), oo 27 (.fa 1 (tt 26)), oo 28 (.ld (tt 27)), oo 29 (.bin .add (tt 28) (ci 1)), oo 30 (.nc (tt 25)), oo 31 (.fa 1 (tt 30)), on (.st 1 (tt 31) (tt 29))]
abbrev c_spec_l00Src_next_5 : List GOp := [oo 32 (.mv (tt 0)), oo 33 (.mv (tt 0)), oo 34 (.nc (tt 33)), oo 35 (.fa 2 (tt 34)), oo 36 (.ld (tt 35)), oo 37 (.bin .mul (tt 36) (.const (.int .u64 6364136223846793005))), oo 38 (.mv (tt 3)), oo 39 (.cvi .u64 (tt 38)), oo 40 (.bin .add (tt 37) (tt 39)), oo 41 (.bin .add (tt 40) (.const (.int .u64 1442695040888963407))), oo 42 (.nc (tt 32)), oo 43 (.fa 2 (tt 42)), on (.st 1 (tt 43) (tt 41))]
abbrev c_spec_l00Src_next_6 : List DOp := [dl 0 (oo 44 (.mv (tt 0))), dl 1 (oo 45 (.nc (tt 44))), dl 2 (oo 46 (.fa 1 (tt 45))), dl 3 (oo 47 (.ld (tt 46))), dl 4 (oo 48 (.mv (tt 0))), dl 5 (oo 49 (.nc (tt 48))), dl 6 (oo 50 (.fa 0 (tt 49))), dl 7 (oo 51 (.ld (tt 50))), dl 8 (oo 52 (.len (tt 51))), dl 9 (oo 53 (.bin .leq (tt 47) (tt 52)))]
abbrev c_spec_l00Src_next_7 : List GOp := [oo 54 (.mv (tt 3)), oo 2 (.mv (tt 54))]
abbrev c_spec_l00Src_next_8 : List GOp := [oo 55 (.mv (tt 0)), oo 56 (.nc (tt 55)), oo 57 (.fa 2 (tt 56)), oo 58 (.ld (tt 57)), oo 59 (.bin .shr (tt 58) (.const (.int .u64 40))), oo 60 (.bin .and (tt 59) (.const (.int .u64 255))), oo 61 (.cvi .i64 (tt 60)), oo 2 (.mv (tt 61))]
abbrev c_spec_l00Src_next : GCode := .seq (.reg c_spec_l00Src_next_0) (.seq (.reg c_spec_l00Src_next_1) (.seq (.seq (.dreg c_spec_l00Src_next_2) (.cond (tt 13) (.dreg c_spec_l00Src_next_3) (.skip))) (.seq (.reg c_spec_l00Src_next_4) (.seq (.reg c_spec_l00Src_next_5) (.seq (.seq (.dreg c_spec_l00Src_next_6) (.cond (tt 53) (.seq (.reg c_spec_l00Src_next_7) (.ret)) (.skip))) (.seq (.reg c_spec_l00Src_next_8) (.ret)))))))
theorem c_spec_l00Src_next_d : decFn Try.prog Try.f249 = some (62, [.t 2], c_spec_l00Src_next) := by kernel_rfl
theorem c_spec_l00Src_next_i {args : List Value} {G : GH} {K : Value → GH → Prop} (hn : args.length ≤ 62) (h : gW Try.prog c_spec_l00Src_next (RetK [.t 2] K) (T0 args) G) : GC Try.prog 249 args G K := GC_intro mixed Try.func249 c_spec_l00Src_next_d hn h
abbrev c_spec_l00Src_one_0 : List GOp := [oo 4 (.mv (cb  false))]
abbrev c_spec_l00Src_one_1 : List GOp := [oo 5 (.mv (tt 0)), oo 6 (.mv (tt 1)), oo 7 (.call (ff 220) [tt 5, tt 6]), oo 8 (.bin .eql (tt 7) (ci 0)), oo 4 (.mv (tt 8))]
abbrev c_spec_l00Src_one : GCode := .seq (.reg c_spec_l00Src_one_0) (.seq (.reg c_spec_l00Src_one_1) (.ret))
theorem c_spec_l00Src_one_d : decFn Try.prog Try.f221 = some (9, [.t 4], c_spec_l00Src_one) := by kernel_rfl
theorem c_spec_l00Src_one_i {args : List Value} {G : GH} {K : Value → GH → Prop} (hn : args.length ≤ 9) (h : gW Try.prog c_spec_l00Src_one (RetK [.t 4] K) (T0 args) G) : GC Try.prog 221 args G K := GC_intro mixed Try.func221 c_spec_l00Src_one_d hn h
abbrev c_spec_l00Src_pick_0 : List GOp := [oo 4 (.mv (ci 0))]
abbrev c_spec_l00Src_pick_1 : List GOp := [oo 6 (.mv (tt 1)), oo 7 (.bin .leq (tt 6) (ci 1))]
abbrev c_spec_l00Src_pick_2 : List GOp := [oo 4 (.mv (ci 0))]
abbrev c_spec_l00Src_pick_3 : List GOp := [oo 8 (.mv (tt 0)), oo 9 (.call (ff 249) [tt 8]), oo 5 (.mv (tt 9))]
abbrev c_spec_l00Src_pick_4 : List GOp := [oo 10 (.mv (tt 1)), oo 11 (.bin .gtr (tt 10) (ci 200))]
abbrev c_spec_l00Src_pick_5 : List GOp := [oo 12 (.mv (tt 5)), oo 13 (.bin .mul (tt 12) (ci 256)), oo 14 (.mv (tt 0)), oo 15 (.call (ff 249) [tt 14]), oo 16 (.bin .add (tt 13) (tt 15)), oo 5 (.mv (tt 16))]
abbrev c_spec_l00Src_pick_6 : List GOp := [oo 17 (.mv (tt 5)), oo 18 (.mv (tt 1)), oo 19 (.bin .rem (tt 17) (tt 18)), oo 4 (.mv (tt 19))]
abbrev c_spec_l00Src_pick : GCode := .seq (.reg c_spec_l00Src_pick_0) (.seq (.seq (.reg c_spec_l00Src_pick_1) (.cond (tt 7) (.seq (.reg c_spec_l00Src_pick_2) (.ret)) (.skip))) (.seq (.reg c_spec_l00Src_pick_3) (.seq (.seq (.reg c_spec_l00Src_pick_4) (.cond (tt 11) (.reg c_spec_l00Src_pick_5) (.skip))) (.seq (.reg c_spec_l00Src_pick_6) (.ret)))))
theorem c_spec_l00Src_pick_d : decFn Try.prog Try.f220 = some (20, [.t 4], c_spec_l00Src_pick) := by kernel_rfl
theorem c_spec_l00Src_pick_i {args : List Value} {G : GH} {K : Value → GH → Prop} (hn : args.length ≤ 20) (h : gW Try.prog c_spec_l00Src_pick (RetK [.t 4] K) (T0 args) G) : GC Try.prog 220 args G K := GC_intro mixed Try.func220 c_spec_l00Src_pick_d hn h
abbrev c_spec_l16Draw_0 : List GOp := [oo 2 (.al [.int .i64 0, .slice none 0 0])]
abbrev c_spec_l16Draw_1 : List GOp := [oo 6 (.mv (tt 0)), oo 7 (.call (ff 219) [tt 6]), oo 3 (.al [.int .i64 0, .slice none 0 0]), on (.st 2 (tt 3) (tt 7))]
abbrev c_spec_l16Draw_2 : List GOp := [oo 8 (.mv (tt 0)), oo 9 (.call (ff 220) [tt 8, (ci 20)])]
abbrev c_spec_l16Draw_3 : List GOp := [oo 11 (.bin .eql (tt 9) (ci 0)), oo 10 (.mv (tt 11))]
abbrev c_spec_l16Draw_4 : List GOp := [oo 12 (.mv (tt 0)), oo 13 (.bs 1 [(ci 0), (ci 12), (ci 13)]), oo 14 (.call (ff 157) [tt 12, tt 13]), oo 15 (.fa 0 (tt 3)), on (.st 1 (tt 15) (tt 14))]
abbrev c_spec_l16Draw_5 : List GOp := [oo 17 (.bin .eql (tt 9) (ci 1)), oo 16 (.mv (tt 17))]
abbrev c_spec_l16Draw_6 : List DOp := [dl 0 (oo 18 (.fa 1 (tt 3))), dl 1 (oo 19 (.ld (tt 18))), dl 2 (oo 20 (.mv (tt 0))), dl 4 (oo 22 (.mv (tt 0))), dh 3 [1] (oo 21 (.call (ff 220) [tt 20, (ci 3)])), dh 5 [1] (oo 23 (.call (ff 220) [tt 22, (ci 4)])), dl 6 (oo 24 (.bld [.int .i64 0, .int .i64 0, .int .i64 0] [(0, 1, (tt 21)), (1, 1, (tt 23)), (2, 1, (ci 1))])), dh 7 [1] (oo 25 (.bs 3 [tt 24])), dh 8 [] (oo 26 (.ap 3 24 [.int .i64 0, .int .i64 0, .int .i64 0] (tt 19) (tt 25))), dl 9 (oo 27 (.fa 1 (tt 3))), dh 10 [] (on (.st 1 (tt 27) (tt 26)))]
abbrev c_spec_l16Draw_7 : List GOp := [oo 29 (.bin .eql (tt 9) (ci 2)), oo 28 (.mv (tt 29))]
abbrev c_spec_l16Draw_8 : List GOp := [oo 30 (.fa 1 (tt 3)), oo 31 (.ld (tt 30)), oo 32 (.len (tt 31)), oo 33 (.bin .gtr (tt 32) (ci 0))]
abbrev c_spec_l16Draw_9 : List DOp := [dl 0 (oo 34 (.fa 1 (tt 3))), dl 1 (oo 35 (.ld (tt 34))), dl 2 (oo 36 (.mv (tt 0))), dh 3 [1] (oo 37 (.bs 1 [(ci 0), (ci 9), (ci 10)])), dh 4 [1] (oo 38 (.call (ff 157) [tt 36, tt 37])), dl 5 (oo 39 (.ia 3 (tt 35) (ci 0))), dl 6 (oo 40 (.fa 2 (tt 39))), dh 7 [] (on (.st 1 (tt 40) (tt 38)))]
abbrev c_spec_l16Draw_10 : List GOp := [oo 42 (.bin .eql (tt 9) (ci 3)), oo 41 (.mv (tt 42))]
abbrev c_spec_l16Draw_11 : List GOp := [oo 43 (.mv (tt 0)), oo 44 (.bs 1 [(ci 24), (ci 25)]), oo 45 (.call (ff 157) [tt 43, tt 44]), oo 4 (.mv (tt 45))]
abbrev c_spec_l16Draw_12 : List GOp := [oo 46 (.bld [.int .i64 0, .slice none 0 0] [(0, 1, (ci 12))]), on (.st 2 (tt 3) (tt 46))]
abbrev c_spec_l16Draw_13 : List GOp := [oo 5 (.mv (ci 0))]
abbrev c_spec_l16Draw_14 : List GOp := [oo 47 (.mv (tt 5)), oo 48 (.mv (tt 4)), oo 49 (.bin .lss (tt 47) (tt 48))]
abbrev c_spec_l16Draw_15 : List GOp := [oo 52 (.fa 1 (tt 3)), oo 53 (.ld (tt 52)), oo 54 (.mv (tt 5)), oo 55 (.bin .quo (tt 54) (ci 8)), oo 56 (.mv (tt 5)), oo 57 (.bin .rem (tt 56) (ci 8)), oo 58 (.bin .add (ci 3) (tt 57)), oo 59 (.bld [.int .i64 0, .int .i64 0, .int .i64 0] [(0, 1, (tt 55)), (1, 1, (tt 58)), (2, 1, (ci 1))]), oo 60 (.bs 3 [tt 59]), oo 61 (.ap 3 24 [.int .i64 0, .int .i64 0, .int .i64 0] (tt 53) (tt 60)), oo 62 (.fa 1 (tt 3)), on (.st 1 (tt 62) (tt 61))]
abbrev c_spec_l16Draw_16 : List GOp := [oo 50 (.mv (tt 5)), oo 51 (.bin .add (tt 50) (ci 1)), oo 5 (.mv (tt 51))]
abbrev c_spec_l16Draw_l0 : GCode := .seq (.seq (.reg c_spec_l16Draw_14) (.cond (tt 49) (.skip) (.exit 1))) (.seq (.blk 2 (.reg c_spec_l16Draw_15)) (.reg c_spec_l16Draw_16))
abbrev c_spec_l16Draw_18 : List GOp := [oo 63 (.ldn 2 (tt 3)), on (.st 2 (tt 2) (tt 63))]
abbrev c_spec_l16Draw : GCode := .seq (.reg c_spec_l16Draw_0) (.seq (.reg c_spec_l16Draw_1) (.seq (.seq (.reg c_spec_l16Draw_2) (.blk 0 (.seq (.reg c_spec_l16Draw_3) (.cond (tt 10) (.reg c_spec_l16Draw_4) (.seq (.reg c_spec_l16Draw_5) (.cond (tt 16) (.dreg c_spec_l16Draw_6) (.seq (.reg c_spec_l16Draw_7) (.cond (tt 28) (.seq (.reg c_spec_l16Draw_8) (.cond (tt 33) (.dreg c_spec_l16Draw_9) (.skip))) (.seq (.reg c_spec_l16Draw_10) (.cond (tt 41) (.seq (.reg c_spec_l16Draw_11) (.seq (.reg c_spec_l16Draw_12) (.seq (.reg c_spec_l16Draw_13) (.blk 1 (.loop c_spec_l16Draw_l0))))) (.skip))))))))))) (.seq (.reg c_spec_l16Draw_18) (.ret))))
theorem c_spec_l16Draw_d : decFn Try.prog Try.f146 = some (64, [.cn 2 2], c_spec_l16Draw) := by kernel_rfl
theorem c_spec_l16Draw_i {args : List Value} {G : GH} {K : Value → GH → Prop} (hn : args.length ≤ 64) (h : gW Try.prog c_spec_l16Draw (RetK [.cn 2 2] K) (T0 args) G) : GC Try.prog 146 args G K := GC_intro mixed Try.func146 c_spec_l16Draw_d hn h
abbrev c_spec_l16DrawNode_0 : List GOp := [oo 4 (.mv (ci 0))]
abbrev c_spec_l16DrawNode_1 : List GOp := [oo 5 (.mv (tt 0)), oo 6 (.call (ff 221) [tt 5, (ci 10)])]
abbrev c_spec_l16DrawNode_2 : List GOp := [oo 7 (.mv (tt 0)), oo 8 (.mv (tt 1)), oo 9 (.nc (tt 8)), oo 10 (.fa 0 (tt 9)), oo 11 (.ld (tt 10)), oo 12 (.bs 1 [(ci (-1)), tt 11]), oo 13 (.call (ff 157) [tt 7, tt 12]), oo 4 (.mv (tt 13))]
abbrev c_spec_l16DrawNode_3 : List GOp := [oo 14 (.mv (tt 0)), oo 15 (.mv (tt 1)), oo 16 (.nc (tt 15)), oo 17 (.fa 0 (tt 16)), oo 18 (.ld (tt 17)), oo 19 (.call (ff 113) [(ci 1), tt 18]), oo 20 (.call (ff 220) [tt 14, tt 19]), oo 4 (.mv (tt 20))]
abbrev c_spec_l16DrawNode : GCode := .seq (.reg c_spec_l16DrawNode_0) (.seq (.seq (.reg c_spec_l16DrawNode_1) (.cond (tt 6) (.seq (.reg c_spec_l16DrawNode_2) (.ret)) (.skip))) (.seq (.reg c_spec_l16DrawNode_3) (.ret)))
theorem c_spec_l16DrawNode_d : decFn Try.prog Try.f183 = some (21, [.t 4], c_spec_l16DrawNode) := by kernel_rfl
theorem c_spec_l16DrawNode_i {args : List Value} {G : GH} {K : Value → GH → Prop} (hn : args.length ≤ 21) (h : gW Try.prog c_spec_l16DrawNode (RetK [.t 4] K) (T0 args) G) : GC Try.prog 183 args G K := GC_intro mixed Try.func183 c_spec_l16DrawNode_d hn h
abbrev c_spec_l16DrawOk_0 : List GOp := [oo 2 (.al [.int .i64 0, .slice none 0 0])]
abbrev c_spec_l16DrawOk_1 : List GOp := [oo 7 (.mv (tt 0)), oo 8 (.call (ff 220) [tt 7, (ci 6)]), oo 9 (.bin .add (ci 1) (tt 8)), oo 10 (.bld [.int .i64 0, .slice none 0 0] [(0, 1, (tt 9))]), oo 3 (.al [.int .i64 0, .slice none 0 0]), on (.st 2 (tt 3) (tt 10))]
abbrev c_spec_l16DrawOk_2 : List GOp := [oo 11 (.mv (tt 0)), oo 12 (.bs 1 [(ci 2), (ci 2), (ci 3), (ci 9)]), oo 13 (.call (ff 157) [tt 11, tt 12]), oo 4 (.mv (tt 13))]
abbrev c_spec_l16DrawOk_3 : List GOp := [oo 14 (.mv (tt 0)), oo 15 (.call (ff 221) [tt 14, (ci 14)])]
abbrev c_spec_l16DrawOk_4 : List GOp := [oo 16 (.fa 0 (tt 3)), on (.st 1 (tt 16) (ci 12))]
abbrev c_spec_l16DrawOk_5 : List GOp := [oo 4 (.mv (ci 4))]
abbrev c_spec_l16DrawOk_6 : List GOp := [oo 5 (.mv (ci 0))]
abbrev c_spec_l16DrawOk_7 : List GOp := [oo 17 (.mv (tt 5)), oo 18 (.fa 0 (tt 3)), oo 19 (.ld (tt 18)), oo 20 (.bin .lss (tt 17) (tt 19))]
abbrev c_spec_l16DrawOk_8 : List GOp := [oo 23 (.mv (tt 5)), oo 24 (.bin .add (tt 23) (ci 1)), oo 6 (.mv (tt 24))]
abbrev c_spec_l16DrawOk_9 : List GOp := [oo 25 (.mv (tt 6)), oo 26 (.fa 0 (tt 3)), oo 27 (.ld (tt 26)), oo 28 (.bin .lss (tt 25) (tt 27))]
abbrev c_spec_l16DrawOk_10 : List GOp := [oo 31 (.mv (tt 0)), oo 32 (.mv (tt 4)), oo 33 (.call (ff 221) [tt 31, tt 32]), oo 34 (.un .not (tt 33)), oo 35 (.mv (tt 34)), og 36 35 true (.fa 1 (tt 3)), og 37 35 true (.ld (tt 36)), og 38 35 true (.len (tt 37)), og 39 35 true (.bin .lss (tt 38) (ci 24)), oo 40 (.pick (tt 35) (tt 39) (cb  false))]
abbrev c_spec_l16DrawOk_11 : List DOp := [dl 0 (oo 41 (.fa 1 (tt 3))), dl 1 (oo 42 (.ld (tt 41))), dl 2 (oo 43 (.mv (tt 5))), dl 3 (oo 44 (.mv (tt 6))), dl 4 (oo 45 (.mv (tt 0))), dh 5 [1] (oo 46 (.bs 1 [(ci 1), (ci 1), (ci 2), (ci 3), (ci 9)])), dh 6 [1] (oo 47 (.call (ff 157) [tt 45, tt 46])), dl 7 (oo 48 (.bld [.int .i64 0, .int .i64 0, .int .i64 0] [(0, 1, (tt 43)), (1, 1, (tt 44)), (2, 1, (tt 47))])), dh 8 [1] (oo 49 (.bs 3 [tt 48])), dh 9 [] (oo 50 (.ap 3 24 [.int .i64 0, .int .i64 0, .int .i64 0] (tt 42) (tt 49))), dl 10 (oo 51 (.fa 1 (tt 3))), dh 11 [] (on (.st 1 (tt 51) (tt 50)))]
abbrev c_spec_l16DrawOk_12 : List GOp := [oo 29 (.mv (tt 6)), oo 30 (.bin .add (tt 29) (ci 1)), oo 6 (.mv (tt 30))]
abbrev c_spec_l16DrawOk_l0 : GCode := .seq (.seq (.reg c_spec_l16DrawOk_9) (.cond (tt 28) (.skip) (.exit 2))) (.seq (.blk 3 (.seq (.reg c_spec_l16DrawOk_10) (.cond (tt 40) (.dreg c_spec_l16DrawOk_11) (.skip)))) (.reg c_spec_l16DrawOk_12))
abbrev c_spec_l16DrawOk_14 : List GOp := [oo 21 (.mv (tt 5)), oo 22 (.bin .add (tt 21) (ci 1)), oo 5 (.mv (tt 22))]
abbrev c_spec_l16DrawOk_l1 : GCode := .seq (.seq (.reg c_spec_l16DrawOk_7) (.cond (tt 20) (.skip) (.exit 0))) (.seq (.blk 1 (.seq (.reg c_spec_l16DrawOk_8) (.blk 2 (.loop c_spec_l16DrawOk_l0)))) (.reg c_spec_l16DrawOk_14))
abbrev c_spec_l16DrawOk_16 : List GOp := [oo 52 (.ldn 2 (tt 3)), on (.st 2 (tt 2) (tt 52))]
abbrev c_spec_l16DrawOk : GCode := .seq (.reg c_spec_l16DrawOk_0) (.seq (.reg c_spec_l16DrawOk_1) (.seq (.reg c_spec_l16DrawOk_2) (.seq (.seq (.reg c_spec_l16DrawOk_3) (.cond (tt 15) (.seq (.reg c_spec_l16DrawOk_4) (.reg c_spec_l16DrawOk_5)) (.skip))) (.seq (.seq (.reg c_spec_l16DrawOk_6) (.blk 0 (.loop c_spec_l16DrawOk_l1))) (.seq (.reg c_spec_l16DrawOk_16) (.ret))))))
theorem c_spec_l16DrawOk_d : decFn Try.prog Try.f219 = some (53, [.cn 2 2], c_spec_l16DrawOk) := by kernel_rfl
theorem c_spec_l16DrawOk_i {args : List Value} {G : GH} {K : Value → GH → Prop} (hn : args.length ≤ 53) (h : gW Try.prog c_spec_l16DrawOk (RetK [.cn 2 2] K) (T0 args) G) : GC Try.prog 219 args G K := GC_intro mixed Try.func219 c_spec_l16DrawOk_d hn h

end Go.Proofs.Ytmlkgpoakkgjbaa.Gh
