/- Code trees that the law ResistanceOf reaches: each is what the decoding gives (checked by the kernel). -/
import Derived.Test.YtmlkgpoakkgjbaaC0
import Derived.Test.YtmlkgpoakkgjbaaFm
import Derived.Test.YtmlkgpoakkgjbaaFz
namespace Go.Proofs.Ytmlkgpoakkgjbaa.Gh
open Go Go.RowKit Go.Proofs
set_option linter.unusedVariables false
set_option linter.unusedSimpArgs false
set_option maxHeartbeats 4000000

abbrev c_cmp_Compare_int64_0 : List GOp := [oo 4 (.mv (ci 0))]
abbrev c_cmp_Compare_int64_1 : List GOp := [oo 7 (.mv (tt 0)), oo 8 (.call (ff 248) [tt 7]), oo 5 (.mv (tt 8))]
abbrev c_cmp_Compare_int64_2 : List GOp := [oo 9 (.mv (tt 1)), oo 10 (.call (ff 248) [tt 9]), oo 6 (.mv (tt 10))]
abbrev c_cmp_Compare_int64_3 : List GOp := [oo 11 (.mv (tt 5))]
abbrev c_cmp_Compare_int64_4 : List GOp := [oo 12 (.mv (tt 6))]
abbrev c_cmp_Compare_int64_5 : List GOp := [oo 4 (.mv (ci 0))]
abbrev c_cmp_Compare_int64_6 : List GOp := [oo 4 (.mv (ci (-1)))]
abbrev c_cmp_Compare_int64_7 : List GOp := [oo 13 (.mv (tt 6))]
abbrev c_cmp_Compare_int64_8 : List GOp := [oo 4 (.mv (ci 1))]
abbrev c_cmp_Compare_int64_9 : List GOp := [oo 14 (.mv (tt 0)), oo 15 (.mv (tt 1)), oo 16 (.bin .lss (tt 14) (tt 15))]
abbrev c_cmp_Compare_int64_10 : List GOp := [oo 4 (.mv (ci (-1)))]
abbrev c_cmp_Compare_int64_11 : List GOp := [oo 17 (.mv (tt 0)), oo 18 (.mv (tt 1)), oo 19 (.bin .gtr (tt 17) (tt 18))]
abbrev c_cmp_Compare_int64_12 : List GOp := [oo 4 (.mv (ci 1))]
abbrev c_cmp_Compare_int64_13 : List GOp := [oo 4 (.mv (ci 0))]
abbrev c_cmp_Compare_int64 : GCode := .seq (.reg c_cmp_Compare_int64_0) (.seq (.reg c_cmp_Compare_int64_1) (.seq (.reg c_cmp_Compare_int64_2) (.seq (.seq (.reg c_cmp_Compare_int64_3) (.cond (tt 11) (.seq (.seq (.reg c_cmp_Compare_int64_4) (.cond (tt 12) (.seq (.reg c_cmp_Compare_int64_5) (.ret)) (.skip))) (.seq (.reg c_cmp_Compare_int64_6) (.ret))) (.skip))) (.seq (.seq (.reg c_cmp_Compare_int64_7) (.cond (tt 13) (.seq (.reg c_cmp_Compare_int64_8) (.ret)) (.skip))) (.seq (.seq (.reg c_cmp_Compare_int64_9) (.cond (tt 16) (.seq (.reg c_cmp_Compare_int64_10) (.ret)) (.skip))) (.seq (.seq (.reg c_cmp_Compare_int64_11) (.cond (tt 19) (.seq (.reg c_cmp_Compare_int64_12) (.ret)) (.skip))) (.seq (.reg c_cmp_Compare_int64_13) (.ret))))))))
theorem c_cmp_Compare_int64_d : decFn Try.prog Try.f218 = some (20, [.t 4], c_cmp_Compare_int64) := by kernel_rfl
theorem c_cmp_Compare_int64_i {args : List Value} {G : GH} {K : Value → GH → Prop} (hn : args.length ≤ 20) (h : gW Try.prog c_cmp_Compare_int64 (RetK [.t 4] K) (T0 args) G) : GC Try.prog 218 args G K := GC_intro mixed Try.func218 c_cmp_Compare_int64_d hn h
abbrev c_cmp_Or_int_0 : List GOp := [oo 2 (.mv (ci 0))]
abbrev c_cmp_Or_int_1 : List GOp := [oo 3 (.mv (ci 0))]
abbrev c_cmp_Or_int_2 : List GOp := [oo 6 (.mv (tt 0)), oo 7 (.len (tt 6)), oo 8 (.mv (ci 0))]
abbrev c_cmp_Or_int_3 : List GOp := [oo 9 (.bin .lss (tt 8) (tt 7))]
abbrev c_cmp_Or_int_4 : List GOp := [oo 10 (.ia 1 (tt 6) (tt 8)), oo 11 (.ld (tt 10)), oo 5 (.mv (tt 11))]
abbrev c_cmp_Or_int_5 : List GOp := [oo 12 (.mv (tt 5)), oo 13 (.mv (tt 3)), oo 14 (.bin .neq (tt 12) (tt 13))]
abbrev c_cmp_Or_int_6 : List GOp := [oo 15 (.mv (tt 5)), oo 2 (.mv (tt 15))]
abbrev c_cmp_Or_int_7 : List GOp := [oo 16 (.bin .add (tt 8) (ci 1)), oo 8 (.mv (tt 16))]
abbrev c_cmp_Or_int_l0 : GCode := .seq (.reg c_cmp_Or_int_3) (.seq (.cond (tt 9) (.skip) (.exit 0)) (.seq (.blk 1 (.seq (.reg c_cmp_Or_int_4) (.seq (.reg c_cmp_Or_int_5) (.cond (tt 14) (.seq (.reg c_cmp_Or_int_6) (.ret)) (.skip))))) (.reg c_cmp_Or_int_7)))
abbrev c_cmp_Or_int_9 : List GOp := [oo 17 (.mv (tt 3)), oo 2 (.mv (tt 17))]
abbrev c_cmp_Or_int : GCode := .seq (.reg c_cmp_Or_int_0) (.seq (.reg c_cmp_Or_int_1) (.seq (.seq (.reg c_cmp_Or_int_2) (.blk 0 (.loop c_cmp_Or_int_l0))) (.seq (.reg c_cmp_Or_int_9) (.ret))))
theorem c_cmp_Or_int_d : decFn Try.prog Try.f241 = some (18, [.t 2], c_cmp_Or_int) := by kernel_rfl
theorem c_cmp_Or_int_i {args : List Value} {G : GH} {K : Value → GH → Prop} (hn : args.length ≤ 18) (h : gW Try.prog c_cmp_Or_int (RetK [.t 2] K) (T0 args) G) : GC Try.prog 241 args G K := GC_intro mixed Try.func241 c_cmp_Or_int_d hn h
abbrev c_cmp_isNaN_int64_0 : List GOp := [oo 2 (.mv (cb  false))]
abbrev c_cmp_isNaN_int64_1 : List GOp := [oo 3 (.mv (tt 0)), oo 4 (.mv (tt 0)), oo 5 (.bin .neq (tt 3) (tt 4)), oo 2 (.mv (tt 5))]
abbrev c_cmp_isNaN_int64 : GCode := .seq (.reg c_cmp_isNaN_int64_0) (.seq (.reg c_cmp_isNaN_int64_1) (.ret))
theorem c_cmp_isNaN_int64_d : decFn Try.prog Try.f248 = some (6, [.t 2], c_cmp_isNaN_int64) := by kernel_rfl
theorem c_cmp_isNaN_int64_i {args : List Value} {G : GH} {K : Value → GH → Prop} (hn : args.length ≤ 6) (h : gW Try.prog c_cmp_isNaN_int64 (RetK [.t 2] K) (T0 args) G) : GC Try.prog 248 args G K := GC_intro mixed Try.func248 c_cmp_isNaN_int64_d hn h
abbrev c_impl_ResistanceOf_0 : List GOp := [oo 3 (.bx (tt 0)), oo 6 (.mv (ci 0)), oo 7 (.mv (ci 0)), oo 8 (.mv (ci 0))]
abbrev c_impl_ResistanceOf_1 : List GOp := [oo 13 (.ldn 2 (tt 3)), oo 14 (.call (ff 141) [tt 13]), oo 15 (.un .not (tt 14)), oo 12 (.mv (tt 15))]
abbrev c_impl_ResistanceOf_2 : List GOp := [oo 6 (.mv (ci 0)), oo 7 (.mv (ci 0)), oo 8 (.mv (ci 1))]
abbrev c_impl_ResistanceOf_3 : List GOp := [oo 17 (.mv (tt 1)), oo 18 (.fa 0 (tt 3)), oo 19 (.ld (tt 18)), oo 20 (.call (ff 180) [tt 17, tt 19]), oo 21 (.un .not (tt 20)), oo 22 (.mv (tt 21)), og 23 22 false (.mv (tt 2)), og 24 22 false (.fa 0 (tt 3)), og 25 22 false (.ld (tt 24)), og 26 22 false (.call (ff 180) [tt 23, tt 25]), og 27 22 false (.un .not (tt 26)), oo 28 (.pick (tt 22) (cb  true) (tt 27)), oo 16 (.mv (tt 28))]
abbrev c_impl_ResistanceOf_4 : List GOp := [oo 6 (.mv (ci 0)), oo 7 (.mv (ci 0)), oo 8 (.mv (ci 2))]
abbrev c_impl_ResistanceOf_5 : List GOp := [oo 30 (.ldn 2 (tt 3)), oo 31 (.call (ff 181) [tt 30]), oo 32 (.un .not (tt 31)), oo 29 (.mv (tt 32))]
abbrev c_impl_ResistanceOf_6 : List GOp := [oo 6 (.mv (ci 0)), oo 7 (.mv (ci 0)), oo 8 (.mv (ci 6))]
abbrev c_impl_ResistanceOf_7 : List GOp := [oo 34 (.mv (tt 1)), oo 35 (.mv (tt 2)), oo 36 (.bin .eql (tt 34) (tt 35)), oo 33 (.mv (tt 36))]
abbrev c_impl_ResistanceOf_8 : List GOp := [oo 6 (.mv (ci 0)), oo 7 (.mv (ci 1)), oo 8 (.mv (ci 0))]
abbrev c_impl_ResistanceOf_9 : DT := (.path [dl 0 (oo 37 (.ldn 2 (tt 3)))] (.path [dl 1 (oo 38 (.mv (tt 1)))] (.path [dl 2 (oo 39 (.mv (tt 2)))] (.path [dl 5 (oo 42 (.ldn 2 (tt 3)))] (.both (.path [dh 3 [5, 0] (oo 40 (.bs 1 [tt 38, tt 39]))] (.both (.path [dh 4 [5] (oo 41 (.call (ff 178) [tt 37, tt 40]))] (.path [dh 6 [5, 0] (oo 43 (.bs 1 [(ci 0)]))] (.path [dh 7 [0] (oo 44 (.call (ff 178) [tt 42, tt 43]))] (.path [dl 8 (oo 9 (.mv (tt 41)))] (.path [dl 9 (oo 10 (.mv (tt 44)))] .fin))))) (.path [dh 6 [5, 0] (oo 43 (.bs 1 [(ci 0)]))] (.path [dh 4 [5] (oo 41 (.call (ff 178) [tt 37, tt 40]))] (.path [dh 7 [0] (oo 44 (.call (ff 178) [tt 42, tt 43]))] (.path [dl 8 (oo 9 (.mv (tt 41)))] (.path [dl 9 (oo 10 (.mv (tt 44)))] .fin))))))) (.path [dh 6 [5, 0] (oo 43 (.bs 1 [(ci 0)]))] (.path [dh 3 [5, 0] (oo 40 (.bs 1 [tt 38, tt 39]))] (.path [dh 4 [5] (oo 41 (.call (ff 178) [tt 37, tt 40]))] (.path [dh 7 [0] (oo 44 (.call (ff 178) [tt 42, tt 43]))] (.path [dl 8 (oo 9 (.mv (tt 41)))] (.path [dl 9 (oo 10 (.mv (tt 44)))] .fin)))))))))))
abbrev c_impl_ResistanceOf_10 : List GOp := [oo 45 (.mv (tt 9)), oo 46 (.mv (tt 10)), oo 47 (.call (ff 182) [tt 45, tt 46]), oo 11 (.mv (tt 47))]
abbrev c_impl_ResistanceOf_11 : List DOp := [dl 0 (oo 48 (.mv (tt 9))), dl 1 (oo 49 (.mv (tt 11))), dl 2 (oo 50 (.bin .quo (tt 48) (tt 49))), dl 3 (oo 51 (.mv (tt 10))), dl 4 (oo 52 (.mv (tt 11))), dl 5 (oo 53 (.bin .quo (tt 51) (tt 52))), dl 6 (oo 6 (.mv (tt 50))), dl 7 (oo 7 (.mv (tt 53))), dl 8 (oo 8 (.mv (ci 0)))]
abbrev c_impl_ResistanceOf : GCode := .seq (.reg c_impl_ResistanceOf_0) (.seq (.blk 0 (.seq (.reg c_impl_ResistanceOf_1) (.cond (tt 12) (.seq (.reg c_impl_ResistanceOf_2) (.ret)) (.seq (.reg c_impl_ResistanceOf_3) (.cond (tt 16) (.seq (.reg c_impl_ResistanceOf_4) (.ret)) (.seq (.reg c_impl_ResistanceOf_5) (.cond (tt 29) (.seq (.reg c_impl_ResistanceOf_6) (.ret)) (.seq (.reg c_impl_ResistanceOf_7) (.cond (tt 33) (.seq (.reg c_impl_ResistanceOf_8) (.ret)) (.skip)))))))))) (.seq (.dtree c_impl_ResistanceOf_9) (.seq (.reg c_impl_ResistanceOf_10) (.seq (.dreg c_impl_ResistanceOf_11) (.ret)))))
theorem c_impl_ResistanceOf_d : decFn Try.prog Try.f84 = some (54, [.t 6, .t 7, .t 8], c_impl_ResistanceOf) := by kernel_rfl
theorem c_impl_ResistanceOf_i {args : List Value} {G : GH} {K : Value → GH → Prop} (hn : args.length ≤ 54) (h : gW Try.prog c_impl_ResistanceOf (RetK [.t 6, .t 7, .t 8] K) (T0 args) G) : GC Try.prog 84 args G K := GC_intro mixed Try.func84 c_impl_ResistanceOf_d hn h
abbrev c_impl_ValidGraph_0 : List GOp := [oo 1 (.bx (tt 0)), oo 2 (.mv (cb  false))]
abbrev c_impl_ValidGraph_1 : List GOp := [oo 5 (.fa 1 (tt 1)), oo 6 (.ld (tt 5)), oo 7 (.len (tt 6)), oo 8 (.mv (ci 0))]
abbrev c_impl_ValidGraph_2 : List GOp := [oo 9 (.bin .lss (tt 8) (tt 7))]
abbrev c_impl_ValidGraph_3 : List GOp := [oo 10 (.mv (tt 8)), oo 11 (.ia 3 (tt 6) (tt 8)), oo 12 (.ldn 3 (tt 11)), oo 4 (.al [.int .i64 0, .int .i64 0, .int .i64 0]), oo 3 (.mv (tt 10)), on (.st 3 (tt 4) (tt 12))]
abbrev c_impl_ValidGraph_4 : List DOp := [dl 0 (oo 13 (.fa 0 (tt 4))), dl 1 (oo 14 (.ld (tt 13))), dl 2 (oo 15 (.bin .lss (tt 14) (ci 0))), dl 3 (oo 16 (.mv (tt 15))), dl 4 (og 17 16 false (.fa 0 (tt 4))), dl 5 (og 18 16 false (.ld (tt 17))), dl 6 (og 19 16 false (.fa 1 (tt 4))), dl 7 (og 20 16 false (.ld (tt 19))), dl 8 (og 21 16 false (.bin .geq (tt 18) (tt 20))), dl 9 (oo 22 (.pick (tt 16) (cb  true) (tt 21))), dl 10 (oo 23 (.mv (tt 22))), dl 11 (og 24 23 false (.fa 1 (tt 4))), dl 12 (og 25 23 false (.ld (tt 24))), dl 13 (og 26 23 false (.fa 0 (tt 1))), dl 14 (og 27 23 false (.ld (tt 26))), dl 15 (og 28 23 false (.bin .geq (tt 25) (tt 27))), dl 16 (oo 29 (.pick (tt 23) (cb  true) (tt 28))), dl 17 (oo 30 (.mv (tt 29))), dl 18 (og 31 30 false (.fa 2 (tt 4))), dl 19 (og 32 30 false (.ld (tt 31))), dh 20 [14, 12, 7, 5, 1] (og 33 30 false (.call (ff 122) [tt 32, (ci 1), (ci 9)])), dl 21 (og 34 30 false (.un .not (tt 33))), dl 22 (oo 35 (.pick (tt 30) (cb  true) (tt 34))), dl 23 (oo 36 (.mv (tt 35))), dl 24 (og 37 36 false (.mv (tt 3))), dl 25 (og 38 36 false (.bin .gtr (tt 37) (ci 0))), dl 26 (og 39 36 false (.mv (tt 38))), dl 27 (og 40 39 true (.fa 1 (tt 1))), dl 28 (og 41 39 true (.ld (tt 40))), dl 29 (og 42 39 true (.mv (tt 3))), dl 30 (og 43 39 true (.bin .sub (tt 42) (ci 1))), dl 31 (og 44 39 true (.ia 3 (tt 41) (tt 43))), dl 32 (og 45 39 true (.ldn 3 (tt 44))), dl 33 (og 46 39 true (.ldn 3 (tt 4))), dh 34 [28, 19, 14, 12, 7, 5, 1] (og 47 39 true (.call (ff 217) [tt 45, tt 46])), dl 35 (og 48 39 true (.bin .geq (tt 47) (ci 0))), dl 36 (og 49 36 false (.pick (tt 39) (tt 48) (cb  false))), dl 37 (oo 50 (.pick (tt 36) (cb  true) (tt 49)))]
abbrev c_impl_ValidGraph_5 : List GOp := [oo 2 (.mv (cb  false))]
abbrev c_impl_ValidGraph_6 : List GOp := [oo 51 (.bin .add (tt 8) (ci 1)), oo 8 (.mv (tt 51))]
abbrev c_impl_ValidGraph_l0 : GCode := .seq (.reg c_impl_ValidGraph_2) (.seq (.cond (tt 9) (.skip) (.exit 0)) (.seq (.blk 1 (.seq (.reg c_impl_ValidGraph_3) (.seq (.dreg c_impl_ValidGraph_4) (.cond (tt 50) (.seq (.reg c_impl_ValidGraph_5) (.ret)) (.skip))))) (.reg c_impl_ValidGraph_6)))
abbrev c_impl_ValidGraph_8 : List GOp := [oo 52 (.fa 0 (tt 1)), oo 53 (.ld (tt 52)), oo 54 (.call (ff 122) [tt 53, (ci 1), (ci 12)]), oo 55 (.mv (tt 54)), og 56 55 true (.fa 1 (tt 1)), og 57 55 true (.ld (tt 56)), og 58 55 true (.len (tt 57)), og 59 55 true (.bin .leq (tt 58) (ci 24)), oo 60 (.pick (tt 55) (tt 59) (cb  false)), oo 2 (.mv (tt 60))]
abbrev c_impl_ValidGraph : GCode := .seq (.reg c_impl_ValidGraph_0) (.seq (.seq (.reg c_impl_ValidGraph_1) (.blk 0 (.loop c_impl_ValidGraph_l0))) (.seq (.reg c_impl_ValidGraph_8) (.ret)))
theorem c_impl_ValidGraph_d : decFn Try.prog Try.f141 = some (61, [.t 2], c_impl_ValidGraph) := by kernel_rfl
theorem c_impl_ValidGraph_i {args : List Value} {G : GH} {K : Value → GH → Prop} (hn : args.length ≤ 61) (h : gW Try.prog c_impl_ValidGraph (RetK [.t 2] K) (T0 args) G) : GC Try.prog 141 args G K := GC_intro mixed Try.func141 c_impl_ValidGraph_d hn h
abbrev c_impl_addTimes_0 : List GOp := [oo 8 (.mv (.const (.slice none 0 0)))]
abbrev c_impl_addTimes_1 : List GOp := [oo 9 (.mv (.const (.slice none 0 0)))]
abbrev c_impl_addTimes_2 : List GOp := [oo 11 (.mv (tt 0)), oo 12 (.len (tt 11)), oo 13 (.mv (ci 0))]
abbrev c_impl_addTimes_3 : List GOp := [oo 14 (.bin .lss (tt 13) (tt 12))]
abbrev c_impl_addTimes_4 : List GOp := [oo 15 (.mv (tt 13)), oo 10 (.mv (tt 15))]
abbrev c_impl_addTimes_5 : List DOp := [dl 0 (oo 16 (.mv (tt 9))), dl 1 (oo 17 (.mv (tt 0))), dl 2 (oo 18 (.mv (tt 10))), dl 3 (oo 19 (.ia 1 (tt 17) (tt 18))), dl 4 (oo 20 (.ld (tt 19))), dl 5 (oo 21 (.mv (tt 2))), dl 6 (oo 22 (.mv (tt 1))), dl 7 (oo 23 (.mv (tt 10))), dl 8 (oo 24 (.ia 1 (tt 22) (tt 23))), dl 9 (oo 25 (.ld (tt 24))), dl 10 (oo 26 (.bin .mul (tt 21) (tt 25))), dl 11 (oo 27 (.bin .add (tt 20) (tt 26))), dl 12 (oo 28 (.mv (tt 3))), dl 13 (oo 29 (.bin .rem (tt 27) (tt 28))), dh 14 [9, 4] (oo 30 (.bs 1 [tt 29])), dh 15 [9, 4] (oo 31 (.ap 1 8 [.int .i64 0] (tt 16) (tt 30))), dl 16 (oo 9 (.mv (tt 31)))]
abbrev c_impl_addTimes_6 : List GOp := [oo 32 (.bin .add (tt 13) (ci 1)), oo 13 (.mv (tt 32))]
abbrev c_impl_addTimes_l0 : GCode := .seq (.reg c_impl_addTimes_3) (.seq (.cond (tt 14) (.skip) (.exit 0)) (.seq (.blk 1 (.seq (.reg c_impl_addTimes_4) (.dreg c_impl_addTimes_5))) (.reg c_impl_addTimes_6)))
abbrev c_impl_addTimes_8 : List GOp := [oo 33 (.mv (tt 9)), oo 8 (.mv (tt 33))]
abbrev c_impl_addTimes : GCode := .seq (.reg c_impl_addTimes_0) (.seq (.reg c_impl_addTimes_1) (.seq (.seq (.reg c_impl_addTimes_2) (.blk 0 (.loop c_impl_addTimes_l0))) (.seq (.reg c_impl_addTimes_8) (.ret))))
theorem c_impl_addTimes_d : decFn Try.prog Try.f255 = some (34, [.t 8], c_impl_addTimes) := by kernel_rfl
theorem c_impl_addTimes_i {args : List Value} {G : GH} {K : Value → GH → Prop} (hn : args.length ≤ 34) (h : gW Try.prog c_impl_addTimes (RetK [.t 8] K) (T0 args) G) : GC Try.prog 255 args G K := GC_intro mixed Try.func255 c_impl_addTimes_d hn h
abbrev c_impl_compareEdges_0 : List GOp := [oo 2 (.bx (tt 0)), oo 3 (.bx (tt 1)), oo 4 (.mv (ci 0))]
abbrev c_impl_compareEdges_1 : List DOp := [dl 0 (oo 5 (.fa 0 (tt 2))), dl 1 (oo 6 (.ld (tt 5))), dl 2 (oo 7 (.fa 0 (tt 3))), dl 3 (oo 8 (.ld (tt 7))), dl 5 (oo 10 (.fa 1 (tt 2))), dl 6 (oo 11 (.ld (tt 10))), dl 7 (oo 12 (.fa 1 (tt 3))), dl 8 (oo 13 (.ld (tt 12))), dh 4 [8, 6] (oo 9 (.call (ff 218) [tt 6, tt 8])), dh 9 [3, 1] (oo 14 (.call (ff 218) [tt 11, tt 13])), dh 10 [8, 6, 3, 1] (oo 15 (.bs 1 [tt 9, tt 14])), dh 11 [8, 6, 3, 1] (oo 16 (.call (ff 241) [tt 15])), dl 12 (oo 4 (.mv (tt 16)))]
abbrev c_impl_compareEdges : GCode := .seq (.reg c_impl_compareEdges_0) (.seq (.dreg c_impl_compareEdges_1) (.ret))
theorem c_impl_compareEdges_d : decFn Try.prog Try.f217 = some (17, [.t 4], c_impl_compareEdges) := by kernel_rfl
theorem c_impl_compareEdges_i {args : List Value} {G : GH} {K : Value → GH → Prop} (hn : args.length ≤ 17) (h : gW Try.prog c_impl_compareEdges (RetK [.t 4] K) (T0 args) G) : GC Try.prog 217 args G K := GC_intro mixed Try.func217 c_impl_compareEdges_d hn h
abbrev c_impl_components_0 : List GOp := [oo 1 (.bx (tt 0)), oo 2 (.mv (.const (.slice none 0 0)))]
abbrev c_impl_components_1 : List GOp := [oo 7 (.fa 0 (tt 1)), oo 8 (.ld (tt 7)), oo 9 (.call (ff 128) [tt 8]), oo 3 (.mv (tt 9))]
abbrev c_impl_components_2 : List GOp := [oo 10 (.fa 0 (tt 1)), oo 11 (.ld (tt 10)), oo 12 (.mv (ci 0))]
abbrev c_impl_components_3 : List GOp := [oo 13 (.bin .lss (tt 12) (tt 11))]
abbrev c_impl_components_4 : List GOp := [oo 14 (.fa 1 (tt 1)), oo 15 (.ld (tt 14)), oo 16 (.len (tt 15)), oo 17 (.mv (ci 0))]
abbrev c_impl_components_5 : List GOp := [oo 18 (.bin .lss (tt 17) (tt 16))]
abbrev c_impl_components_6 : List GOp := [oo 19 (.ia 3 (tt 15) (tt 17)), oo 20 (.ldn 3 (tt 19)), oo 5 (.al [.int .i64 0, .int .i64 0, .int .i64 0]), on (.st 3 (tt 5) (tt 20))]
abbrev c_impl_components_7 : List DOp := [dl 0 (oo 21 (.mv (tt 3))), dl 1 (oo 22 (.fa 0 (tt 5))), dl 2 (oo 23 (.ld (tt 22))), dl 3 (oo 24 (.ia 1 (tt 21) (tt 23))), dl 4 (oo 25 (.ld (tt 24))), dl 5 (oo 26 (.mv (tt 3))), dl 6 (oo 27 (.fa 1 (tt 5))), dl 7 (oo 28 (.ld (tt 27))), dl 8 (oo 29 (.ia 1 (tt 26) (tt 28))), dl 9 (oo 30 (.ld (tt 29))), dl 10 (oo 31 (.mn [tt 25, tt 30])), dl 11 (oo 6 (.mv (tt 31)))]
abbrev c_impl_components_8 : List DOp := [dl 0 (oo 32 (.mv (tt 3))), dl 1 (oo 33 (.fa 0 (tt 5))), dl 2 (oo 34 (.ld (tt 33))), dl 3 (oo 35 (.mv (tt 3))), dl 4 (oo 36 (.fa 1 (tt 5))), dl 5 (oo 37 (.ld (tt 36))), dl 6 (oo 38 (.mv (tt 6))), dl 7 (oo 39 (.mv (tt 6))), dl 8 (oo 40 (.ia 1 (tt 32) (tt 34))), dh 9 [5] (on (.st 1 (tt 40) (tt 38))), dl 10 (oo 41 (.ia 1 (tt 35) (tt 37))), dh 11 [] (on (.st 1 (tt 41) (tt 39)))]
abbrev c_impl_components_9 : List GOp := [oo 42 (.bin .add (tt 17) (ci 1)), oo 17 (.mv (tt 42))]
abbrev c_impl_components_l0 : GCode := .seq (.reg c_impl_components_5) (.seq (.cond (tt 18) (.skip) (.exit 2)) (.seq (.blk 3 (.seq (.reg c_impl_components_6) (.seq (.dreg c_impl_components_7) (.dreg c_impl_components_8)))) (.reg c_impl_components_9)))
abbrev c_impl_components_11 : List GOp := [oo 43 (.bin .add (tt 12) (ci 1)), oo 12 (.mv (tt 43))]
abbrev c_impl_components_l1 : GCode := .seq (.reg c_impl_components_3) (.seq (.cond (tt 13) (.skip) (.exit 0)) (.seq (.blk 1 (.seq (.reg c_impl_components_4) (.blk 2 (.loop c_impl_components_l0)))) (.reg c_impl_components_11)))
abbrev c_impl_components_13 : List GOp := [oo 44 (.mv (tt 3)), oo 2 (.mv (tt 44))]
abbrev c_impl_components : GCode := .seq (.reg c_impl_components_0) (.seq (.reg c_impl_components_1) (.seq (.seq (.reg c_impl_components_2) (.blk 0 (.loop c_impl_components_l1))) (.seq (.reg c_impl_components_13) (.ret))))
theorem c_impl_components_d : decFn Try.prog Try.f116 = some (45, [.t 2], c_impl_components) := by kernel_rfl
theorem c_impl_components_i {args : List Value} {G : GH} {K : Value → GH → Prop} (hn : args.length ≤ 45) (h : gW Try.prog c_impl_components (RetK [.t 2] K) (T0 args) G) : GC Try.prog 116 args G K := GC_intro mixed Try.func116 c_impl_components_d hn h
abbrev c_impl_eliminate_0 : List GOp := [oo 6 (.mv (.const (.slice none 0 0))), oo 7 (.mv (ci 0))]
abbrev c_impl_eliminate_1 : List GOp := [oo 8 (.mv (.const (.slice none 0 0)))]
abbrev c_impl_eliminate_2 : List GOp := [oo 9 (.mv (ci 1))]
abbrev c_impl_eliminate_3 : List GOp := [oo 16 (.mv (tt 1)), oo 17 (.mv (ci 0))]
abbrev c_impl_eliminate_4 : List GOp := [oo 18 (.bin .lss (tt 17) (tt 16))]
abbrev c_impl_eliminate_5 : List GOp := [oo 19 (.mv (tt 17)), oo 10 (.al [.int .i64 0]), on (.st 1 (tt 10) (tt 19))]
abbrev c_impl_eliminate_6 : List GOp := [oo 20 (.mv (tt 8)), oo 21 (.len (tt 20)), oo 11 (.mv (tt 21))]
abbrev c_impl_eliminate_7 : List GOp := [oo 22 (.mv (tt 0)), oo 23 (.mv (tt 11)), oo 24 (.sl 1 (tt 22) (some (tt 23)) none), oo 25 (.mf (.func 254) [] [tt 10]), oo 26 (.call (ff 253) [tt 24, tt 25]), oo 12 (.mv (tt 26))]
abbrev c_impl_eliminate_8 : List GOp := [oo 27 (.mv (tt 12)), oo 28 (.bin .lss (tt 27) (ci 0))]
abbrev c_impl_eliminate_9 : List GOp := [oo 9 (.mv (ci 0))]
abbrev c_impl_eliminate_10 : List GOp := [oo 29 (.mv (tt 12)), oo 30 (.bin .gtr (tt 29) (ci 0))]
abbrev c_impl_eliminate_11 : List DOp := [dl 0 (oo 31 (.mv (tt 0))), dl 1 (oo 32 (.mv (tt 11))), dl 2 (oo 33 (.mv (tt 0))), dl 3 (oo 34 (.mv (tt 11))), dl 4 (oo 35 (.mv (tt 12))), dl 5 (oo 36 (.bin .add (tt 34) (tt 35))), dl 6 (oo 37 (.mv (tt 0))), dl 7 (oo 38 (.mv (tt 11))), dl 8 (oo 39 (.mv (tt 12))), dl 9 (oo 40 (.bin .add (tt 38) (tt 39))), dl 10 (oo 41 (.ia 1 (tt 37) (tt 40))), dl 11 (oo 42 (.ld (tt 41))), dl 12 (oo 43 (.mv (tt 0))), dl 13 (oo 44 (.mv (tt 11))), dl 14 (oo 45 (.ia 1 (tt 43) (tt 44))), dl 15 (oo 46 (.ld (tt 45))), dl 16 (oo 47 (.ia 1 (tt 31) (tt 32))), dh 17 [] (on (.st 1 (tt 47) (tt 42))), dl 18 (oo 48 (.ia 1 (tt 33) (tt 36))), dh 19 [] (on (.st 1 (tt 48) (tt 46)))]
abbrev c_impl_eliminate_12 : List GOp := [oo 49 (.mv (tt 9)), oo 50 (.un .neg (tt 49)), oo 51 (.mv (tt 2)), oo 52 (.call (ff 165) [tt 50, tt 51]), oo 9 (.mv (tt 52))]
abbrev c_impl_eliminate_13 : List DOp := [dl 0 (oo 53 (.mv (tt 0))), dl 1 (oo 54 (.mv (tt 11))), dl 2 (oo 55 (.ia 1 (tt 53) (tt 54))), dl 3 (oo 56 (.ld (tt 55))), dl 4 (oo 57 (.ld (tt 10))), dl 5 (oo 58 (.ia 1 (tt 56) (tt 57))), dl 6 (oo 59 (.ld (tt 58))), dl 7 (oo 13 (.mv (tt 59)))]
abbrev c_impl_eliminate_14 : List GOp := [oo 60 (.mv (tt 9)), oo 61 (.mv (tt 13)), oo 62 (.bin .mul (tt 60) (tt 61)), oo 63 (.mv (tt 2)), oo 64 (.bin .rem (tt 62) (tt 63)), oo 9 (.mv (tt 64))]
abbrev c_impl_eliminate_15 : DT := (.path [dl 0 (oo 65 (.mv (tt 0)))] (.path [dl 1 (oo 66 (.mv (tt 11)))] (.path [dl 2 (oo 67 (.mv (tt 1)))] (.path [dl 4 (oo 69 (.mv (tt 0)))] (.path [dl 5 (oo 70 (.mv (tt 11)))] (.path [dl 6 (oo 71 (.ia 1 (tt 69) (tt 70)))] (.path [dl 7 (oo 72 (.ld (tt 71)))] (.path [dl 8 (oo 73 (.mv (tt 13)))] (.path [dl 9 (oo 74 (.mv (tt 2)))] (.path [dl 11 (oo 76 (.mv (tt 2)))] (.both (.path [dh 3 [7] (oo 68 (.mk 1 8 [.int .i64 0] (tt 67) (tt 67)))] (.path [dh 10 [7] (oo 75 (.call (ff 236) [tt 73, tt 74]))] (.path [dh 12 [] (oo 77 (.call (ff 255) [tt 68, tt 72, tt 75, tt 76]))] (.path [dl 13 (oo 78 (.ia 1 (tt 65) (tt 66)))] (.path [dh 14 [] (on (.st 1 (tt 78) (tt 77)))] .fin))))) (.path [dh 10 [7] (oo 75 (.call (ff 236) [tt 73, tt 74]))] (.path [dh 3 [7] (oo 68 (.mk 1 8 [.int .i64 0] (tt 67) (tt 67)))] (.path [dh 12 [] (oo 77 (.call (ff 255) [tt 68, tt 72, tt 75, tt 76]))] (.path [dl 13 (oo 78 (.ia 1 (tt 65) (tt 66)))] (.path [dh 14 [] (on (.st 1 (tt 78) (tt 77)))] .fin))))))))))))))))
abbrev c_impl_eliminate_16 : List GOp := [oo 79 (.mv (tt 0)), oo 80 (.len (tt 79)), oo 81 (.mv (ci 0))]
abbrev c_impl_eliminate_17 : List GOp := [oo 82 (.bin .lss (tt 81) (tt 80))]
abbrev c_impl_eliminate_18 : List GOp := [oo 83 (.mv (tt 81)), oo 84 (.ia 1 (tt 79) (tt 81)), oo 85 (.ld (tt 84)), oo 14 (.mv (tt 83)), oo 15 (.mv (tt 85))]
abbrev c_impl_eliminate_19 : List GOp := [oo 86 (.mv (tt 14)), oo 87 (.mv (tt 11)), oo 88 (.bin .neq (tt 86) (tt 87)), oo 89 (.mv (tt 88)), og 90 89 true (.mv (tt 15)), og 91 89 true (.ld (tt 10)), og 92 89 true (.ia 1 (tt 90) (tt 91)), og 93 89 true (.ld (tt 92)), og 94 89 true (.bin .neq (tt 93) (ci 0)), oo 95 (.pick (tt 89) (tt 94) (cb  false))]
abbrev c_impl_eliminate_20 : List DOp := [dl 0 (oo 96 (.mv (tt 0))), dl 1 (oo 97 (.mv (tt 14))), dl 2 (oo 98 (.mv (tt 15))), dl 3 (oo 99 (.mv (tt 0))), dl 4 (oo 100 (.mv (tt 11))), dl 5 (oo 101 (.ia 1 (tt 99) (tt 100))), dl 6 (oo 102 (.ld (tt 101))), dl 7 (oo 103 (.mv (tt 2))), dl 8 (oo 104 (.mv (tt 15))), dl 9 (oo 105 (.ld (tt 10))), dl 10 (oo 106 (.ia 1 (tt 104) (tt 105))), dl 11 (oo 107 (.ld (tt 106))), dl 12 (oo 108 (.bin .sub (tt 103) (tt 107))), dl 13 (oo 109 (.mv (tt 2))), dh 14 [11, 9] (oo 110 (.call (ff 255) [tt 98, tt 102, tt 108, tt 109])), dl 15 (oo 111 (.ia 1 (tt 96) (tt 97))), dh 16 [] (on (.st 1 (tt 111) (tt 110)))]
abbrev c_impl_eliminate_21 : List GOp := [oo 112 (.bin .add (tt 81) (ci 1)), oo 81 (.mv (tt 112))]
abbrev c_impl_eliminate_l0 : GCode := .seq (.reg c_impl_eliminate_17) (.seq (.cond (tt 82) (.skip) (.exit 2)) (.seq (.blk 3 (.seq (.reg c_impl_eliminate_18) (.seq (.reg c_impl_eliminate_19) (.cond (tt 95) (.dreg c_impl_eliminate_20) (.skip))))) (.reg c_impl_eliminate_21)))
abbrev c_impl_eliminate_23 : List GOp := [oo 113 (.mv (tt 8)), oo 114 (.ld (tt 10)), oo 115 (.bs 1 [tt 114]), oo 116 (.ap 1 8 [.int .i64 0] (tt 113) (tt 115)), oo 8 (.mv (tt 116))]
abbrev c_impl_eliminate_24 : List GOp := [oo 117 (.bin .add (tt 17) (ci 1)), oo 17 (.mv (tt 117))]
abbrev c_impl_eliminate_l1 : GCode := .seq (.reg c_impl_eliminate_4) (.seq (.cond (tt 18) (.skip) (.exit 0)) (.seq (.blk 1 (.seq (.reg c_impl_eliminate_5) (.seq (.reg c_impl_eliminate_6) (.seq (.reg c_impl_eliminate_7) (.seq (.seq (.reg c_impl_eliminate_8) (.cond (tt 28) (.seq (.reg c_impl_eliminate_9) (.exit 1)) (.skip))) (.seq (.seq (.reg c_impl_eliminate_10) (.cond (tt 30) (.seq (.dreg c_impl_eliminate_11) (.reg c_impl_eliminate_12)) (.skip))) (.seq (.dreg c_impl_eliminate_13) (.seq (.reg c_impl_eliminate_14) (.seq (.dtree c_impl_eliminate_15) (.seq (.seq (.reg c_impl_eliminate_16) (.blk 2 (.loop c_impl_eliminate_l0))) (.reg c_impl_eliminate_23))))))))))) (.reg c_impl_eliminate_24)))
abbrev c_impl_eliminate_26 : List GOp := [oo 118 (.mv (tt 8)), oo 119 (.mv (tt 9)), oo 6 (.mv (tt 118)), oo 7 (.mv (tt 119))]
abbrev c_impl_eliminate : GCode := .seq (.reg c_impl_eliminate_0) (.seq (.reg c_impl_eliminate_1) (.seq (.reg c_impl_eliminate_2) (.seq (.seq (.reg c_impl_eliminate_3) (.blk 0 (.loop c_impl_eliminate_l1))) (.seq (.reg c_impl_eliminate_26) (.ret)))))
theorem c_impl_eliminate_d : decFn Try.prog Try.f231 = some (120, [.t 6, .t 7], c_impl_eliminate) := by kernel_rfl
theorem c_impl_eliminate_i {args : List Value} {G : GH} {K : Value → GH → Prop} (hn : args.length ≤ 120) (h : gW Try.prog c_impl_eliminate (RetK [.t 6, .t 7] K) (T0 args) G) : GC Try.prog 231 args G K := GC_intro mixed Try.func231 c_impl_eliminate_d hn h
abbrev c_impl_eliminate_fn1_0 : List GOp := [oo 3 (.mv (cb  false))]
abbrev c_impl_eliminate_fn1_1 : List GOp := [oo 4 (.mv (tt 0)), oo 5 (.ld (tt 1)), oo 6 (.ia 1 (tt 4) (tt 5)), oo 7 (.ld (tt 6)), oo 8 (.bin .neq (tt 7) (ci 0)), oo 3 (.mv (tt 8))]
abbrev c_impl_eliminate_fn1 : GCode := .seq (.reg c_impl_eliminate_fn1_0) (.seq (.reg c_impl_eliminate_fn1_1) (.ret))
theorem c_impl_eliminate_fn1_d : decFn Try.prog Try.f254 = some (9, [.t 3], c_impl_eliminate_fn1) := by kernel_rfl
theorem c_impl_eliminate_fn1_i {args : List Value} {G : GH} {K : Value → GH → Prop} (hn : args.length ≤ 9) (h : gW Try.prog c_impl_eliminate_fn1 (RetK [.t 3] K) (T0 args) G) : GC Try.prog 254 args G K := GC_intro mixed Try.func254 c_impl_eliminate_fn1_d hn h
abbrev c_impl_firstChoice_0 : List GOp := [oo 2 (.mv (.const (.slice none 0 0)))]
abbrev c_impl_firstChoice_1 : List GOp := [oo 3 (.mv (.const (.slice none 0 0)))]
abbrev c_impl_firstChoice_2 : List GOp := [oo 5 (.mv (tt 0)), oo 6 (.mv (ci 0))]
abbrev c_impl_firstChoice_3 : List GOp := [oo 7 (.bin .lss (tt 6) (tt 5))]
abbrev c_impl_firstChoice_4 : List GOp := [oo 8 (.mv (tt 6)), oo 4 (.mv (tt 8))]
abbrev c_impl_firstChoice_5 : List GOp := [oo 9 (.mv (tt 3)), oo 10 (.mv (tt 4)), oo 11 (.bs 1 [tt 10]), oo 12 (.ap 1 8 [.int .i64 0] (tt 9) (tt 11)), oo 3 (.mv (tt 12))]
abbrev c_impl_firstChoice_6 : List GOp := [oo 13 (.bin .add (tt 6) (ci 1)), oo 6 (.mv (tt 13))]
abbrev c_impl_firstChoice_l0 : GCode := .seq (.reg c_impl_firstChoice_3) (.seq (.cond (tt 7) (.skip) (.exit 0)) (.seq (.blk 1 (.seq (.reg c_impl_firstChoice_4) (.reg c_impl_firstChoice_5))) (.reg c_impl_firstChoice_6)))
abbrev c_impl_firstChoice_8 : List GOp := [oo 14 (.mv (tt 3)), oo 2 (.mv (tt 14))]
abbrev c_impl_firstChoice : GCode := .seq (.reg c_impl_firstChoice_0) (.seq (.reg c_impl_firstChoice_1) (.seq (.seq (.reg c_impl_firstChoice_2) (.blk 0 (.loop c_impl_firstChoice_l0))) (.seq (.reg c_impl_firstChoice_8) (.ret))))
theorem c_impl_firstChoice_d : decFn Try.prog Try.f128 = some (15, [.t 2], c_impl_firstChoice) := by kernel_rfl
theorem c_impl_firstChoice_i {args : List Value} {G : GH} {K : Value → GH → Prop} (hn : args.length ≤ 15) (h : gW Try.prog c_impl_firstChoice (RetK [.t 2] K) (T0 args) G) : GC Try.prog 128 args G K := GC_intro mixed Try.func128 c_impl_firstChoice_d hn h
abbrev c_impl_gcd_0 : List GOp := [oo 4 (.mv (ci 0))]
abbrev c_impl_gcd_1 : List GOp := [oo 5 (.mv (tt 1)), oo 6 (.bin .neq (tt 5) (ci 0))]
abbrev c_impl_gcd_2 : List DOp := [dl 0 (oo 7 (.mv (tt 1))), dl 1 (oo 8 (.mv (tt 0))), dl 2 (oo 9 (.mv (tt 1))), dl 3 (oo 10 (.bin .rem (tt 8) (tt 9))), dl 4 (oo 0 (.mv (tt 7))), dl 5 (oo 1 (.mv (tt 10)))]
abbrev c_impl_gcd_l0 : GCode := .seq (.seq (.reg c_impl_gcd_1) (.cond (tt 6) (.skip) (.exit 0))) (.blk 1 (.dreg c_impl_gcd_2))
abbrev c_impl_gcd_4 : List GOp := [oo 11 (.mv (tt 0)), oo 4 (.mv (tt 11))]
abbrev c_impl_gcd : GCode := .seq (.reg c_impl_gcd_0) (.seq (.blk 0 (.loop c_impl_gcd_l0)) (.seq (.reg c_impl_gcd_4) (.ret)))
theorem c_impl_gcd_d : decFn Try.prog Try.f182 = some (12, [.t 4], c_impl_gcd) := by kernel_rfl
theorem c_impl_gcd_i {args : List Value} {G : GH} {K : Value → GH → Prop} (hn : args.length ≤ 12) (h : gW Try.prog c_impl_gcd (RetK [.t 4] K) (T0 args) G) : GC Try.prog 182 args G K := GC_intro mixed Try.func182 c_impl_gcd_d hn h
abbrev c_impl_inverseOf_0 : List GOp := [oo 4 (.mv (ci 0))]
abbrev c_impl_inverseOf_1 : List GOp := [oo 5 (.mv (tt 0)), oo 6 (.mv (tt 1)), oo 7 (.bin .sub (tt 6) (ci 2)), oo 8 (.mv (tt 1)), oo 9 (.call (ff 256) [tt 5, tt 7, tt 8]), oo 4 (.mv (tt 9))]
abbrev c_impl_inverseOf : GCode := .seq (.reg c_impl_inverseOf_0) (.seq (.reg c_impl_inverseOf_1) (.ret))
theorem c_impl_inverseOf_d : decFn Try.prog Try.f236 = some (10, [.t 4], c_impl_inverseOf) := by kernel_rfl
theorem c_impl_inverseOf_i {args : List Value} {G : GH} {K : Value → GH → Prop} (hn : args.length ≤ 10) (h : gW Try.prog c_impl_inverseOf (RetK [.t 4] K) (T0 args) G) : GC Try.prog 236 args G K := GC_intro mixed Try.func236 c_impl_inverseOf_d hn h
abbrev c_impl_isConnected_0 : List GOp := [oo 1 (.bx (tt 0)), oo 2 (.mv (cb  false))]
abbrev c_impl_isConnected_1 : List GOp := [oo 3 (.ldn 2 (tt 1)), oo 4 (.call (ff 116) [tt 3]), oo 5 (.call (ff 237) [tt 4]), oo 2 (.mv (tt 5))]
abbrev c_impl_isConnected : GCode := .seq (.reg c_impl_isConnected_0) (.seq (.reg c_impl_isConnected_1) (.ret))
theorem c_impl_isConnected_d : decFn Try.prog Try.f181 = some (6, [.t 2], c_impl_isConnected) := by kernel_rfl
theorem c_impl_isConnected_i {args : List Value} {G : GH} {K : Value → GH → Prop} (hn : args.length ≤ 6) (h : gW Try.prog c_impl_isConnected (RetK [.t 2] K) (T0 args) G) : GC Try.prog 181 args G K := GC_intro mixed Try.func181 c_impl_isConnected_d hn h
abbrev c_impl_isElement_0 : List GOp := [oo 4 (.mv (cb  false))]
abbrev c_impl_isElement_1 : List GOp := [oo 5 (.mv (tt 0)), oo 6 (.mv (tt 1)), oo 7 (.bin .sub (tt 6) (ci 1)), oo 8 (.call (ff 122) [tt 5, (ci 0), tt 7]), oo 4 (.mv (tt 8))]
abbrev c_impl_isElement : GCode := .seq (.reg c_impl_isElement_0) (.seq (.reg c_impl_isElement_1) (.ret))
theorem c_impl_isElement_d : decFn Try.prog Try.f180 = some (9, [.t 4], c_impl_isElement) := by kernel_rfl
theorem c_impl_isElement_i {args : List Value} {G : GH} {K : Value → GH → Prop} (hn : args.length ≤ 9) (h : gW Try.prog c_impl_isElement (RetK [.t 4] K) (T0 args) G) : GC Try.prog 180 args G K := GC_intro mixed Try.func180 c_impl_isElement_d hn h
abbrev c_impl_isZero_0 : List GOp := [oo 2 (.mv (cb  false))]
abbrev c_impl_isZero_1 : List GOp := [oo 3 (.mv (tt 0)), oo 4 (.call (ff 152) [tt 3, (ff 257)]), oo 5 (.un .not (tt 4)), oo 2 (.mv (tt 5))]
abbrev c_impl_isZero : GCode := .seq (.reg c_impl_isZero_0) (.seq (.reg c_impl_isZero_1) (.ret))
theorem c_impl_isZero_d : decFn Try.prog Try.f237 = some (6, [.t 2], c_impl_isZero) := by kernel_rfl
theorem c_impl_isZero_i {args : List Value} {G : GH} {K : Value → GH → Prop} (hn : args.length ≤ 6) (h : gW Try.prog c_impl_isZero (RetK [.t 2] K) (T0 args) G) : GC Try.prog 237 args G K := GC_intro mixed Try.func237 c_impl_isZero_d hn h
abbrev c_impl_isZero_fn1_0 : List GOp := [oo 2 (.mv (cb  false))]
abbrev c_impl_isZero_fn1_1 : List GOp := [oo 3 (.mv (tt 0)), oo 4 (.bin .neq (tt 3) (ci 0)), oo 2 (.mv (tt 4))]
abbrev c_impl_isZero_fn1 : GCode := .seq (.reg c_impl_isZero_fn1_0) (.seq (.reg c_impl_isZero_fn1_1) (.ret))
theorem c_impl_isZero_fn1_d : decFn Try.prog Try.f257 = some (5, [.t 2], c_impl_isZero_fn1) := by kernel_rfl
theorem c_impl_isZero_fn1_i {args : List Value} {G : GH} {K : Value → GH → Prop} (hn : args.length ≤ 5) (h : gW Try.prog c_impl_isZero_fn1 (RetK [.t 2] K) (T0 args) G) : GC Try.prog 257 args G K := GC_intro mixed Try.func257 c_impl_isZero_fn1_d hn h
abbrev c_impl_laplacian_0 : List GOp := [oo 1 (.bx (tt 0)), oo 2 (.mv (.const (.slice none 0 0)))]
abbrev c_impl_laplacian_1 : List GOp := [oo 7 (.fa 0 (tt 1)), oo 8 (.ld (tt 7)), oo 9 (.mk 1 24 [.slice none 0 0] (tt 8) (tt 8)), oo 3 (.mv (tt 9))]
abbrev c_impl_laplacian_2 : List GOp := [oo 10 (.mv (tt 3)), oo 11 (.len (tt 10)), oo 12 (.mv (ci 0))]
abbrev c_impl_laplacian_3 : List GOp := [oo 13 (.bin .lss (tt 12) (tt 11))]
abbrev c_impl_laplacian_4 : List GOp := [oo 14 (.mv (tt 12)), oo 4 (.mv (tt 14))]
abbrev c_impl_laplacian_5 : List GOp := [oo 15 (.mv (tt 3)), oo 16 (.mv (tt 4)), oo 17 (.fa 0 (tt 1)), oo 18 (.ld (tt 17)), oo 19 (.mk 1 8 [.int .i64 0] (tt 18) (tt 18)), oo 20 (.ia 1 (tt 15) (tt 16)), on (.st 1 (tt 20) (tt 19))]
abbrev c_impl_laplacian_6 : List GOp := [oo 21 (.bin .add (tt 12) (ci 1)), oo 12 (.mv (tt 21))]
abbrev c_impl_laplacian_l0 : GCode := .seq (.reg c_impl_laplacian_3) (.seq (.cond (tt 13) (.skip) (.exit 0)) (.seq (.blk 1 (.seq (.reg c_impl_laplacian_4) (.reg c_impl_laplacian_5))) (.reg c_impl_laplacian_6)))
abbrev c_impl_laplacian_8 : List GOp := [oo 22 (.fa 1 (tt 1)), oo 23 (.ld (tt 22)), oo 24 (.len (tt 23)), oo 25 (.mv (ci 0))]
abbrev c_impl_laplacian_9 : List GOp := [oo 26 (.bin .lss (tt 25) (tt 24))]
abbrev c_impl_laplacian_10 : List GOp := [oo 27 (.ia 3 (tt 23) (tt 25)), oo 28 (.ldn 3 (tt 27)), oo 6 (.al [.int .i64 0, .int .i64 0, .int .i64 0]), on (.st 3 (tt 6) (tt 28))]
abbrev c_impl_laplacian_11 : List DOp := [dl 0 (oo 29 (.mv (tt 3))), dl 1 (oo 30 (.fa 0 (tt 6))), dl 2 (oo 31 (.ld (tt 30))), dl 3 (oo 32 (.ia 1 (tt 29) (tt 31))), dl 4 (oo 33 (.ld (tt 32))), dl 5 (oo 34 (.fa 0 (tt 6))), dl 6 (oo 35 (.ld (tt 34))), dl 7 (oo 36 (.ia 1 (tt 33) (tt 35))), dl 8 (oo 37 (.ld (tt 36))), dl 9 (oo 38 (.fa 2 (tt 6))), dl 10 (oo 39 (.ld (tt 38))), dl 11 (oo 40 (.bin .add (tt 37) (tt 39))), dl 12 (oo 41 (.ia 1 (tt 33) (tt 35))), dh 13 [] (on (.st 1 (tt 41) (tt 40)))]
abbrev c_impl_laplacian_12 : List DOp := [dl 0 (oo 42 (.mv (tt 3))), dl 1 (oo 43 (.fa 1 (tt 6))), dl 2 (oo 44 (.ld (tt 43))), dl 3 (oo 45 (.ia 1 (tt 42) (tt 44))), dl 4 (oo 46 (.ld (tt 45))), dl 5 (oo 47 (.fa 1 (tt 6))), dl 6 (oo 48 (.ld (tt 47))), dl 7 (oo 49 (.ia 1 (tt 46) (tt 48))), dl 8 (oo 50 (.ld (tt 49))), dl 9 (oo 51 (.fa 2 (tt 6))), dl 10 (oo 52 (.ld (tt 51))), dl 11 (oo 53 (.bin .add (tt 50) (tt 52))), dl 12 (oo 54 (.ia 1 (tt 46) (tt 48))), dh 13 [] (on (.st 1 (tt 54) (tt 53)))]
abbrev c_impl_laplacian_13 : List DOp := [dl 0 (oo 55 (.mv (tt 3))), dl 1 (oo 56 (.fa 0 (tt 6))), dl 2 (oo 57 (.ld (tt 56))), dl 3 (oo 58 (.ia 1 (tt 55) (tt 57))), dl 4 (oo 59 (.ld (tt 58))), dl 5 (oo 60 (.fa 1 (tt 6))), dl 6 (oo 61 (.ld (tt 60))), dl 7 (oo 62 (.fa 2 (tt 6))), dl 8 (oo 63 (.ld (tt 62))), dl 9 (oo 64 (.un .neg (tt 63))), dl 10 (oo 65 (.ia 1 (tt 59) (tt 61))), dh 11 [] (on (.st 1 (tt 65) (tt 64)))]
abbrev c_impl_laplacian_14 : List DOp := [dl 0 (oo 66 (.mv (tt 3))), dl 1 (oo 67 (.fa 1 (tt 6))), dl 2 (oo 68 (.ld (tt 67))), dl 3 (oo 69 (.ia 1 (tt 66) (tt 68))), dl 4 (oo 70 (.ld (tt 69))), dl 5 (oo 71 (.fa 0 (tt 6))), dl 6 (oo 72 (.ld (tt 71))), dl 7 (oo 73 (.fa 2 (tt 6))), dl 8 (oo 74 (.ld (tt 73))), dl 9 (oo 75 (.un .neg (tt 74))), dl 10 (oo 76 (.ia 1 (tt 70) (tt 72))), dh 11 [] (on (.st 1 (tt 76) (tt 75)))]
abbrev c_impl_laplacian_15 : List GOp := [oo 77 (.bin .add (tt 25) (ci 1)), oo 25 (.mv (tt 77))]
abbrev c_impl_laplacian_l1 : GCode := .seq (.reg c_impl_laplacian_9) (.seq (.cond (tt 26) (.skip) (.exit 2)) (.seq (.blk 3 (.seq (.reg c_impl_laplacian_10) (.seq (.dreg c_impl_laplacian_11) (.seq (.dreg c_impl_laplacian_12) (.seq (.dreg c_impl_laplacian_13) (.dreg c_impl_laplacian_14)))))) (.reg c_impl_laplacian_15)))
abbrev c_impl_laplacian_17 : List GOp := [oo 78 (.mv (tt 3)), oo 2 (.mv (tt 78))]
abbrev c_impl_laplacian : GCode := .seq (.reg c_impl_laplacian_0) (.seq (.reg c_impl_laplacian_1) (.seq (.seq (.reg c_impl_laplacian_2) (.blk 0 (.loop c_impl_laplacian_l0))) (.seq (.seq (.reg c_impl_laplacian_8) (.blk 2 (.loop c_impl_laplacian_l1))) (.seq (.reg c_impl_laplacian_17) (.ret)))))
theorem c_impl_laplacian_d : decFn Try.prog Try.f148 = some (79, [.t 2], c_impl_laplacian) := by kernel_rfl
theorem c_impl_laplacian_i {args : List Value} {G : GH} {K : Value → GH → Prop} (hn : args.length ≤ 79) (h : gW Try.prog c_impl_laplacian (RetK [.t 2] K) (T0 args) G) : GC Try.prog 148 args G K := GC_intro mixed Try.func148 c_impl_laplacian_d hn h
abbrev c_impl_minor_0 : List GOp := [oo 2 (.bx (tt 0)), oo 4 (.mv (ci 0))]
abbrev c_impl_minor_1 : List GOp := [oo 5 (.mv (.const (.slice none 0 0)))]
abbrev c_impl_minor_2 : List GOp := [oo 13 (.ldn 2 (tt 2)), oo 14 (.call (ff 148) [tt 13]), oo 15 (.len (tt 14)), oo 16 (.mv (ci 0))]
abbrev c_impl_minor_3 : List GOp := [oo 17 (.bin .lss (tt 16) (tt 15))]
abbrev c_impl_minor_4 : List GOp := [oo 18 (.mv (tt 16)), oo 19 (.ia 1 (tt 14) (tt 16)), oo 20 (.ld (tt 19)), oo 6 (.mv (tt 18)), oo 7 (.mv (tt 20))]
abbrev c_impl_minor_5 : List GOp := [oo 21 (.mv (tt 1)), oo 22 (.mv (tt 6)), oo 23 (.call (ff 137) [tt 21, tt 22])]
abbrev c_impl_minor_6 : List GOp := [oo 8 (.mv (.const (.slice none 0 0)))]
abbrev c_impl_minor_7 : List GOp := [oo 24 (.mv (tt 7)), oo 25 (.len (tt 24)), oo 26 (.mv (ci 0))]
abbrev c_impl_minor_8 : List GOp := [oo 27 (.bin .lss (tt 26) (tt 25))]
abbrev c_impl_minor_9 : List GOp := [oo 28 (.mv (tt 26)), oo 29 (.ia 1 (tt 24) (tt 26)), oo 30 (.ld (tt 29)), oo 9 (.mv (tt 28)), oo 10 (.mv (tt 30))]
abbrev c_impl_minor_10 : List GOp := [oo 31 (.mv (tt 1)), oo 32 (.mv (tt 9)), oo 33 (.call (ff 137) [tt 31, tt 32]), oo 34 (.un .not (tt 33))]
abbrev c_impl_minor_11 : List GOp := [oo 35 (.mv (tt 8)), oo 36 (.mv (tt 10)), oo 37 (.bs 1 [tt 36]), oo 38 (.ap 1 8 [.int .i64 0] (tt 35) (tt 37)), oo 8 (.mv (tt 38))]
abbrev c_impl_minor_12 : List GOp := [oo 39 (.bin .add (tt 26) (ci 1)), oo 26 (.mv (tt 39))]
abbrev c_impl_minor_l0 : GCode := .seq (.reg c_impl_minor_8) (.seq (.cond (tt 27) (.skip) (.exit 2)) (.seq (.blk 3 (.seq (.reg c_impl_minor_9) (.seq (.reg c_impl_minor_10) (.cond (tt 34) (.reg c_impl_minor_11) (.skip))))) (.reg c_impl_minor_12)))
abbrev c_impl_minor_14 : List GOp := [oo 40 (.mv (tt 5)), oo 41 (.mv (tt 8)), oo 42 (.bs 1 [tt 41]), oo 43 (.ap 1 24 [.slice none 0 0] (tt 40) (tt 42)), oo 5 (.mv (tt 43))]
abbrev c_impl_minor_15 : List GOp := [oo 44 (.bin .add (tt 16) (ci 1)), oo 16 (.mv (tt 44))]
abbrev c_impl_minor_l1 : GCode := .seq (.reg c_impl_minor_3) (.seq (.cond (tt 17) (.skip) (.exit 0)) (.seq (.blk 1 (.seq (.reg c_impl_minor_4) (.seq (.seq (.reg c_impl_minor_5) (.cond (tt 23) (.exit 1) (.skip))) (.seq (.reg c_impl_minor_6) (.seq (.seq (.reg c_impl_minor_7) (.blk 2 (.loop c_impl_minor_l0))) (.reg c_impl_minor_14)))))) (.reg c_impl_minor_15)))
abbrev c_impl_minor_17 : List GOp := [oo 45 (.mv (tt 5)), oo 46 (.call (ff 235) [tt 45, (ci 1000000007)]), oo 47 (.mv (tt 5)), oo 48 (.call (ff 235) [tt 47, (ci 1000000009)]), oo 11 (.mv (tt 46)), oo 12 (.mv (tt 48))]
abbrev c_impl_minor_18 : List GOp := [oo 49 (.mv (tt 11)), oo 50 (.mv (tt 12)), oo 51 (.mv (tt 11)), oo 52 (.bin .sub (tt 50) (tt 51)), oo 53 (.call (ff 165) [tt 52, (ci 1000000009)]), oo 54 (.call (ff 236) [(ci 1000000007), (ci 1000000009)]), oo 55 (.bin .mul (tt 53) (tt 54)), oo 56 (.bin .rem (tt 55) (ci 1000000009)), oo 57 (.bin .mul (ci 1000000007) (tt 56)), oo 58 (.bin .add (tt 49) (tt 57)), oo 4 (.mv (tt 58))]
abbrev c_impl_minor : GCode := .seq (.reg c_impl_minor_0) (.seq (.reg c_impl_minor_1) (.seq (.seq (.reg c_impl_minor_2) (.blk 0 (.loop c_impl_minor_l1))) (.seq (.reg c_impl_minor_17) (.seq (.reg c_impl_minor_18) (.ret)))))
theorem c_impl_minor_d : decFn Try.prog Try.f178 = some (59, [.t 4], c_impl_minor) := by kernel_rfl
theorem c_impl_minor_i {args : List Value} {G : GH} {K : Value → GH → Prop} (hn : args.length ≤ 59) (h : gW Try.prog c_impl_minor (RetK [.t 4] K) (T0 args) G) : GC Try.prog 178 args G K := GC_intro mixed Try.func178 c_impl_minor_d hn h
abbrev c_impl_modularDet_0 : List GOp := [oo 4 (.mv (ci 0))]
abbrev c_impl_modularDet_1 : List GOp := [oo 5 (.mv (.const (.slice none 0 0)))]
abbrev c_impl_modularDet_2 : List GOp := [oo 13 (.mv (tt 0)), oo 14 (.len (tt 13)), oo 15 (.mv (ci 0))]
abbrev c_impl_modularDet_3 : List GOp := [oo 16 (.bin .lss (tt 15) (tt 14))]
abbrev c_impl_modularDet_4 : List GOp := [oo 17 (.ia 1 (tt 13) (tt 15)), oo 18 (.ld (tt 17)), oo 7 (.mv (tt 18))]
abbrev c_impl_modularDet_5 : List GOp := [oo 8 (.mv (.const (.slice none 0 0)))]
abbrev c_impl_modularDet_6 : List GOp := [oo 19 (.mv (tt 7)), oo 20 (.len (tt 19)), oo 21 (.mv (ci 0))]
abbrev c_impl_modularDet_7 : List GOp := [oo 22 (.bin .lss (tt 21) (tt 20))]
abbrev c_impl_modularDet_8 : List GOp := [oo 23 (.ia 1 (tt 19) (tt 21)), oo 24 (.ld (tt 23)), oo 10 (.mv (tt 24))]
abbrev c_impl_modularDet_9 : List GOp := [oo 25 (.mv (tt 8)), oo 26 (.mv (tt 10)), oo 27 (.mv (tt 1)), oo 28 (.call (ff 165) [tt 26, tt 27]), oo 29 (.bs 1 [tt 28]), oo 30 (.ap 1 8 [.int .i64 0] (tt 25) (tt 29)), oo 8 (.mv (tt 30))]
abbrev c_impl_modularDet_10 : List GOp := [oo 31 (.bin .add (tt 21) (ci 1)), oo 21 (.mv (tt 31))]
abbrev c_impl_modularDet_l0 : GCode := .seq (.reg c_impl_modularDet_7) (.seq (.cond (tt 22) (.skip) (.exit 2)) (.seq (.blk 3 (.seq (.reg c_impl_modularDet_8) (.reg c_impl_modularDet_9))) (.reg c_impl_modularDet_10)))
abbrev c_impl_modularDet_12 : List GOp := [oo 32 (.mv (tt 5)), oo 33 (.mv (tt 8)), oo 34 (.bs 1 [tt 33]), oo 35 (.ap 1 24 [.slice none 0 0] (tt 32) (tt 34)), oo 5 (.mv (tt 35))]
abbrev c_impl_modularDet_13 : List GOp := [oo 36 (.bin .add (tt 15) (ci 1)), oo 15 (.mv (tt 36))]
abbrev c_impl_modularDet_l1 : GCode := .seq (.reg c_impl_modularDet_3) (.seq (.cond (tt 16) (.skip) (.exit 0)) (.seq (.blk 1 (.seq (.reg c_impl_modularDet_4) (.seq (.reg c_impl_modularDet_5) (.seq (.seq (.reg c_impl_modularDet_6) (.blk 2 (.loop c_impl_modularDet_l0))) (.reg c_impl_modularDet_12))))) (.reg c_impl_modularDet_13)))
abbrev c_impl_modularDet_15 : List GOp := [oo 38 (.mv (tt 5)), oo 39 (.mv (tt 0)), oo 40 (.call (ff 228) [tt 39]), oo 41 (.mv (tt 1)), oo 42 (.call (ff 231) [tt 38, tt 40, tt 41]), oo 37 (.mv (tt 42)), oo 43 (.ex 0 (tt 37)), oo 44 (.ex 1 (tt 37)), oo 11 (.mv (tt 43)), oo 12 (.mv (tt 44))]
abbrev c_impl_modularDet_16 : List GOp := [oo 45 (.mv (tt 12)), oo 4 (.mv (tt 45))]
abbrev c_impl_modularDet : GCode := .seq (.reg c_impl_modularDet_0) (.seq (.reg c_impl_modularDet_1) (.seq (.seq (.reg c_impl_modularDet_2) (.blk 0 (.loop c_impl_modularDet_l1))) (.seq (.reg c_impl_modularDet_15) (.seq (.reg c_impl_modularDet_16) (.ret)))))
theorem c_impl_modularDet_d : decFn Try.prog Try.f235 = some (46, [.t 4], c_impl_modularDet) := by kernel_rfl
theorem c_impl_modularDet_i {args : List Value} {G : GH} {K : Value → GH → Prop} (hn : args.length ≤ 46) (h : gW Try.prog c_impl_modularDet (RetK [.t 4] K) (T0 args) G) : GC Try.prog 235 args G K := GC_intro mixed Try.func235 c_impl_modularDet_d hn h
abbrev c_impl_powerOf_0 : List GOp := [oo 6 (.mv (ci 0))]
abbrev c_impl_powerOf_1 : List GOp := [oo 7 (.mv (ci 1))]
abbrev c_impl_powerOf_2 : List GOp := [oo 8 (.mv (tt 1)), oo 9 (.bin .gtr (tt 8) (ci 0))]
abbrev c_impl_powerOf_3 : List GOp := [oo 12 (.mv (tt 1)), oo 13 (.bin .rem (tt 12) (ci 2)), oo 14 (.bin .eql (tt 13) (ci 1))]
abbrev c_impl_powerOf_4 : List GOp := [oo 15 (.mv (tt 7)), oo 16 (.mv (tt 0)), oo 17 (.bin .mul (tt 15) (tt 16)), oo 18 (.mv (tt 2)), oo 19 (.bin .rem (tt 17) (tt 18)), oo 7 (.mv (tt 19))]
abbrev c_impl_powerOf_5 : List GOp := [oo 20 (.mv (tt 0)), oo 21 (.mv (tt 0)), oo 22 (.bin .mul (tt 20) (tt 21)), oo 23 (.mv (tt 2)), oo 24 (.bin .rem (tt 22) (tt 23)), oo 0 (.mv (tt 24))]
abbrev c_impl_powerOf_6 : List GOp := [oo 10 (.mv (tt 1)), oo 11 (.bin .quo (tt 10) (ci 2)), oo 1 (.mv (tt 11))]
abbrev c_impl_powerOf_l0 : GCode := .seq (.seq (.reg c_impl_powerOf_2) (.cond (tt 9) (.skip) (.exit 0))) (.seq (.blk 1 (.seq (.seq (.reg c_impl_powerOf_3) (.cond (tt 14) (.reg c_impl_powerOf_4) (.skip))) (.reg c_impl_powerOf_5))) (.reg c_impl_powerOf_6))
abbrev c_impl_powerOf_8 : List GOp := [oo 25 (.mv (tt 7)), oo 6 (.mv (tt 25))]
abbrev c_impl_powerOf : GCode := .seq (.reg c_impl_powerOf_0) (.seq (.reg c_impl_powerOf_1) (.seq (.blk 0 (.loop c_impl_powerOf_l0)) (.seq (.reg c_impl_powerOf_8) (.ret))))
theorem c_impl_powerOf_d : decFn Try.prog Try.f256 = some (26, [.t 6], c_impl_powerOf) := by kernel_rfl
theorem c_impl_powerOf_i {args : List Value} {G : GH} {K : Value → GH → Prop} (hn : args.length ≤ 26) (h : gW Try.prog c_impl_powerOf (RetK [.t 6] K) (T0 args) G) : GC Try.prog 256 args G K := GC_intro mixed Try.func256 c_impl_powerOf_d hn h
abbrev c_impl_reduce_0 : List GOp := [oo 4 (.mv (ci 0))]
abbrev c_impl_reduce_1 : List GOp := [oo 5 (.mv (tt 0)), oo 6 (.mv (tt 1)), oo 7 (.bin .rem (tt 5) (tt 6)), oo 8 (.mv (tt 1)), oo 9 (.bin .add (tt 7) (tt 8)), oo 10 (.mv (tt 1)), oo 11 (.bin .rem (tt 9) (tt 10)), oo 4 (.mv (tt 11))]
abbrev c_impl_reduce : GCode := .seq (.reg c_impl_reduce_0) (.seq (.reg c_impl_reduce_1) (.ret))
theorem c_impl_reduce_d : decFn Try.prog Try.f165 = some (12, [.t 4], c_impl_reduce) := by kernel_rfl
theorem c_impl_reduce_i {args : List Value} {G : GH} {K : Value → GH → Prop} (hn : args.length ≤ 12) (h : gW Try.prog c_impl_reduce (RetK [.t 4] K) (T0 args) G) : GC Try.prog 165 args G K := GC_intro mixed Try.func165 c_impl_reduce_d hn h
abbrev c_impl_size_S_int64_0 : List GOp := [oo 2 (.mv (ci 0))]
abbrev c_impl_size_S_int64_1 : List GOp := [oo 3 (.mv (tt 0)), oo 4 (.len (tt 3)), oo 2 (.mv (tt 4))]
abbrev c_impl_size_S_int64 : GCode := .seq (.reg c_impl_size_S_int64_0) (.seq (.reg c_impl_size_S_int64_1) (.ret))
theorem c_impl_size_S_int64_d : decFn Try.prog Try.f228 = some (5, [.t 2], c_impl_size_S_int64) := by kernel_rfl
theorem c_impl_size_S_int64_i {args : List Value} {G : GH} {K : Value → GH → Prop} (hn : args.length ≤ 5) (h : gW Try.prog c_impl_size_S_int64 (RetK [.t 2] K) (T0 args) G) : GC Try.prog 228 args G K := GC_intro mixed Try.func228 c_impl_size_S_int64_d hn h
abbrev c_impl_within_0 : List GOp := [oo 6 (.mv (cb  false))]
abbrev c_impl_within_1 : List GOp := [oo 7 (.mv (tt 0)), oo 8 (.mv (tt 1)), oo 9 (.bin .geq (tt 7) (tt 8)), oo 10 (.mv (tt 9)), og 11 10 true (.mv (tt 0)), og 12 10 true (.mv (tt 2)), og 13 10 true (.bin .leq (tt 11) (tt 12)), oo 14 (.pick (tt 10) (tt 13) (cb  false)), oo 6 (.mv (tt 14))]
abbrev c_impl_within : GCode := .seq (.reg c_impl_within_0) (.seq (.reg c_impl_within_1) (.ret))
theorem c_impl_within_d : decFn Try.prog Try.f122 = some (15, [.t 6], c_impl_within) := by kernel_rfl
theorem c_impl_within_i {args : List Value} {G : GH} {K : Value → GH → Prop} (hn : args.length ≤ 15) (h : gW Try.prog c_impl_within (RetK [.t 6] K) (T0 args) G) : GC Try.prog 122 args G K := GC_intro mixed Try.func122 c_impl_within_d hn h
abbrev c_laws_FnExactResistanceOf_0 : List GOp := [oo 3 (.bx (tt 0)), oo 6 (.mv (cb  false))]
abbrev c_laws_FnExactResistanceOf_1 : List GOp := [oo 7 (.mv (ci 1048576))]
abbrev c_laws_FnExactResistanceOf_2 : List GOp := [oo 15 (.ldn 2 (tt 3)), oo 16 (.mv (tt 7)), oo 17 (.call (ff 26) [tt 15, tt 16]), oo 7 (.mv (tt 17))]
abbrev c_laws_FnExactResistanceOf_3 : List GOp := [oo 18 (.mv (tt 7)), oo 19 (.bin .lss (tt 18) (ci 0))]
abbrev c_laws_FnExactResistanceOf_4 : List GOp := [oo 6 (.mv (cb  true))]
abbrev c_laws_FnExactResistanceOf_5 : List GOp := [oo 21 (.ldn 2 (tt 3)), oo 22 (.call (ff 28) [tt 21]), oo 23 (.mv (tt 1)), oo 24 (.mv (tt 2)), oo 25 (.call (ff 83) [tt 22, tt 23, tt 24]), oo 20 (.mv (tt 25)), oo 26 (.ex 0 (tt 20)), oo 27 (.ex 1 (tt 20)), oo 28 (.ex 2 (tt 20)), oo 8 (.mv (tt 26)), oo 9 (.mv (tt 27)), oo 10 (.mv (tt 28))]
abbrev c_laws_FnExactResistanceOf_6 : List GOp := [oo 29 (.ldn 2 (tt 3)), oo 30 (.call (ff 28) [tt 29]), oo 11 (.al [.int .i64 0, .slice none 0 0]), on (.st 2 (tt 11) (tt 30))]
abbrev c_laws_FnExactResistanceOf_7 : List GOp := [oo 32 (.ldn 2 (tt 11)), oo 33 (.mv (tt 1)), oo 34 (.mv (tt 2)), oo 35 (.call (ff 84) [tt 32, tt 33, tt 34]), oo 31 (.mv (tt 35)), oo 36 (.ex 0 (tt 31)), oo 37 (.ex 1 (tt 31)), oo 38 (.ex 2 (tt 31)), oo 12 (.mv (tt 36)), oo 13 (.mv (tt 37)), oo 14 (.mv (tt 38))]
abbrev c_laws_FnExactResistanceOf_8 : List GOp := [oo 39 (.mv (tt 12)), oo 40 (.mv (tt 8)), oo 41 (.bin .neq (tt 39) (tt 40)), oo 42 (.mv (tt 41)), og 43 42 false (.mv (tt 13)), og 44 42 false (.mv (tt 9)), og 45 42 false (.bin .neq (tt 43) (tt 44)), oo 46 (.pick (tt 42) (cb  true) (tt 45)), oo 47 (.mv (tt 46)), og 48 47 false (.mv (tt 14)), og 49 47 false (.mv (tt 10)), og 50 47 false (.bin .neq (tt 48) (tt 49)), oo 51 (.pick (tt 47) (cb  true) (tt 50))]
abbrev c_laws_FnExactResistanceOf_9 : List GOp := [oo 6 (.mv (cb  false))]
abbrev c_laws_FnExactResistanceOf_10 : List DOp := [dl 0 (oo 52 (.ldn 2 (tt 11))), dl 1 (oo 53 (.ldn 2 (tt 3))), dh 2 [0] (oo 54 (.call (ff 28) [tt 53])), dh 3 [1] (oo 55 (.call (ff 32) [tt 52, tt 54])), dl 4 (oo 56 (.un .not (tt 55)))]
abbrev c_laws_FnExactResistanceOf_11 : List GOp := [oo 6 (.mv (cb  false))]
abbrev c_laws_FnExactResistanceOf_12 : List GOp := [oo 6 (.mv (cb  true))]
abbrev c_laws_FnExactResistanceOf : GCode := .seq (.reg c_laws_FnExactResistanceOf_0) (.seq (.reg c_laws_FnExactResistanceOf_1) (.seq (.reg c_laws_FnExactResistanceOf_2) (.seq (.seq (.reg c_laws_FnExactResistanceOf_3) (.cond (tt 19) (.seq (.reg c_laws_FnExactResistanceOf_4) (.ret)) (.skip))) (.seq (.reg c_laws_FnExactResistanceOf_5) (.seq (.reg c_laws_FnExactResistanceOf_6) (.seq (.reg c_laws_FnExactResistanceOf_7) (.seq (.seq (.reg c_laws_FnExactResistanceOf_8) (.cond (tt 51) (.seq (.reg c_laws_FnExactResistanceOf_9) (.ret)) (.skip))) (.seq (.seq (.dreg c_laws_FnExactResistanceOf_10) (.cond (tt 56) (.seq (.reg c_laws_FnExactResistanceOf_11) (.ret)) (.skip))) (.seq (.reg c_laws_FnExactResistanceOf_12) (.ret))))))))))
theorem c_laws_FnExactResistanceOf_d : decFn Try.prog Try.f20 = some (57, [.t 6], c_laws_FnExactResistanceOf) := by kernel_rfl
theorem c_laws_FnExactResistanceOf_i {args : List Value} {G : GH} {K : Value → GH → Prop} (hn : args.length ≤ 57) (h : gW Try.prog c_laws_FnExactResistanceOf (RetK [.t 6] K) (T0 args) G) : GC Try.prog 20 args G K := GC_intro mixed Try.func20 c_laws_FnExactResistanceOf_d hn h
abbrev c_laws_eqEdge_0 : List GOp := [oo 2 (.bx (tt 0)), oo 3 (.bx (tt 1)), oo 4 (.mv (cb  false))]
abbrev c_laws_eqEdge_1 : List GOp := [oo 5 (.fa 0 (tt 2)), oo 6 (.ld (tt 5)), oo 7 (.fa 0 (tt 3)), oo 8 (.ld (tt 7)), oo 9 (.bin .neq (tt 6) (tt 8))]
abbrev c_laws_eqEdge_2 : List GOp := [oo 4 (.mv (cb  false))]
abbrev c_laws_eqEdge_3 : List GOp := [oo 10 (.fa 1 (tt 2)), oo 11 (.ld (tt 10)), oo 12 (.fa 1 (tt 3)), oo 13 (.ld (tt 12)), oo 14 (.bin .neq (tt 11) (tt 13))]
abbrev c_laws_eqEdge_4 : List GOp := [oo 4 (.mv (cb  false))]
abbrev c_laws_eqEdge_5 : List GOp := [oo 15 (.fa 2 (tt 2)), oo 16 (.ld (tt 15)), oo 17 (.fa 2 (tt 3)), oo 18 (.ld (tt 17)), oo 19 (.bin .neq (tt 16) (tt 18))]
abbrev c_laws_eqEdge_6 : List GOp := [oo 4 (.mv (cb  false))]
abbrev c_laws_eqEdge_7 : List GOp := [oo 4 (.mv (cb  true))]
abbrev c_laws_eqEdge : GCode := .seq (.reg c_laws_eqEdge_0) (.seq (.seq (.reg c_laws_eqEdge_1) (.cond (tt 9) (.seq (.reg c_laws_eqEdge_2) (.ret)) (.skip))) (.seq (.seq (.reg c_laws_eqEdge_3) (.cond (tt 14) (.seq (.reg c_laws_eqEdge_4) (.ret)) (.skip))) (.seq (.seq (.reg c_laws_eqEdge_5) (.cond (tt 19) (.seq (.reg c_laws_eqEdge_6) (.ret)) (.skip))) (.seq (.reg c_laws_eqEdge_7) (.ret)))))
theorem c_laws_eqEdge_d : decFn Try.prog Try.f203 = some (20, [.t 4], c_laws_eqEdge) := by kernel_rfl
theorem c_laws_eqEdge_i {args : List Value} {G : GH} {K : Value → GH → Prop} (hn : args.length ≤ 20) (h : gW Try.prog c_laws_eqEdge (RetK [.t 4] K) (T0 args) G) : GC Try.prog 203 args G K := GC_intro mixed Try.func203 c_laws_eqEdge_d hn h
abbrev c_laws_eqEdgeS_0 : List GOp := [oo 4 (.mv (cb  false))]
abbrev c_laws_eqEdgeS_1 : List GOp := [oo 6 (.mv (tt 0)), oo 7 (.len (tt 6)), oo 8 (.mv (tt 1)), oo 9 (.len (tt 8)), oo 10 (.bin .neq (tt 7) (tt 9))]
abbrev c_laws_eqEdgeS_2 : List GOp := [oo 4 (.mv (cb  false))]
abbrev c_laws_eqEdgeS_3 : List GOp := [oo 5 (.mv (ci 0))]
abbrev c_laws_eqEdgeS_4 : List GOp := [oo 11 (.mv (tt 5)), oo 12 (.mv (tt 0)), oo 13 (.len (tt 12)), oo 14 (.bin .lss (tt 11) (tt 13))]
abbrev c_laws_eqEdgeS_5 : List DOp := [dl 0 (oo 17 (.mv (tt 0))), dl 1 (oo 18 (.mv (tt 5))), dl 2 (oo 19 (.ia 3 (tt 17) (tt 18))), dl 3 (oo 20 (.ldn 3 (tt 19))), dl 4 (oo 21 (.mv (tt 1))), dl 5 (oo 22 (.mv (tt 5))), dl 6 (oo 23 (.ia 3 (tt 21) (tt 22))), dl 7 (oo 24 (.ldn 3 (tt 23))), dh 8 [] (oo 25 (.call (ff 203) [tt 20, tt 24])), dl 9 (oo 26 (.un .not (tt 25)))]
abbrev c_laws_eqEdgeS_6 : List GOp := [oo 4 (.mv (cb  false))]
abbrev c_laws_eqEdgeS_7 : List GOp := [oo 15 (.mv (tt 5)), oo 16 (.bin .add (tt 15) (ci 1)), oo 5 (.mv (tt 16))]
abbrev c_laws_eqEdgeS_l0 : GCode := .seq (.seq (.reg c_laws_eqEdgeS_4) (.cond (tt 14) (.skip) (.exit 0))) (.seq (.blk 1 (.seq (.dreg c_laws_eqEdgeS_5) (.cond (tt 26) (.seq (.reg c_laws_eqEdgeS_6) (.ret)) (.skip)))) (.reg c_laws_eqEdgeS_7))
abbrev c_laws_eqEdgeS_9 : List GOp := [oo 4 (.mv (cb  true))]
abbrev c_laws_eqEdgeS : GCode := .seq (.reg c_laws_eqEdgeS_0) (.seq (.seq (.reg c_laws_eqEdgeS_1) (.cond (tt 10) (.seq (.reg c_laws_eqEdgeS_2) (.ret)) (.skip))) (.seq (.seq (.reg c_laws_eqEdgeS_3) (.blk 0 (.loop c_laws_eqEdgeS_l0))) (.seq (.reg c_laws_eqEdgeS_9) (.ret))))
theorem c_laws_eqEdgeS_d : decFn Try.prog Try.f105 = some (27, [.t 4], c_laws_eqEdgeS) := by kernel_rfl
theorem c_laws_eqEdgeS_i {args : List Value} {G : GH} {K : Value → GH → Prop} (hn : args.length ≤ 27) (h : gW Try.prog c_laws_eqEdgeS (RetK [.t 4] K) (T0 args) G) : GC Try.prog 105 args G K := GC_intro mixed Try.func105 c_laws_eqEdgeS_d hn h
abbrev c_laws_eqGraph_0 : List GOp := [oo 2 (.bx (tt 0)), oo 3 (.bx (tt 1)), oo 4 (.mv (cb  false))]
abbrev c_laws_eqGraph_1 : List GOp := [oo 5 (.fa 0 (tt 2)), oo 6 (.ld (tt 5)), oo 7 (.fa 0 (tt 3)), oo 8 (.ld (tt 7)), oo 9 (.bin .neq (tt 6) (tt 8))]
abbrev c_laws_eqGraph_2 : List GOp := [oo 4 (.mv (cb  false))]
abbrev c_laws_eqGraph_3 : List GOp := [oo 10 (.fa 1 (tt 2)), oo 11 (.ld (tt 10)), oo 12 (.fa 1 (tt 3)), oo 13 (.ld (tt 12)), oo 14 (.call (ff 105) [tt 11, tt 13]), oo 15 (.un .not (tt 14))]
abbrev c_laws_eqGraph_4 : List GOp := [oo 4 (.mv (cb  false))]
abbrev c_laws_eqGraph_5 : List GOp := [oo 4 (.mv (cb  true))]
abbrev c_laws_eqGraph : GCode := .seq (.reg c_laws_eqGraph_0) (.seq (.seq (.reg c_laws_eqGraph_1) (.cond (tt 9) (.seq (.reg c_laws_eqGraph_2) (.ret)) (.skip))) (.seq (.seq (.reg c_laws_eqGraph_3) (.cond (tt 15) (.seq (.reg c_laws_eqGraph_4) (.ret)) (.skip))) (.seq (.reg c_laws_eqGraph_5) (.ret))))
theorem c_laws_eqGraph_d : decFn Try.prog Try.f32 = some (16, [.t 4], c_laws_eqGraph) := by kernel_rfl
theorem c_laws_eqGraph_i {args : List Value} {G : GH} {K : Value → GH → Prop} (hn : args.length ≤ 16) (h : gW Try.prog c_laws_eqGraph (RetK [.t 4] K) (T0 args) G) : GC Try.prog 32 args G K := GC_intro mixed Try.func32 c_laws_eqGraph_d hn h
abbrev c_laws_szEdgeS_0 : List GOp := [oo 4 (.mv (ci 0))]
abbrev c_laws_szEdgeS_1 : List GOp := [oo 5 (.mv (tt 1)), oo 6 (.mv (tt 0)), oo 7 (.len (tt 6)), oo 8 (.bin .sub (tt 5) (tt 7)), oo 1 (.mv (tt 8))]
abbrev c_laws_szEdgeS_2 : List GOp := [oo 9 (.mv (tt 1)), oo 10 (.bin .lss (tt 9) (ci 0))]
abbrev c_laws_szEdgeS_3 : List GOp := [oo 4 (.mv (ci (-1)))]
abbrev c_laws_szEdgeS_4 : List GOp := [oo 11 (.mv (tt 1)), oo 4 (.mv (tt 11))]
abbrev c_laws_szEdgeS : GCode := .seq (.reg c_laws_szEdgeS_0) (.seq (.reg c_laws_szEdgeS_1) (.seq (.seq (.reg c_laws_szEdgeS_2) (.cond (tt 10) (.seq (.reg c_laws_szEdgeS_3) (.ret)) (.skip))) (.seq (.reg c_laws_szEdgeS_4) (.ret))))
theorem c_laws_szEdgeS_d : decFn Try.prog Try.f99 = some (12, [.t 4], c_laws_szEdgeS) := by kernel_rfl
theorem c_laws_szEdgeS_i {args : List Value} {G : GH} {K : Value → GH → Prop} (hn : args.length ≤ 12) (h : gW Try.prog c_laws_szEdgeS (RetK [.t 4] K) (T0 args) G) : GC Try.prog 99 args G K := GC_intro mixed Try.func99 c_laws_szEdgeS_d hn h
abbrev c_laws_szGraph_0 : List GOp := [oo 2 (.bx (tt 0)), oo 4 (.mv (ci 0))]
abbrev c_laws_szGraph_1 : List GOp := [oo 5 (.fa 1 (tt 2)), oo 6 (.ld (tt 5)), oo 7 (.mv (tt 1)), oo 8 (.call (ff 99) [tt 6, tt 7]), oo 1 (.mv (tt 8))]
abbrev c_laws_szGraph_2 : List GOp := [oo 9 (.mv (tt 1)), oo 10 (.bin .lss (tt 9) (ci 0))]
abbrev c_laws_szGraph_3 : List GOp := [oo 4 (.mv (ci (-1)))]
abbrev c_laws_szGraph_4 : List GOp := [oo 11 (.mv (tt 1)), oo 4 (.mv (tt 11))]
abbrev c_laws_szGraph : GCode := .seq (.reg c_laws_szGraph_0) (.seq (.reg c_laws_szGraph_1) (.seq (.seq (.reg c_laws_szGraph_2) (.cond (tt 10) (.seq (.reg c_laws_szGraph_3) (.ret)) (.skip))) (.seq (.reg c_laws_szGraph_4) (.ret))))
theorem c_laws_szGraph_d : decFn Try.prog Try.f26 = some (12, [.t 4], c_laws_szGraph) := by kernel_rfl
theorem c_laws_szGraph_i {args : List Value} {G : GH} {K : Value → GH → Prop} (hn : args.length ≤ 12) (h : gW Try.prog c_laws_szGraph (RetK [.t 4] K) (T0 args) G) : GC Try.prog 26 args G K := GC_intro mixed Try.func26 c_laws_szGraph_d hn h
abbrev c_laws_toEdge_0 : List GOp := [oo 1 (.bx (tt 0)), oo 2 (.al [.int .i64 0, .int .i64 0, .int .i64 0])]
abbrev c_laws_toEdge_1 : List GOp := [oo 3 (.al [.int .i64 0, .int .i64 0, .int .i64 0])]
abbrev c_laws_toEdge_2 : List GOp := [oo 4 (.fa 0 (tt 1)), oo 5 (.ld (tt 4)), oo 6 (.fa 0 (tt 3)), on (.st 1 (tt 6) (tt 5))]
abbrev c_laws_toEdge_3 : List GOp := [oo 7 (.fa 1 (tt 1)), oo 8 (.ld (tt 7)), oo 9 (.fa 1 (tt 3)), on (.st 1 (tt 9) (tt 8))]
abbrev c_laws_toEdge_4 : List GOp := [oo 10 (.fa 2 (tt 1)), oo 11 (.ld (tt 10)), oo 12 (.fa 2 (tt 3)), on (.st 1 (tt 12) (tt 11))]
abbrev c_laws_toEdge_5 : List GOp := [oo 13 (.ldn 3 (tt 3)), on (.st 3 (tt 2) (tt 13))]
abbrev c_laws_toEdge : GCode := .seq (.reg c_laws_toEdge_0) (.seq (.reg c_laws_toEdge_1) (.seq (.reg c_laws_toEdge_2) (.seq (.reg c_laws_toEdge_3) (.seq (.reg c_laws_toEdge_4) (.seq (.reg c_laws_toEdge_5) (.ret))))))
theorem c_laws_toEdge_d : decFn Try.prog Try.f200 = some (14, [.cn 2 3], c_laws_toEdge) := by kernel_rfl
theorem c_laws_toEdge_i {args : List Value} {G : GH} {K : Value → GH → Prop} (hn : args.length ≤ 14) (h : gW Try.prog c_laws_toEdge (RetK [.cn 2 3] K) (T0 args) G) : GC Try.prog 200 args G K := GC_intro mixed Try.func200 c_laws_toEdge_d hn h
abbrev c_laws_toEdgeS_0 : List GOp := [oo 2 (.mv (.const (.slice none 0 0)))]
abbrev c_laws_toEdgeS_1 : List GOp := [oo 5 (.mv (tt 0)), oo 6 (.len (tt 5)), oo 7 (.mk 3 24 [.int .i64 0, .int .i64 0, .int .i64 0] (tt 6) (tt 6)), oo 3 (.mv (tt 7))]
abbrev c_laws_toEdgeS_2 : List GOp := [oo 4 (.mv (ci 0))]
abbrev c_laws_toEdgeS_3 : List GOp := [oo 8 (.mv (tt 4)), oo 9 (.mv (tt 0)), oo 10 (.len (tt 9)), oo 11 (.bin .lss (tt 8) (tt 10))]
abbrev c_laws_toEdgeS_4 : List GOp := [oo 14 (.mv (tt 3)), oo 15 (.mv (tt 4)), oo 16 (.mv (tt 0)), oo 17 (.mv (tt 4)), oo 18 (.ia 3 (tt 16) (tt 17)), oo 19 (.ldn 3 (tt 18)), oo 20 (.call (ff 200) [tt 19]), oo 21 (.ia 3 (tt 14) (tt 15)), on (.st 3 (tt 21) (tt 20))]
abbrev c_laws_toEdgeS_5 : List GOp := [oo 12 (.mv (tt 4)), oo 13 (.bin .add (tt 12) (ci 1)), oo 4 (.mv (tt 13))]
abbrev c_laws_toEdgeS_l0 : GCode := .seq (.seq (.reg c_laws_toEdgeS_3) (.cond (tt 11) (.skip) (.exit 0))) (.seq (.blk 1 (.reg c_laws_toEdgeS_4)) (.reg c_laws_toEdgeS_5))
abbrev c_laws_toEdgeS_7 : List GOp := [oo 22 (.mv (tt 3)), oo 2 (.mv (tt 22))]
abbrev c_laws_toEdgeS : GCode := .seq (.reg c_laws_toEdgeS_0) (.seq (.reg c_laws_toEdgeS_1) (.seq (.seq (.reg c_laws_toEdgeS_2) (.blk 0 (.loop c_laws_toEdgeS_l0))) (.seq (.reg c_laws_toEdgeS_7) (.ret))))
theorem c_laws_toEdgeS_d : decFn Try.prog Try.f101 = some (23, [.t 2], c_laws_toEdgeS) := by kernel_rfl
theorem c_laws_toEdgeS_i {args : List Value} {G : GH} {K : Value → GH → Prop} (hn : args.length ≤ 23) (h : gW Try.prog c_laws_toEdgeS (RetK [.t 2] K) (T0 args) G) : GC Try.prog 101 args G K := GC_intro mixed Try.func101 c_laws_toEdgeS_d hn h
abbrev c_laws_toGraph_0 : List GOp := [oo 1 (.bx (tt 0)), oo 2 (.al [.int .i64 0, .slice none 0 0])]
abbrev c_laws_toGraph_1 : List GOp := [oo 3 (.al [.int .i64 0, .slice none 0 0])]
abbrev c_laws_toGraph_2 : List GOp := [oo 4 (.fa 0 (tt 1)), oo 5 (.ld (tt 4)), oo 6 (.fa 0 (tt 3)), on (.st 1 (tt 6) (tt 5))]
abbrev c_laws_toGraph_3 : List GOp := [oo 7 (.fa 1 (tt 1)), oo 8 (.ld (tt 7)), oo 9 (.call (ff 101) [tt 8]), oo 10 (.fa 1 (tt 3)), on (.st 1 (tt 10) (tt 9))]
abbrev c_laws_toGraph_4 : List GOp := [oo 11 (.ldn 2 (tt 3)), on (.st 2 (tt 2) (tt 11))]
abbrev c_laws_toGraph : GCode := .seq (.reg c_laws_toGraph_0) (.seq (.reg c_laws_toGraph_1) (.seq (.reg c_laws_toGraph_2) (.seq (.reg c_laws_toGraph_3) (.seq (.reg c_laws_toGraph_4) (.ret)))))
theorem c_laws_toGraph_d : decFn Try.prog Try.f28 = some (12, [.cn 2 2], c_laws_toGraph) := by kernel_rfl
theorem c_laws_toGraph_i {args : List Value} {G : GH} {K : Value → GH → Prop} (hn : args.length ≤ 12) (h : gW Try.prog c_laws_toGraph (RetK [.cn 2 2] K) (T0 args) G) : GC Try.prog 28 args G K := GC_intro mixed Try.func28 c_laws_toGraph_d hn h
abbrev c_slices_ContainsFunc_int64_int64_0 : List GOp := [oo 4 (.mv (cb  false))]
abbrev c_slices_ContainsFunc_int64_int64_1 : List GOp := [oo 5 (.mv (tt 0)), oo 6 (.mv (tt 1)), oo 7 (.call (ff 222) [tt 5, tt 6]), oo 8 (.bin .geq (tt 7) (ci 0)), oo 4 (.mv (tt 8))]
abbrev c_slices_ContainsFunc_int64_int64 : GCode := .seq (.reg c_slices_ContainsFunc_int64_int64_0) (.seq (.reg c_slices_ContainsFunc_int64_int64_1) (.ret))
theorem c_slices_ContainsFunc_int64_int64_d : decFn Try.prog Try.f152 = some (9, [.t 4], c_slices_ContainsFunc_int64_int64) := by kernel_rfl
theorem c_slices_ContainsFunc_int64_int64_i {args : List Value} {G : GH} {K : Value → GH → Prop} (hn : args.length ≤ 9) (h : gW Try.prog c_slices_ContainsFunc_int64_int64 (RetK [.t 4] K) (T0 args) G) : GC Try.prog 152 args G K := GC_intro mixed Try.func152 c_slices_ContainsFunc_int64_int64_d hn h
abbrev c_slices_Contains_int64_int64_0 : List GOp := [oo 4 (.mv (cb  false))]
abbrev c_slices_Contains_int64_int64_1 : List GOp := [oo 5 (.mv (tt 0)), oo 6 (.mv (tt 1)), oo 7 (.call (ff 166) [tt 5, tt 6]), oo 8 (.bin .geq (tt 7) (ci 0)), oo 4 (.mv (tt 8))]
abbrev c_slices_Contains_int64_int64 : GCode := .seq (.reg c_slices_Contains_int64_int64_0) (.seq (.reg c_slices_Contains_int64_int64_1) (.ret))
theorem c_slices_Contains_int64_int64_d : decFn Try.prog Try.f137 = some (9, [.t 4], c_slices_Contains_int64_int64) := by kernel_rfl
theorem c_slices_Contains_int64_int64_i {args : List Value} {G : GH} {K : Value → GH → Prop} (hn : args.length ≤ 9) (h : gW Try.prog c_slices_Contains_int64_int64 (RetK [.t 4] K) (T0 args) G) : GC Try.prog 137 args G K := GC_intro mixed Try.func137 c_slices_Contains_int64_int64_d hn h
abbrev c_slices_IndexFunc_SS_int64_int64_0 : List GOp := [oo 4 (.mv (ci 0))]
abbrev c_slices_IndexFunc_SS_int64_int64_1 : List GOp := [oo 6 (.mv (tt 0)), oo 7 (.len (tt 6)), oo 8 (.mv (ci 0))]
abbrev c_slices_IndexFunc_SS_int64_int64_2 : List GOp := [oo 9 (.bin .lss (tt 8) (tt 7))]
abbrev c_slices_IndexFunc_SS_int64_int64_3 : List GOp := [oo 10 (.mv (tt 8)), oo 5 (.mv (tt 10))]
abbrev c_slices_IndexFunc_SS_int64_int64_4 : List GOp := [oo 11 (.mv (tt 1)), oo 12 (.mv (tt 0)), oo 13 (.mv (tt 5)), oo 14 (.ia 1 (tt 12) (tt 13)), oo 15 (.ld (tt 14)), oo 16 (.call (tt 11) [tt 15])]
abbrev c_slices_IndexFunc_SS_int64_int64_5 : List GOp := [oo 17 (.mv (tt 5)), oo 4 (.mv (tt 17))]
abbrev c_slices_IndexFunc_SS_int64_int64_6 : List GOp := [oo 18 (.bin .add (tt 8) (ci 1)), oo 8 (.mv (tt 18))]
abbrev c_slices_IndexFunc_SS_int64_int64_l0 : GCode := .seq (.reg c_slices_IndexFunc_SS_int64_int64_2) (.seq (.cond (tt 9) (.skip) (.exit 0)) (.seq (.blk 1 (.seq (.reg c_slices_IndexFunc_SS_int64_int64_3) (.seq (.reg c_slices_IndexFunc_SS_int64_int64_4) (.cond (tt 16) (.seq (.reg c_slices_IndexFunc_SS_int64_int64_5) (.ret)) (.skip))))) (.reg c_slices_IndexFunc_SS_int64_int64_6)))
abbrev c_slices_IndexFunc_SS_int64_int64_8 : List GOp := [oo 4 (.mv (ci (-1)))]
abbrev c_slices_IndexFunc_SS_int64_int64 : GCode := .seq (.reg c_slices_IndexFunc_SS_int64_int64_0) (.seq (.seq (.reg c_slices_IndexFunc_SS_int64_int64_1) (.blk 0 (.loop c_slices_IndexFunc_SS_int64_int64_l0))) (.seq (.reg c_slices_IndexFunc_SS_int64_int64_8) (.ret)))
theorem c_slices_IndexFunc_SS_int64_int64_d : decFn Try.prog Try.f253 = some (19, [.t 4], c_slices_IndexFunc_SS_int64_int64) := by kernel_rfl
theorem c_slices_IndexFunc_SS_int64_int64_i {args : List Value} {G : GH} {K : Value → GH → Prop} (hn : args.length ≤ 19) (h : gW Try.prog c_slices_IndexFunc_SS_int64_int64 (RetK [.t 4] K) (T0 args) G) : GC Try.prog 253 args G K := GC_intro mixed Try.func253 c_slices_IndexFunc_SS_int64_int64_d hn h
abbrev c_slices_IndexFunc_int64_int64_0 : List GOp := [oo 4 (.mv (ci 0))]
abbrev c_slices_IndexFunc_int64_int64_1 : List GOp := [oo 6 (.mv (tt 0)), oo 7 (.len (tt 6)), oo 8 (.mv (ci 0))]
abbrev c_slices_IndexFunc_int64_int64_2 : List GOp := [oo 9 (.bin .lss (tt 8) (tt 7))]
abbrev c_slices_IndexFunc_int64_int64_3 : List GOp := [oo 10 (.mv (tt 8)), oo 5 (.mv (tt 10))]
abbrev c_slices_IndexFunc_int64_int64_4 : List GOp := [oo 11 (.mv (tt 1)), oo 12 (.mv (tt 0)), oo 13 (.mv (tt 5)), oo 14 (.ia 1 (tt 12) (tt 13)), oo 15 (.ld (tt 14)), oo 16 (.call (tt 11) [tt 15])]
abbrev c_slices_IndexFunc_int64_int64_5 : List GOp := [oo 17 (.mv (tt 5)), oo 4 (.mv (tt 17))]
abbrev c_slices_IndexFunc_int64_int64_6 : List GOp := [oo 18 (.bin .add (tt 8) (ci 1)), oo 8 (.mv (tt 18))]
abbrev c_slices_IndexFunc_int64_int64_l0 : GCode := .seq (.reg c_slices_IndexFunc_int64_int64_2) (.seq (.cond (tt 9) (.skip) (.exit 0)) (.seq (.blk 1 (.seq (.reg c_slices_IndexFunc_int64_int64_3) (.seq (.reg c_slices_IndexFunc_int64_int64_4) (.cond (tt 16) (.seq (.reg c_slices_IndexFunc_int64_int64_5) (.ret)) (.skip))))) (.reg c_slices_IndexFunc_int64_int64_6)))
abbrev c_slices_IndexFunc_int64_int64_8 : List GOp := [oo 4 (.mv (ci (-1)))]
abbrev c_slices_IndexFunc_int64_int64 : GCode := .seq (.reg c_slices_IndexFunc_int64_int64_0) (.seq (.seq (.reg c_slices_IndexFunc_int64_int64_1) (.blk 0 (.loop c_slices_IndexFunc_int64_int64_l0))) (.seq (.reg c_slices_IndexFunc_int64_int64_8) (.ret)))
theorem c_slices_IndexFunc_int64_int64_d : decFn Try.prog Try.f222 = some (19, [.t 4], c_slices_IndexFunc_int64_int64) := by kernel_rfl
theorem c_slices_IndexFunc_int64_int64_i {args : List Value} {G : GH} {K : Value → GH → Prop} (hn : args.length ≤ 19) (h : gW Try.prog c_slices_IndexFunc_int64_int64 (RetK [.t 4] K) (T0 args) G) : GC Try.prog 222 args G K := GC_intro mixed Try.func222 c_slices_IndexFunc_int64_int64_d hn h
abbrev c_slices_Index_int64_int64_0 : List GOp := [oo 4 (.mv (ci 0))]
abbrev c_slices_Index_int64_int64_1 : List GOp := [oo 6 (.mv (tt 0)), oo 7 (.len (tt 6)), oo 8 (.mv (ci 0))]
abbrev c_slices_Index_int64_int64_2 : List GOp := [oo 9 (.bin .lss (tt 8) (tt 7))]
abbrev c_slices_Index_int64_int64_3 : List GOp := [oo 10 (.mv (tt 8)), oo 5 (.mv (tt 10))]
abbrev c_slices_Index_int64_int64_4 : List GOp := [oo 11 (.mv (tt 1)), oo 12 (.mv (tt 0)), oo 13 (.mv (tt 5)), oo 14 (.ia 1 (tt 12) (tt 13)), oo 15 (.ld (tt 14)), oo 16 (.bin .eql (tt 11) (tt 15))]
abbrev c_slices_Index_int64_int64_5 : List GOp := [oo 17 (.mv (tt 5)), oo 4 (.mv (tt 17))]
abbrev c_slices_Index_int64_int64_6 : List GOp := [oo 18 (.bin .add (tt 8) (ci 1)), oo 8 (.mv (tt 18))]
abbrev c_slices_Index_int64_int64_l0 : GCode := .seq (.reg c_slices_Index_int64_int64_2) (.seq (.cond (tt 9) (.skip) (.exit 0)) (.seq (.blk 1 (.seq (.reg c_slices_Index_int64_int64_3) (.seq (.reg c_slices_Index_int64_int64_4) (.cond (tt 16) (.seq (.reg c_slices_Index_int64_int64_5) (.ret)) (.skip))))) (.reg c_slices_Index_int64_int64_6)))
abbrev c_slices_Index_int64_int64_8 : List GOp := [oo 4 (.mv (ci (-1)))]
abbrev c_slices_Index_int64_int64 : GCode := .seq (.reg c_slices_Index_int64_int64_0) (.seq (.seq (.reg c_slices_Index_int64_int64_1) (.blk 0 (.loop c_slices_Index_int64_int64_l0))) (.seq (.reg c_slices_Index_int64_int64_8) (.ret)))
theorem c_slices_Index_int64_int64_d : decFn Try.prog Try.f166 = some (19, [.t 4], c_slices_Index_int64_int64) := by kernel_rfl
theorem c_slices_Index_int64_int64_i {args : List Value} {G : GH} {K : Value → GH → Prop} (hn : args.length ≤ 19) (h : gW Try.prog c_slices_Index_int64_int64 (RetK [.t 4] K) (T0 args) G) : GC Try.prog 166 args G K := GC_intro mixed Try.func166 c_slices_Index_int64_int64_d hn h
abbrev c_spec_ResistanceOf_0 : List GOp := [oo 3 (.bx (tt 0)), oo 6 (.mv (ci 0)), oo 7 (.mv (ci 0)), oo 8 (.mv (ci 0))]
abbrev c_spec_ResistanceOf_1 : List GOp := [oo 13 (.call (ff 138) [tt 3]), oo 14 (.un .not (tt 13))]
abbrev c_spec_ResistanceOf_2 : List GOp := [oo 6 (.mv (ci 0)), oo 7 (.mv (ci 0)), oo 8 (.mv (ci 1))]
abbrev c_spec_ResistanceOf_3 : List GOp := [oo 15 (.mv (tt 1)), oo 16 (.fa 0 (tt 3)), oo 17 (.ld (tt 16)), oo 18 (.bin .sub (tt 17) (ci 1)), oo 19 (.call (ff 121) [tt 15, (ci 0), tt 18]), oo 20 (.un .not (tt 19)), oo 21 (.mv (tt 20)), og 22 21 false (.mv (tt 2)), og 23 21 false (.fa 0 (tt 3)), og 24 21 false (.ld (tt 23)), og 25 21 false (.bin .sub (tt 24) (ci 1)), og 26 21 false (.call (ff 121) [tt 22, (ci 0), tt 25]), og 27 21 false (.un .not (tt 26)), oo 28 (.pick (tt 21) (cb  true) (tt 27))]
abbrev c_spec_ResistanceOf_4 : List GOp := [oo 6 (.mv (ci 0)), oo 7 (.mv (ci 0)), oo 8 (.mv (ci 2))]
abbrev c_spec_ResistanceOf_5 : List GOp := [oo 29 (.call (ff 160) [tt 3]), oo 9 (.mv (tt 29))]
abbrev c_spec_ResistanceOf_6 : List GOp := [oo 30 (.mv (tt 9)), oo 31 (.bs 1 [(ci 0)]), oo 32 (.call (ff 177) [tt 30, tt 31]), oo 33 (.call (ff 176) [tt 32]), oo 10 (.mv (tt 33))]
abbrev c_spec_ResistanceOf_7 : List GOp := [oo 34 (.mv (tt 10)), oo 35 (.bin .eql (tt 34) (ci 0))]
abbrev c_spec_ResistanceOf_8 : List GOp := [oo 6 (.mv (ci 0)), oo 7 (.mv (ci 0)), oo 8 (.mv (ci 6))]
abbrev c_spec_ResistanceOf_9 : List GOp := [oo 36 (.mv (tt 1)), oo 37 (.mv (tt 2)), oo 38 (.bin .eql (tt 36) (tt 37))]
abbrev c_spec_ResistanceOf_10 : List GOp := [oo 6 (.mv (ci 0)), oo 7 (.mv (ci 1)), oo 8 (.mv (ci 0))]
abbrev c_spec_ResistanceOf_11 : List GOp := [oo 39 (.mv (tt 9)), oo 40 (.mv (tt 1)), oo 41 (.mv (tt 2)), oo 42 (.bs 1 [tt 40, tt 41]), oo 43 (.call (ff 177) [tt 39, tt 42]), oo 44 (.call (ff 176) [tt 43]), oo 11 (.mv (tt 44))]
abbrev c_spec_ResistanceOf_12 : List GOp := [oo 45 (.mv (tt 11)), oo 46 (.mv (tt 10)), oo 47 (.call (ff 179) [tt 45, tt 46]), oo 12 (.mv (tt 47))]
abbrev c_spec_ResistanceOf_13 : List DOp := [dl 0 (oo 48 (.mv (tt 11))), dl 1 (oo 49 (.mv (tt 12))), dl 2 (oo 50 (.bin .quo (tt 48) (tt 49))), dl 3 (oo 51 (.mv (tt 10))), dl 4 (oo 52 (.mv (tt 12))), dl 5 (oo 53 (.bin .quo (tt 51) (tt 52))), dl 6 (oo 6 (.mv (tt 50))), dl 7 (oo 7 (.mv (tt 53))), dl 8 (oo 8 (.mv (ci 0)))]
abbrev c_spec_ResistanceOf : GCode := .seq (.reg c_spec_ResistanceOf_0) (.seq (.seq (.reg c_spec_ResistanceOf_1) (.cond (tt 14) (.seq (.reg c_spec_ResistanceOf_2) (.ret)) (.skip))) (.seq (.seq (.reg c_spec_ResistanceOf_3) (.cond (tt 28) (.seq (.reg c_spec_ResistanceOf_4) (.ret)) (.skip))) (.seq (.reg c_spec_ResistanceOf_5) (.seq (.reg c_spec_ResistanceOf_6) (.seq (.seq (.reg c_spec_ResistanceOf_7) (.cond (tt 35) (.seq (.reg c_spec_ResistanceOf_8) (.ret)) (.skip))) (.seq (.seq (.reg c_spec_ResistanceOf_9) (.cond (tt 38) (.seq (.reg c_spec_ResistanceOf_10) (.ret)) (.skip))) (.seq (.reg c_spec_ResistanceOf_11) (.seq (.reg c_spec_ResistanceOf_12) (.seq (.dreg c_spec_ResistanceOf_13) (.ret))))))))))
theorem c_spec_ResistanceOf_d : decFn Try.prog Try.f83 = some (54, [.t 6, .t 7, .t 8], c_spec_ResistanceOf) := by kernel_rfl
theorem c_spec_ResistanceOf_i {args : List Value} {G : GH} {K : Value → GH → Prop} (hn : args.length ≤ 54) (h : gW Try.prog c_spec_ResistanceOf (RetK [.t 6, .t 7, .t 8] K) (T0 args) G) : GC Try.prog 83 args G K := GC_intro mixed Try.func83 c_spec_ResistanceOf_d hn h
abbrev c_spec_l00Has_0 : List GOp := [oo 4 (.mv (cb  false))]
abbrev c_spec_l00Has_1 : List GOp := [oo 5 (.mv (ci 0))]
abbrev c_spec_l00Has_2 : List GOp := [oo 6 (.mv (tt 5)), oo 7 (.mv (tt 0)), oo 8 (.len (tt 7)), oo 9 (.bin .lss (tt 6) (tt 8))]
abbrev c_spec_l00Has_3 : List GOp := [oo 12 (.mv (tt 0)), oo 13 (.mv (tt 5)), oo 14 (.ia 1 (tt 12) (tt 13)), oo 15 (.ld (tt 14)), oo 16 (.mv (tt 1)), oo 17 (.bin .eql (tt 15) (tt 16))]
abbrev c_spec_l00Has_4 : List GOp := [oo 4 (.mv (cb  true))]
abbrev c_spec_l00Has_5 : List GOp := [oo 10 (.mv (tt 5)), oo 11 (.bin .add (tt 10) (ci 1)), oo 5 (.mv (tt 11))]
abbrev c_spec_l00Has_l0 : GCode := .seq (.seq (.reg c_spec_l00Has_2) (.cond (tt 9) (.skip) (.exit 0))) (.seq (.blk 1 (.seq (.reg c_spec_l00Has_3) (.cond (tt 17) (.seq (.reg c_spec_l00Has_4) (.ret)) (.skip)))) (.reg c_spec_l00Has_5))
abbrev c_spec_l00Has_7 : List GOp := [oo 4 (.mv (cb  false))]
abbrev c_spec_l00Has : GCode := .seq (.reg c_spec_l00Has_0) (.seq (.seq (.reg c_spec_l00Has_1) (.blk 0 (.loop c_spec_l00Has_l0))) (.seq (.reg c_spec_l00Has_7) (.ret)))
theorem c_spec_l00Has_d : decFn Try.prog Try.f134 = some (18, [.t 4], c_spec_l00Has) := by kernel_rfl
theorem c_spec_l00Has_i {args : List Value} {G : GH} {K : Value → GH → Prop} (hn : args.length ≤ 18) (h : gW Try.prog c_spec_l00Has (RetK [.t 4] K) (T0 args) G) : GC Try.prog 134 args G K := GC_intro mixed Try.func134 c_spec_l00Has_d hn h
abbrev c_spec_l00In_0 : List GOp := [oo 6 (.mv (cb  false))]
abbrev c_spec_l00In_1 : List GOp := [oo 7 (.mv (tt 0)), oo 8 (.mv (tt 1)), oo 9 (.bin .geq (tt 7) (tt 8)), oo 10 (.mv (tt 9)), og 11 10 true (.mv (tt 0)), og 12 10 true (.mv (tt 2)), og 13 10 true (.bin .leq (tt 11) (tt 12)), oo 14 (.pick (tt 10) (tt 13) (cb  false)), oo 6 (.mv (tt 14))]
abbrev c_spec_l00In : GCode := .seq (.reg c_spec_l00In_0) (.seq (.reg c_spec_l00In_1) (.ret))
theorem c_spec_l00In_d : decFn Try.prog Try.f121 = some (15, [.t 6], c_spec_l00In) := by kernel_rfl
theorem c_spec_l00In_i {args : List Value} {G : GH} {K : Value → GH → Prop} (hn : args.length ≤ 15) (h : gW Try.prog c_spec_l00In (RetK [.t 6] K) (T0 args) G) : GC Try.prog 121 args G K := GC_intro mixed Try.func121 c_spec_l00In_d hn h
abbrev c_spec_l02Mod_0 : List GOp := [oo 4 (.mv (ci 0))]
abbrev c_spec_l02Mod_1 : List GOp := [oo 5 (.mv (tt 0)), oo 6 (.mv (tt 1)), oo 7 (.bin .rem (tt 5) (tt 6)), oo 8 (.mv (tt 1)), oo 9 (.bin .add (tt 7) (tt 8)), oo 10 (.mv (tt 1)), oo 11 (.bin .rem (tt 9) (tt 10)), oo 4 (.mv (tt 11))]
abbrev c_spec_l02Mod : GCode := .seq (.reg c_spec_l02Mod_0) (.seq (.reg c_spec_l02Mod_1) (.ret))
theorem c_spec_l02Mod_d : decFn Try.prog Try.f161 = some (12, [.t 4], c_spec_l02Mod) := by kernel_rfl
theorem c_spec_l02Mod_i {args : List Value} {G : GH} {K : Value → GH → Prop} (hn : args.length ≤ 12) (h : gW Try.prog c_spec_l02Mod (RetK [.t 4] K) (T0 args) G) : GC Try.prog 161 args G K := GC_intro mixed Try.func161 c_spec_l02Mod_d hn h
abbrev c_spec_l02Power_0 : List GOp := [oo 6 (.mv (ci 0))]
abbrev c_spec_l02Power_1 : List GOp := [oo 8 (.mv (tt 2)), oo 9 (.bin .rem (ci 1) (tt 8)), oo 7 (.mv (tt 9))]
abbrev c_spec_l02Power_2 : List GOp := [oo 10 (.mv (tt 1)), oo 11 (.bin .gtr (tt 10) (ci 0))]
abbrev c_spec_l02Power_3 : List GOp := [oo 12 (.mv (tt 1)), oo 13 (.bin .rem (tt 12) (ci 2)), oo 14 (.bin .eql (tt 13) (ci 1))]
abbrev c_spec_l02Power_4 : List GOp := [oo 15 (.mv (tt 7)), oo 16 (.mv (tt 0)), oo 17 (.bin .mul (tt 15) (tt 16)), oo 18 (.mv (tt 2)), oo 19 (.bin .rem (tt 17) (tt 18)), oo 7 (.mv (tt 19))]
abbrev c_spec_l02Power_5 : List GOp := [oo 20 (.mv (tt 0)), oo 21 (.mv (tt 0)), oo 22 (.bin .mul (tt 20) (tt 21)), oo 23 (.mv (tt 2)), oo 24 (.bin .rem (tt 22) (tt 23)), oo 0 (.mv (tt 24))]
abbrev c_spec_l02Power_6 : List GOp := [oo 25 (.mv (tt 1)), oo 26 (.bin .quo (tt 25) (ci 2)), oo 1 (.mv (tt 26))]
abbrev c_spec_l02Power_l0 : GCode := .seq (.seq (.reg c_spec_l02Power_2) (.cond (tt 11) (.skip) (.exit 0))) (.blk 1 (.seq (.seq (.reg c_spec_l02Power_3) (.cond (tt 14) (.reg c_spec_l02Power_4) (.skip))) (.seq (.reg c_spec_l02Power_5) (.reg c_spec_l02Power_6))))
abbrev c_spec_l02Power_8 : List GOp := [oo 27 (.mv (tt 7)), oo 6 (.mv (tt 27))]
abbrev c_spec_l02Power : GCode := .seq (.reg c_spec_l02Power_0) (.seq (.reg c_spec_l02Power_1) (.seq (.blk 0 (.loop c_spec_l02Power_l0)) (.seq (.reg c_spec_l02Power_8) (.ret))))
theorem c_spec_l02Power_d : decFn Try.prog Try.f234 = some (28, [.t 6], c_spec_l02Power) := by kernel_rfl
theorem c_spec_l02Power_i {args : List Value} {G : GH} {K : Value → GH → Prop} (hn : args.length ≤ 28) (h : gW Try.prog c_spec_l02Power (RetK [.t 6] K) (T0 args) G) : GC Try.prog 234 args G K := GC_intro mixed Try.func234 c_spec_l02Power_d hn h
abbrev c_spec_l16Determinant_0 : List GOp := [oo 4 (.mv (ci 0))]
abbrev c_spec_l16Determinant_1 : List GOp := [oo 18 (.mv (tt 0)), oo 19 (.len (tt 18)), oo 5 (.mv (tt 19))]
abbrev c_spec_l16Determinant_2 : List GOp := [oo 20 (.bs 1 []), oo 6 (.mv (tt 20))]
abbrev c_spec_l16Determinant_3 : List GOp := [oo 7 (.mv (ci 0))]
abbrev c_spec_l16Determinant_4 : List GOp := [oo 21 (.mv (tt 7)), oo 22 (.mv (tt 5)), oo 23 (.bin .lss (tt 21) (tt 22))]
abbrev c_spec_l16Determinant_5 : List GOp := [oo 26 (.bs 1 []), oo 8 (.mv (tt 26))]
abbrev c_spec_l16Determinant_6 : List GOp := [oo 9 (.mv (ci 0))]
abbrev c_spec_l16Determinant_7 : List GOp := [oo 27 (.mv (tt 9)), oo 28 (.mv (tt 5)), oo 29 (.bin .lss (tt 27) (tt 28))]
abbrev c_spec_l16Determinant_8 : List GOp := [oo 32 (.mv (tt 8)), oo 33 (.mv (tt 0)), oo 34 (.mv (tt 7)), oo 35 (.ia 1 (tt 33) (tt 34)), oo 36 (.ld (tt 35)), oo 37 (.mv (tt 9)), oo 38 (.ia 1 (tt 36) (tt 37)), oo 39 (.ld (tt 38)), oo 40 (.mv (tt 1)), oo 41 (.call (ff 161) [tt 39, tt 40]), oo 42 (.bs 1 [tt 41]), oo 43 (.ap 1 8 [.int .i64 0] (tt 32) (tt 42)), oo 8 (.mv (tt 43))]
abbrev c_spec_l16Determinant_9 : List GOp := [oo 30 (.mv (tt 9)), oo 31 (.bin .add (tt 30) (ci 1)), oo 9 (.mv (tt 31))]
abbrev c_spec_l16Determinant_l0 : GCode := .seq (.seq (.reg c_spec_l16Determinant_7) (.cond (tt 29) (.skip) (.exit 2))) (.seq (.blk 3 (.reg c_spec_l16Determinant_8)) (.reg c_spec_l16Determinant_9))
abbrev c_spec_l16Determinant_11 : List GOp := [oo 44 (.mv (tt 6)), oo 45 (.mv (tt 8)), oo 46 (.bs 1 [tt 45]), oo 47 (.ap 1 24 [.slice none 0 0] (tt 44) (tt 46)), oo 6 (.mv (tt 47))]
abbrev c_spec_l16Determinant_12 : List GOp := [oo 24 (.mv (tt 7)), oo 25 (.bin .add (tt 24) (ci 1)), oo 7 (.mv (tt 25))]
abbrev c_spec_l16Determinant_l1 : GCode := .seq (.seq (.reg c_spec_l16Determinant_4) (.cond (tt 23) (.skip) (.exit 0))) (.seq (.blk 1 (.seq (.reg c_spec_l16Determinant_5) (.seq (.seq (.reg c_spec_l16Determinant_6) (.blk 2 (.loop c_spec_l16Determinant_l0))) (.reg c_spec_l16Determinant_11)))) (.reg c_spec_l16Determinant_12))
abbrev c_spec_l16Determinant_14 : List GOp := [oo 10 (.mv (ci 1))]
abbrev c_spec_l16Determinant_15 : List GOp := [oo 11 (.mv (ci 0))]
abbrev c_spec_l16Determinant_16 : List GOp := [oo 48 (.mv (tt 11)), oo 49 (.mv (tt 5)), oo 50 (.bin .lss (tt 48) (tt 49))]
abbrev c_spec_l16Determinant_17 : List GOp := [oo 53 (.mv (tt 11)), oo 12 (.mv (tt 53))]
abbrev c_spec_l16Determinant_18 : List GOp := [oo 54 (.mv (tt 12)), oo 55 (.mv (tt 5)), oo 56 (.bin .lss (tt 54) (tt 55)), oo 57 (.mv (tt 56)), og 58 57 true (.mv (tt 6)), og 59 57 true (.mv (tt 12)), og 60 57 true (.ia 1 (tt 58) (tt 59)), og 61 57 true (.ld (tt 60)), og 62 57 true (.mv (tt 11)), og 63 57 true (.ia 1 (tt 61) (tt 62)), og 64 57 true (.ld (tt 63)), og 65 57 true (.bin .eql (tt 64) (ci 0)), oo 66 (.pick (tt 57) (tt 65) (cb  false))]
abbrev c_spec_l16Determinant_19 : List GOp := [oo 67 (.mv (tt 12)), oo 68 (.bin .add (tt 67) (ci 1)), oo 12 (.mv (tt 68))]
abbrev c_spec_l16Determinant_l2 : GCode := .seq (.seq (.reg c_spec_l16Determinant_18) (.cond (tt 66) (.skip) (.exit 6))) (.blk 7 (.reg c_spec_l16Determinant_19))
abbrev c_spec_l16Determinant_21 : List GOp := [oo 69 (.mv (tt 12)), oo 70 (.mv (tt 5)), oo 71 (.bin .eql (tt 69) (tt 70))]
abbrev c_spec_l16Determinant_22 : List GOp := [oo 4 (.mv (ci 0))]
abbrev c_spec_l16Determinant_23 : List GOp := [oo 72 (.mv (tt 12)), oo 73 (.mv (tt 11)), oo 74 (.bin .neq (tt 72) (tt 73))]
abbrev c_spec_l16Determinant_24 : List GOp := [oo 75 (.mv (tt 6)), oo 76 (.mv (tt 12)), oo 77 (.ia 1 (tt 75) (tt 76)), oo 78 (.ld (tt 77)), oo 13 (.mv (tt 78))]
abbrev c_spec_l16Determinant_25 : List GOp := [oo 79 (.mv (tt 6)), oo 80 (.mv (tt 12)), oo 81 (.mv (tt 6)), oo 82 (.mv (tt 11)), oo 83 (.ia 1 (tt 81) (tt 82)), oo 84 (.ld (tt 83)), oo 85 (.ia 1 (tt 79) (tt 80)), on (.st 1 (tt 85) (tt 84))]
abbrev c_spec_l16Determinant_26 : List GOp := [oo 86 (.mv (tt 6)), oo 87 (.mv (tt 11)), oo 88 (.mv (tt 13)), oo 89 (.ia 1 (tt 86) (tt 87)), on (.st 1 (tt 89) (tt 88))]
abbrev c_spec_l16Determinant_27 : List GOp := [oo 90 (.mv (tt 1)), oo 91 (.mv (tt 10)), oo 92 (.bin .sub (tt 90) (tt 91)), oo 10 (.mv (tt 92))]
abbrev c_spec_l16Determinant_28 : List GOp := [oo 93 (.mv (tt 10)), oo 94 (.mv (tt 6)), oo 95 (.mv (tt 11)), oo 96 (.ia 1 (tt 94) (tt 95)), oo 97 (.ld (tt 96)), oo 98 (.mv (tt 11)), oo 99 (.ia 1 (tt 97) (tt 98)), oo 100 (.ld (tt 99)), oo 101 (.bin .mul (tt 93) (tt 100)), oo 102 (.mv (tt 1)), oo 103 (.bin .rem (tt 101) (tt 102)), oo 10 (.mv (tt 103))]
abbrev c_spec_l16Determinant_29 : List GOp := [oo 104 (.mv (tt 6)), oo 105 (.mv (tt 11)), oo 106 (.ia 1 (tt 104) (tt 105)), oo 107 (.ld (tt 106)), oo 108 (.mv (tt 11)), oo 109 (.ia 1 (tt 107) (tt 108)), oo 110 (.ld (tt 109)), oo 111 (.mv (tt 1)), oo 112 (.bin .sub (tt 111) (ci 2)), oo 113 (.mv (tt 1)), oo 114 (.call (ff 234) [tt 110, tt 112, tt 113]), oo 14 (.mv (tt 114))]
abbrev c_spec_l16Determinant_30 : List GOp := [oo 115 (.mv (tt 11)), oo 116 (.bin .add (tt 115) (ci 1)), oo 15 (.mv (tt 116))]
abbrev c_spec_l16Determinant_31 : List GOp := [oo 117 (.mv (tt 15)), oo 118 (.mv (tt 5)), oo 119 (.bin .lss (tt 117) (tt 118))]
abbrev c_spec_l16Determinant_32 : List GOp := [oo 122 (.mv (tt 6)), oo 123 (.mv (tt 15)), oo 124 (.ia 1 (tt 122) (tt 123)), oo 125 (.ld (tt 124)), oo 126 (.mv (tt 11)), oo 127 (.ia 1 (tt 125) (tt 126)), oo 128 (.ld (tt 127)), oo 129 (.mv (tt 14)), oo 130 (.bin .mul (tt 128) (tt 129)), oo 131 (.mv (tt 1)), oo 132 (.bin .rem (tt 130) (tt 131)), oo 16 (.mv (tt 132))]
abbrev c_spec_l16Determinant_33 : List GOp := [oo 133 (.mv (tt 11)), oo 17 (.mv (tt 133))]
abbrev c_spec_l16Determinant_34 : List GOp := [oo 134 (.mv (tt 17)), oo 135 (.mv (tt 5)), oo 136 (.bin .lss (tt 134) (tt 135))]
abbrev c_spec_l16Determinant_35 : List DOp := [dl 0 (oo 139 (.mv (tt 6))), dl 1 (oo 140 (.mv (tt 15))), dl 2 (oo 141 (.ia 1 (tt 139) (tt 140))), dl 3 (oo 142 (.ld (tt 141))), dl 4 (oo 143 (.mv (tt 17))), dl 5 (oo 144 (.mv (tt 6))), dl 6 (oo 145 (.mv (tt 15))), dl 7 (oo 146 (.ia 1 (tt 144) (tt 145))), dl 8 (oo 147 (.ld (tt 146))), dl 9 (oo 148 (.mv (tt 17))), dl 10 (oo 149 (.ia 1 (tt 147) (tt 148))), dl 11 (oo 150 (.ld (tt 149))), dl 12 (oo 151 (.mv (tt 1))), dl 13 (oo 152 (.mv (tt 16))), dl 14 (oo 153 (.bin .sub (tt 151) (tt 152))), dl 15 (oo 154 (.mv (tt 6))), dl 16 (oo 155 (.mv (tt 11))), dl 17 (oo 156 (.ia 1 (tt 154) (tt 155))), dl 18 (oo 157 (.ld (tt 156))), dl 19 (oo 158 (.mv (tt 17))), dl 20 (oo 159 (.ia 1 (tt 157) (tt 158))), dl 21 (oo 160 (.ld (tt 159))), dl 22 (oo 161 (.bin .mul (tt 153) (tt 160))), dl 23 (oo 162 (.bin .add (tt 150) (tt 161))), dl 24 (oo 163 (.mv (tt 1))), dl 25 (oo 164 (.bin .rem (tt 162) (tt 163))), dl 26 (oo 165 (.ia 1 (tt 142) (tt 143))), dh 27 [] (on (.st 1 (tt 165) (tt 164)))]
abbrev c_spec_l16Determinant_36 : List GOp := [oo 137 (.mv (tt 17)), oo 138 (.bin .add (tt 137) (ci 1)), oo 17 (.mv (tt 138))]
abbrev c_spec_l16Determinant_l3 : GCode := .seq (.seq (.reg c_spec_l16Determinant_34) (.cond (tt 136) (.skip) (.exit 10))) (.seq (.blk 11 (.dreg c_spec_l16Determinant_35)) (.reg c_spec_l16Determinant_36))
abbrev c_spec_l16Determinant_38 : List GOp := [oo 120 (.mv (tt 15)), oo 121 (.bin .add (tt 120) (ci 1)), oo 15 (.mv (tt 121))]
abbrev c_spec_l16Determinant_l4 : GCode := .seq (.seq (.reg c_spec_l16Determinant_31) (.cond (tt 119) (.skip) (.exit 8))) (.seq (.blk 9 (.seq (.reg c_spec_l16Determinant_32) (.seq (.reg c_spec_l16Determinant_33) (.blk 10 (.loop c_spec_l16Determinant_l3))))) (.reg c_spec_l16Determinant_38))
abbrev c_spec_l16Determinant_40 : List GOp := [oo 51 (.mv (tt 11)), oo 52 (.bin .add (tt 51) (ci 1)), oo 11 (.mv (tt 52))]
abbrev c_spec_l16Determinant_l5 : GCode := .seq (.seq (.reg c_spec_l16Determinant_16) (.cond (tt 50) (.skip) (.exit 4))) (.seq (.blk 5 (.seq (.reg c_spec_l16Determinant_17) (.seq (.blk 6 (.loop c_spec_l16Determinant_l2)) (.seq (.seq (.reg c_spec_l16Determinant_21) (.cond (tt 71) (.seq (.reg c_spec_l16Determinant_22) (.ret)) (.skip))) (.seq (.seq (.reg c_spec_l16Determinant_23) (.cond (tt 74) (.seq (.reg c_spec_l16Determinant_24) (.seq (.reg c_spec_l16Determinant_25) (.seq (.reg c_spec_l16Determinant_26) (.reg c_spec_l16Determinant_27)))) (.skip))) (.seq (.reg c_spec_l16Determinant_28) (.seq (.reg c_spec_l16Determinant_29) (.seq (.reg c_spec_l16Determinant_30) (.blk 8 (.loop c_spec_l16Determinant_l4)))))))))) (.reg c_spec_l16Determinant_40))
abbrev c_spec_l16Determinant_42 : List GOp := [oo 166 (.mv (tt 10)), oo 167 (.mv (tt 1)), oo 168 (.bin .rem (tt 166) (tt 167)), oo 4 (.mv (tt 168))]
abbrev c_spec_l16Determinant : GCode := .seq (.reg c_spec_l16Determinant_0) (.seq (.reg c_spec_l16Determinant_1) (.seq (.reg c_spec_l16Determinant_2) (.seq (.seq (.reg c_spec_l16Determinant_3) (.blk 0 (.loop c_spec_l16Determinant_l1))) (.seq (.reg c_spec_l16Determinant_14) (.seq (.seq (.reg c_spec_l16Determinant_15) (.blk 4 (.loop c_spec_l16Determinant_l5))) (.seq (.reg c_spec_l16Determinant_42) (.ret)))))))
theorem c_spec_l16Determinant_d : decFn Try.prog Try.f233 = some (169, [.t 4], c_spec_l16Determinant) := by kernel_rfl
theorem c_spec_l16Determinant_i {args : List Value} {G : GH} {K : Value → GH → Prop} (hn : args.length ≤ 169) (h : gW Try.prog c_spec_l16Determinant (RetK [.t 4] K) (T0 args) G) : GC Try.prog 233 args G K := GC_intro mixed Try.func233 c_spec_l16Determinant_d hn h
abbrev c_spec_l16Exact_0 : List GOp := [oo 2 (.mv (ci 0))]
abbrev c_spec_l16Exact_1 : List GOp := [oo 3 (.mv (ci 1000000007))]
abbrev c_spec_l16Exact_2 : List GOp := [oo 4 (.mv (ci 998244353))]
abbrev c_spec_l16Exact_3 : List GOp := [oo 8 (.mv (tt 0)), oo 9 (.mv (tt 3)), oo 10 (.call (ff 233) [tt 8, tt 9]), oo 5 (.mv (tt 10))]
abbrev c_spec_l16Exact_4 : List GOp := [oo 11 (.mv (tt 0)), oo 12 (.mv (tt 4)), oo 13 (.call (ff 233) [tt 11, tt 12]), oo 6 (.mv (tt 13))]
abbrev c_spec_l16Exact_5 : List DOp := [dl 0 (oo 14 (.mv (tt 6))), dl 1 (oo 15 (.mv (tt 5))), dl 2 (oo 16 (.bin .sub (tt 14) (tt 15))), dl 3 (oo 17 (.mv (tt 4))), dl 5 (oo 19 (.mv (tt 3))), dl 6 (oo 20 (.mv (tt 4))), dl 7 (oo 21 (.bin .rem (tt 19) (tt 20))), dl 8 (oo 22 (.mv (tt 4))), dl 9 (oo 23 (.bin .sub (tt 22) (ci 2))), dl 10 (oo 24 (.mv (tt 4))), dl 13 (oo 27 (.mv (tt 4))), dh 4 [] (oo 18 (.call (ff 161) [tt 16, tt 17])), dh 11 [] (oo 25 (.call (ff 234) [tt 21, tt 23, tt 24])), dl 12 (oo 26 (.bin .mul (tt 18) (tt 25))), dl 14 (oo 28 (.bin .rem (tt 26) (tt 27))), dl 15 (oo 7 (.mv (tt 28)))]
abbrev c_spec_l16Exact_6 : List GOp := [oo 29 (.mv (tt 5)), oo 30 (.mv (tt 3)), oo 31 (.mv (tt 7)), oo 32 (.bin .mul (tt 30) (tt 31)), oo 33 (.bin .add (tt 29) (tt 32)), oo 2 (.mv (tt 33))]
abbrev c_spec_l16Exact : GCode := .seq (.reg c_spec_l16Exact_0) (.seq (.reg c_spec_l16Exact_1) (.seq (.reg c_spec_l16Exact_2) (.seq (.reg c_spec_l16Exact_3) (.seq (.reg c_spec_l16Exact_4) (.seq (.dreg c_spec_l16Exact_5) (.seq (.reg c_spec_l16Exact_6) (.ret)))))))
theorem c_spec_l16Exact_d : decFn Try.prog Try.f176 = some (34, [.t 2], c_spec_l16Exact) := by kernel_rfl
theorem c_spec_l16Exact_i {args : List Value} {G : GH} {K : Value → GH → Prop} (hn : args.length ≤ 34) (h : gW Try.prog c_spec_l16Exact (RetK [.t 2] K) (T0 args) G) : GC Try.prog 176 args G K := GC_intro mixed Try.func176 c_spec_l16Exact_d hn h
abbrev c_spec_l16Gcd_0 : List GOp := [oo 4 (.mv (ci 0))]
abbrev c_spec_l16Gcd_1 : List GOp := [oo 6 (.mv (tt 1)), oo 7 (.bin .neq (tt 6) (ci 0))]
abbrev c_spec_l16Gcd_2 : List GOp := [oo 8 (.mv (tt 0)), oo 9 (.mv (tt 1)), oo 10 (.bin .rem (tt 8) (tt 9)), oo 5 (.mv (tt 10))]
abbrev c_spec_l16Gcd_3 : List GOp := [oo 11 (.mv (tt 1)), oo 0 (.mv (tt 11))]
abbrev c_spec_l16Gcd_4 : List GOp := [oo 12 (.mv (tt 5)), oo 1 (.mv (tt 12))]
abbrev c_spec_l16Gcd_l0 : GCode := .seq (.seq (.reg c_spec_l16Gcd_1) (.cond (tt 7) (.skip) (.exit 0))) (.blk 1 (.seq (.reg c_spec_l16Gcd_2) (.seq (.reg c_spec_l16Gcd_3) (.reg c_spec_l16Gcd_4))))
abbrev c_spec_l16Gcd_6 : List GOp := [oo 13 (.mv (tt 0)), oo 4 (.mv (tt 13))]
abbrev c_spec_l16Gcd : GCode := .seq (.reg c_spec_l16Gcd_0) (.seq (.blk 0 (.loop c_spec_l16Gcd_l0)) (.seq (.reg c_spec_l16Gcd_6) (.ret)))
theorem c_spec_l16Gcd_d : decFn Try.prog Try.f179 = some (14, [.t 4], c_spec_l16Gcd) := by kernel_rfl
theorem c_spec_l16Gcd_i {args : List Value} {G : GH} {K : Value → GH → Prop} (hn : args.length ≤ 14) (h : gW Try.prog c_spec_l16Gcd (RetK [.t 4] K) (T0 args) G) : GC Try.prog 179 args G K := GC_intro mixed Try.func179 c_spec_l16Gcd_d hn h
abbrev c_spec_l16Minor_0 : List GOp := [oo 4 (.mv (.const (.slice none 0 0)))]
abbrev c_spec_l16Minor_1 : List GOp := [oo 9 (.bs 1 []), oo 5 (.mv (tt 9))]
abbrev c_spec_l16Minor_2 : List GOp := [oo 6 (.mv (ci 0))]
abbrev c_spec_l16Minor_3 : List GOp := [oo 10 (.mv (tt 6)), oo 11 (.mv (tt 0)), oo 12 (.len (tt 11)), oo 13 (.bin .lss (tt 10) (tt 12))]
abbrev c_spec_l16Minor_4 : List GOp := [oo 16 (.mv (tt 1)), oo 17 (.mv (tt 6)), oo 18 (.call (ff 134) [tt 16, tt 17])]
abbrev c_spec_l16Minor_5 : List GOp := [oo 19 (.bs 1 []), oo 7 (.mv (tt 19))]
abbrev c_spec_l16Minor_6 : List GOp := [oo 8 (.mv (ci 0))]
abbrev c_spec_l16Minor_7 : List GOp := [oo 20 (.mv (tt 8)), oo 21 (.mv (tt 0)), oo 22 (.len (tt 21)), oo 23 (.bin .lss (tt 20) (tt 22))]
abbrev c_spec_l16Minor_8 : List GOp := [oo 26 (.mv (tt 1)), oo 27 (.mv (tt 8)), oo 28 (.call (ff 134) [tt 26, tt 27]), oo 29 (.un .not (tt 28))]
abbrev c_spec_l16Minor_9 : List GOp := [oo 30 (.mv (tt 7)), oo 31 (.mv (tt 0)), oo 32 (.mv (tt 6)), oo 33 (.ia 1 (tt 31) (tt 32)), oo 34 (.ld (tt 33)), oo 35 (.mv (tt 8)), oo 36 (.ia 1 (tt 34) (tt 35)), oo 37 (.ld (tt 36)), oo 38 (.bs 1 [tt 37]), oo 39 (.ap 1 8 [.int .i64 0] (tt 30) (tt 38)), oo 7 (.mv (tt 39))]
abbrev c_spec_l16Minor_10 : List GOp := [oo 24 (.mv (tt 8)), oo 25 (.bin .add (tt 24) (ci 1)), oo 8 (.mv (tt 25))]
abbrev c_spec_l16Minor_l0 : GCode := .seq (.seq (.reg c_spec_l16Minor_7) (.cond (tt 23) (.skip) (.exit 2))) (.seq (.blk 3 (.seq (.reg c_spec_l16Minor_8) (.cond (tt 29) (.reg c_spec_l16Minor_9) (.skip)))) (.reg c_spec_l16Minor_10))
abbrev c_spec_l16Minor_12 : List GOp := [oo 40 (.mv (tt 5)), oo 41 (.mv (tt 7)), oo 42 (.bs 1 [tt 41]), oo 43 (.ap 1 24 [.slice none 0 0] (tt 40) (tt 42)), oo 5 (.mv (tt 43))]
abbrev c_spec_l16Minor_13 : List GOp := [oo 14 (.mv (tt 6)), oo 15 (.bin .add (tt 14) (ci 1)), oo 6 (.mv (tt 15))]
abbrev c_spec_l16Minor_l1 : GCode := .seq (.seq (.reg c_spec_l16Minor_3) (.cond (tt 13) (.skip) (.exit 0))) (.seq (.blk 1 (.seq (.seq (.reg c_spec_l16Minor_4) (.cond (tt 18) (.exit 1) (.skip))) (.seq (.reg c_spec_l16Minor_5) (.seq (.seq (.reg c_spec_l16Minor_6) (.blk 2 (.loop c_spec_l16Minor_l0))) (.reg c_spec_l16Minor_12))))) (.reg c_spec_l16Minor_13))
abbrev c_spec_l16Minor_15 : List GOp := [oo 44 (.mv (tt 5)), oo 4 (.mv (tt 44))]
abbrev c_spec_l16Minor : GCode := .seq (.reg c_spec_l16Minor_0) (.seq (.reg c_spec_l16Minor_1) (.seq (.seq (.reg c_spec_l16Minor_2) (.blk 0 (.loop c_spec_l16Minor_l1))) (.seq (.reg c_spec_l16Minor_15) (.ret))))
theorem c_spec_l16Minor_d : decFn Try.prog Try.f177 = some (45, [.t 4], c_spec_l16Minor) := by kernel_rfl
theorem c_spec_l16Minor_i {args : List Value} {G : GH} {K : Value → GH → Prop} (hn : args.length ≤ 45) (h : gW Try.prog c_spec_l16Minor (RetK [.t 4] K) (T0 args) G) : GC Try.prog 177 args G K := GC_intro mixed Try.func177 c_spec_l16Minor_d hn h
abbrev c_spec_l16Ok_0 : List GOp := [oo 2 (.mv (cb  false))]
abbrev c_spec_l16Ok_1 : List GOp := [oo 5 (.mv (tt 0)), oo 6 (.nc (tt 5)), oo 7 (.fa 0 (tt 6)), oo 8 (.ld (tt 7)), oo 9 (.call (ff 121) [tt 8, (ci 1), (ci 12)]), oo 10 (.un .not (tt 9))]
abbrev c_spec_l16Ok_2 : List GOp := [oo 2 (.mv (cb  false))]
abbrev c_spec_l16Ok_3 : List GOp := [oo 3 (.mv (ci 0))]
abbrev c_spec_l16Ok_4 : List GOp := [oo 11 (.mv (tt 3)), oo 12 (.mv (tt 0)), oo 13 (.nc (tt 12)), oo 14 (.fa 1 (tt 13)), oo 15 (.ld (tt 14)), oo 16 (.len (tt 15)), oo 17 (.bin .lss (tt 11) (tt 16))]
abbrev c_spec_l16Ok_5 : List GOp := [oo 20 (.mv (tt 0)), oo 21 (.nc (tt 20)), oo 22 (.fa 1 (tt 21)), oo 23 (.ld (tt 22)), oo 24 (.mv (tt 3)), oo 25 (.ia 3 (tt 23) (tt 24)), oo 26 (.ldn 3 (tt 25)), oo 4 (.al [.int .i64 0, .int .i64 0, .int .i64 0]), on (.st 3 (tt 4) (tt 26))]
abbrev c_spec_l16Ok_6 : List DOp := [dl 0 (oo 27 (.fa 1 (tt 4))), dl 1 (oo 28 (.ld (tt 27))), dl 2 (oo 29 (.mv (tt 0))), dl 3 (oo 30 (.nc (tt 29))), dl 4 (oo 31 (.fa 0 (tt 30))), dl 5 (oo 32 (.ld (tt 31))), dl 6 (oo 33 (.bin .sub (tt 32) (ci 1))), dh 7 [5] (oo 34 (.call (ff 121) [tt 28, (ci 0), tt 33])), dl 8 (oo 35 (.un .not (tt 34))), dl 9 (oo 36 (.mv (tt 35))), dl 10 (og 37 36 false (.fa 0 (tt 4))), dl 11 (og 38 36 false (.ld (tt 37))), dl 12 (og 39 36 false (.fa 1 (tt 4))), dl 13 (og 40 36 false (.ld (tt 39))), dl 14 (og 41 36 false (.bin .sub (tt 40) (ci 1))), dh 15 [13, 5, 1] (og 42 36 false (.call (ff 121) [tt 38, (ci 0), tt 41])), dl 16 (og 43 36 false (.un .not (tt 42))), dl 17 (oo 44 (.pick (tt 36) (cb  true) (tt 43))), dl 18 (oo 45 (.mv (tt 44))), dl 19 (og 46 45 false (.fa 2 (tt 4))), dl 20 (og 47 45 false (.ld (tt 46))), dh 21 [13, 11, 5, 1] (og 48 45 false (.call (ff 121) [tt 47, (ci 1), (ci 9)])), dl 22 (og 49 45 false (.un .not (tt 48))), dl 23 (oo 50 (.pick (tt 45) (cb  true) (tt 49)))]
abbrev c_spec_l16Ok_7 : List GOp := [oo 2 (.mv (cb  false))]
abbrev c_spec_l16Ok_8 : List DOp := [dl 0 (oo 51 (.mv (tt 3))), dl 1 (oo 52 (.bin .gtr (tt 51) (ci 0))), dl 2 (oo 53 (.mv (tt 52))), dl 3 (og 54 53 true (.mv (tt 0))), dl 4 (og 55 53 true (.nc (tt 54))), dl 5 (og 56 53 true (.fa 1 (tt 55))), dl 6 (og 57 53 true (.ld (tt 56))), dl 7 (og 58 53 true (.mv (tt 3))), dl 8 (og 59 53 true (.bin .sub (tt 58) (ci 1))), dl 9 (og 60 53 true (.ia 3 (tt 57) (tt 59))), dl 10 (og 61 53 true (.fa 0 (tt 60))), dl 11 (og 62 53 true (.ld (tt 61))), dl 12 (og 63 53 true (.fa 0 (tt 4))), dl 13 (og 64 53 true (.ld (tt 63))), dl 14 (og 65 53 true (.bin .gtr (tt 62) (tt 64))), dl 15 (og 66 53 true (.mv (tt 65))), dl 16 (og 67 66 false (.mv (tt 0))), dl 17 (og 68 66 false (.nc (tt 67))), dl 18 (og 69 66 false (.fa 1 (tt 68))), dl 19 (og 70 66 false (.ld (tt 69))), dl 20 (og 71 66 false (.mv (tt 3))), dl 21 (og 72 66 false (.bin .sub (tt 71) (ci 1))), dl 22 (og 73 66 false (.ia 3 (tt 70) (tt 72))), dl 23 (og 74 66 false (.fa 0 (tt 73))), dl 24 (og 75 66 false (.ld (tt 74))), dl 25 (og 76 66 false (.fa 0 (tt 4))), dl 26 (og 77 66 false (.ld (tt 76))), dl 27 (og 78 66 false (.bin .eql (tt 75) (tt 77))), dl 28 (og 79 66 false (.mv (tt 78))), dl 29 (og 80 79 true (.mv (tt 0))), dl 30 (og 81 79 true (.nc (tt 80))), dl 31 (og 82 79 true (.fa 1 (tt 81))), dl 32 (og 83 79 true (.ld (tt 82))), dl 33 (og 84 79 true (.mv (tt 3))), dl 34 (og 85 79 true (.bin .sub (tt 84) (ci 1))), dl 35 (og 86 79 true (.ia 3 (tt 83) (tt 85))), dl 36 (og 87 79 true (.fa 1 (tt 86))), dl 37 (og 88 79 true (.ld (tt 87))), dl 38 (og 89 79 true (.fa 1 (tt 4))), dl 39 (og 90 79 true (.ld (tt 89))), dl 40 (og 91 79 true (.bin .geq (tt 88) (tt 90))), dl 41 (og 92 66 false (.pick (tt 79) (tt 91) (cb  false))), dl 42 (og 93 53 true (.pick (tt 66) (cb  true) (tt 92))), dl 43 (oo 94 (.pick (tt 53) (tt 93) (cb  false)))]
abbrev c_spec_l16Ok_9 : List GOp := [oo 2 (.mv (cb  false))]
abbrev c_spec_l16Ok_10 : List GOp := [oo 18 (.mv (tt 3)), oo 19 (.bin .add (tt 18) (ci 1)), oo 3 (.mv (tt 19))]
abbrev c_spec_l16Ok_l0 : GCode := .seq (.seq (.reg c_spec_l16Ok_4) (.cond (tt 17) (.skip) (.exit 0))) (.seq (.blk 1 (.seq (.reg c_spec_l16Ok_5) (.seq (.seq (.dreg c_spec_l16Ok_6) (.cond (tt 50) (.seq (.reg c_spec_l16Ok_7) (.ret)) (.skip))) (.seq (.dreg c_spec_l16Ok_8) (.cond (tt 94) (.seq (.reg c_spec_l16Ok_9) (.ret)) (.skip)))))) (.reg c_spec_l16Ok_10))
abbrev c_spec_l16Ok_12 : List GOp := [oo 95 (.mv (tt 0)), oo 96 (.nc (tt 95)), oo 97 (.fa 1 (tt 96)), oo 98 (.ld (tt 97)), oo 99 (.len (tt 98)), oo 100 (.bin .leq (tt 99) (ci 24)), oo 2 (.mv (tt 100))]
abbrev c_spec_l16Ok : GCode := .seq (.reg c_spec_l16Ok_0) (.seq (.seq (.reg c_spec_l16Ok_1) (.cond (tt 10) (.seq (.reg c_spec_l16Ok_2) (.ret)) (.skip))) (.seq (.seq (.reg c_spec_l16Ok_3) (.blk 0 (.loop c_spec_l16Ok_l0))) (.seq (.reg c_spec_l16Ok_12) (.ret))))
theorem c_spec_l16Ok_d : decFn Try.prog Try.f138 = some (101, [.t 2], c_spec_l16Ok) := by kernel_rfl
theorem c_spec_l16Ok_i {args : List Value} {G : GH} {K : Value → GH → Prop} (hn : args.length ≤ 101) (h : gW Try.prog c_spec_l16Ok (RetK [.t 2] K) (T0 args) G) : GC Try.prog 138 args G K := GC_intro mixed Try.func138 c_spec_l16Ok_d hn h
abbrev c_spec_l16Rows_0 : List GOp := [oo 2 (.mv (.const (.slice none 0 0)))]
abbrev c_spec_l16Rows_1 : List GOp := [oo 7 (.bs 1 []), oo 3 (.mv (tt 7))]
abbrev c_spec_l16Rows_2 : List GOp := [oo 4 (.mv (ci 0))]
abbrev c_spec_l16Rows_3 : List GOp := [oo 8 (.mv (tt 4)), oo 9 (.mv (tt 0)), oo 10 (.nc (tt 9)), oo 11 (.fa 0 (tt 10)), oo 12 (.ld (tt 11)), oo 13 (.bin .lss (tt 8) (tt 12))]
abbrev c_spec_l16Rows_4 : List GOp := [oo 16 (.mv (tt 3)), oo 17 (.mv (tt 0)), oo 18 (.nc (tt 17)), oo 19 (.fa 0 (tt 18)), oo 20 (.ld (tt 19)), oo 21 (.mk 1 8 [.int .i64 0] (tt 20) (tt 20)), oo 22 (.bs 1 [tt 21]), oo 23 (.ap 1 24 [.slice none 0 0] (tt 16) (tt 22)), oo 3 (.mv (tt 23))]
abbrev c_spec_l16Rows_5 : List GOp := [oo 14 (.mv (tt 4)), oo 15 (.bin .add (tt 14) (ci 1)), oo 4 (.mv (tt 15))]
abbrev c_spec_l16Rows_l0 : GCode := .seq (.seq (.reg c_spec_l16Rows_3) (.cond (tt 13) (.skip) (.exit 0))) (.seq (.blk 1 (.reg c_spec_l16Rows_4)) (.reg c_spec_l16Rows_5))
abbrev c_spec_l16Rows_7 : List GOp := [oo 5 (.mv (ci 0))]
abbrev c_spec_l16Rows_8 : List GOp := [oo 24 (.mv (tt 5)), oo 25 (.mv (tt 0)), oo 26 (.nc (tt 25)), oo 27 (.fa 1 (tt 26)), oo 28 (.ld (tt 27)), oo 29 (.len (tt 28)), oo 30 (.bin .lss (tt 24) (tt 29))]
abbrev c_spec_l16Rows_9 : List GOp := [oo 33 (.mv (tt 0)), oo 34 (.nc (tt 33)), oo 35 (.fa 1 (tt 34)), oo 36 (.ld (tt 35)), oo 37 (.mv (tt 5)), oo 38 (.ia 3 (tt 36) (tt 37)), oo 39 (.ldn 3 (tt 38)), oo 6 (.al [.int .i64 0, .int .i64 0, .int .i64 0]), on (.st 3 (tt 6) (tt 39))]
abbrev c_spec_l16Rows_10 : List DOp := [dl 0 (oo 40 (.mv (tt 3))), dl 1 (oo 41 (.fa 0 (tt 6))), dl 2 (oo 42 (.ld (tt 41))), dl 3 (oo 43 (.ia 1 (tt 40) (tt 42))), dl 4 (oo 44 (.ld (tt 43))), dl 5 (oo 45 (.fa 0 (tt 6))), dl 6 (oo 46 (.ld (tt 45))), dl 7 (oo 47 (.ia 1 (tt 44) (tt 46))), dl 8 (oo 48 (.ld (tt 47))), dl 9 (oo 49 (.fa 2 (tt 6))), dl 10 (oo 50 (.ld (tt 49))), dl 11 (oo 51 (.bin .add (tt 48) (tt 50))), dl 12 (oo 52 (.ia 1 (tt 44) (tt 46))), dh 13 [] (on (.st 1 (tt 52) (tt 51)))]
abbrev c_spec_l16Rows_11 : List DOp := [dl 0 (oo 53 (.mv (tt 3))), dl 1 (oo 54 (.fa 1 (tt 6))), dl 2 (oo 55 (.ld (tt 54))), dl 3 (oo 56 (.ia 1 (tt 53) (tt 55))), dl 4 (oo 57 (.ld (tt 56))), dl 5 (oo 58 (.fa 1 (tt 6))), dl 6 (oo 59 (.ld (tt 58))), dl 7 (oo 60 (.ia 1 (tt 57) (tt 59))), dl 8 (oo 61 (.ld (tt 60))), dl 9 (oo 62 (.fa 2 (tt 6))), dl 10 (oo 63 (.ld (tt 62))), dl 11 (oo 64 (.bin .add (tt 61) (tt 63))), dl 12 (oo 65 (.ia 1 (tt 57) (tt 59))), dh 13 [] (on (.st 1 (tt 65) (tt 64)))]
abbrev c_spec_l16Rows_12 : List DOp := [dl 0 (oo 66 (.mv (tt 3))), dl 1 (oo 67 (.fa 0 (tt 6))), dl 2 (oo 68 (.ld (tt 67))), dl 3 (oo 69 (.ia 1 (tt 66) (tt 68))), dl 4 (oo 70 (.ld (tt 69))), dl 5 (oo 71 (.fa 1 (tt 6))), dl 6 (oo 72 (.ld (tt 71))), dl 7 (oo 73 (.ia 1 (tt 70) (tt 72))), dl 8 (oo 74 (.ld (tt 73))), dl 9 (oo 75 (.fa 2 (tt 6))), dl 10 (oo 76 (.ld (tt 75))), dl 11 (oo 77 (.bin .sub (tt 74) (tt 76))), dl 12 (oo 78 (.ia 1 (tt 70) (tt 72))), dh 13 [] (on (.st 1 (tt 78) (tt 77)))]
abbrev c_spec_l16Rows_13 : List DOp := [dl 0 (oo 79 (.mv (tt 3))), dl 1 (oo 80 (.fa 1 (tt 6))), dl 2 (oo 81 (.ld (tt 80))), dl 3 (oo 82 (.ia 1 (tt 79) (tt 81))), dl 4 (oo 83 (.ld (tt 82))), dl 5 (oo 84 (.fa 0 (tt 6))), dl 6 (oo 85 (.ld (tt 84))), dl 7 (oo 86 (.ia 1 (tt 83) (tt 85))), dl 8 (oo 87 (.ld (tt 86))), dl 9 (oo 88 (.fa 2 (tt 6))), dl 10 (oo 89 (.ld (tt 88))), dl 11 (oo 90 (.bin .sub (tt 87) (tt 89))), dl 12 (oo 91 (.ia 1 (tt 83) (tt 85))), dh 13 [] (on (.st 1 (tt 91) (tt 90)))]
abbrev c_spec_l16Rows_14 : List GOp := [oo 31 (.mv (tt 5)), oo 32 (.bin .add (tt 31) (ci 1)), oo 5 (.mv (tt 32))]
abbrev c_spec_l16Rows_l1 : GCode := .seq (.seq (.reg c_spec_l16Rows_8) (.cond (tt 30) (.skip) (.exit 2))) (.seq (.blk 3 (.seq (.reg c_spec_l16Rows_9) (.seq (.dreg c_spec_l16Rows_10) (.seq (.dreg c_spec_l16Rows_11) (.seq (.dreg c_spec_l16Rows_12) (.dreg c_spec_l16Rows_13)))))) (.reg c_spec_l16Rows_14))
abbrev c_spec_l16Rows_16 : List GOp := [oo 92 (.mv (tt 3)), oo 2 (.mv (tt 92))]
abbrev c_spec_l16Rows : GCode := .seq (.reg c_spec_l16Rows_0) (.seq (.reg c_spec_l16Rows_1) (.seq (.seq (.reg c_spec_l16Rows_2) (.blk 0 (.loop c_spec_l16Rows_l0))) (.seq (.seq (.reg c_spec_l16Rows_7) (.blk 2 (.loop c_spec_l16Rows_l1))) (.seq (.reg c_spec_l16Rows_16) (.ret)))))
theorem c_spec_l16Rows_d : decFn Try.prog Try.f160 = some (93, [.t 2], c_spec_l16Rows) := by kernel_rfl
theorem c_spec_l16Rows_i {args : List Value} {G : GH} {K : Value → GH → Prop} (hn : args.length ≤ 93) (h : gW Try.prog c_spec_l16Rows (RetK [.t 2] K) (T0 args) G) : GC Try.prog 160 args G K := GC_intro mixed Try.func160 c_spec_l16Rows_d hn h

end Go.Proofs.Ytmlkgpoakkgjbaa.Gh
