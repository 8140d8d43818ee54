/- Code trees that the law ReduceTables reaches: each is what the decoding gives (checked by the kernel). -/
import Derived.Test.YtanpmilodaejpaaC0
import Derived.Test.YtanpmilodaejpaaFm
import Derived.Test.YtanpmilodaejpaaFn
import Derived.Test.YtanpmilodaejpaaFz
namespace Go.Proofs.Ytanpmilodaejpaa.Gh
open Go Go.RowKit Go.Proofs
set_option linter.unusedVariables false
set_option linter.unusedSimpArgs false
set_option maxHeartbeats 4000000

abbrev c_cmp_Compare_int64_0 : List GOp := [oo 4 (.mv (ci 0))]
abbrev c_cmp_Compare_int64_1 : List GOp := [oo 7 (.mv (tt 0)), oo 8 (.call (ff 103) [tt 7]), oo 5 (.mv (tt 8))]
abbrev c_cmp_Compare_int64_2 : List GOp := [oo 9 (.mv (tt 1)), oo 10 (.call (ff 103) [tt 9]), oo 6 (.mv (tt 10))]
abbrev c_cmp_Compare_int64_3 : List GOp := [oo 11 (.mv (tt 5))]
abbrev c_cmp_Compare_int64_4 : List GOp := [oo 12 (.mv (tt 6))]
abbrev c_cmp_Compare_int64_5 : List GOp := [oo 4 (.mv (ci 0))]
abbrev c_cmp_Compare_int64_6 : List GOp := [oo 4 (.mv (ci (-1)))]
abbrev c_cmp_Compare_int64_7 : List GOp := [oo 13 (.mv (tt 6))]
abbrev c_cmp_Compare_int64_8 : List GOp := [oo 4 (.mv (ci 1))]
abbrev c_cmp_Compare_int64_9 : List GOp := [oo 14 (.mv (tt 0)), oo 15 (.mv (tt 1)), oo 16 (.bin .lss (tt 14) (tt 15))]
abbrev c_cmp_Compare_int64_10 : List GOp := [oo 4 (.mv (ci (-1)))]
abbrev c_cmp_Compare_int64_11 : List GOp := [oo 17 (.mv (tt 0)), oo 18 (.mv (tt 1)), oo 19 (.bin .gtr (tt 17) (tt 18))]
abbrev c_cmp_Compare_int64_12 : List GOp := [oo 4 (.mv (ci 1))]
abbrev c_cmp_Compare_int64_13 : List GOp := [oo 4 (.mv (ci 0))]
abbrev c_cmp_Compare_int64 : GCode := .seq (.reg c_cmp_Compare_int64_0) (.seq (.reg c_cmp_Compare_int64_1) (.seq (.reg c_cmp_Compare_int64_2) (.seq (.seq (.reg c_cmp_Compare_int64_3) (.cond (tt 11) (.seq (.seq (.reg c_cmp_Compare_int64_4) (.cond (tt 12) (.seq (.reg c_cmp_Compare_int64_5) (.ret)) (.skip))) (.seq (.reg c_cmp_Compare_int64_6) (.ret))) (.skip))) (.seq (.seq (.reg c_cmp_Compare_int64_7) (.cond (tt 13) (.seq (.reg c_cmp_Compare_int64_8) (.ret)) (.skip))) (.seq (.seq (.reg c_cmp_Compare_int64_9) (.cond (tt 16) (.seq (.reg c_cmp_Compare_int64_10) (.ret)) (.skip))) (.seq (.seq (.reg c_cmp_Compare_int64_11) (.cond (tt 19) (.seq (.reg c_cmp_Compare_int64_12) (.ret)) (.skip))) (.seq (.reg c_cmp_Compare_int64_13) (.ret))))))))
theorem c_cmp_Compare_int64_d : decFn Try.prog Try.f95 = some (20, [.t 4], c_cmp_Compare_int64) := by kernel_rfl
theorem c_cmp_Compare_int64_i {args : List Value} {G : GH} {K : Value → GH → Prop} (hn : args.length ≤ 20) (h : gW Try.prog c_cmp_Compare_int64 (RetK [.t 4] K) (T0 args) G) : GC Try.prog 95 args G K := GC_intro mixed Try.func95 c_cmp_Compare_int64_d hn h
abbrev c_cmp_isNaN_int64_0 : List GOp := [oo 2 (.mv (cb  false))]
abbrev c_cmp_isNaN_int64_1 : List GOp := [oo 3 (.mv (tt 0)), oo 4 (.mv (tt 0)), oo 5 (.bin .neq (tt 3) (tt 4)), oo 2 (.mv (tt 5))]
abbrev c_cmp_isNaN_int64 : GCode := .seq (.reg c_cmp_isNaN_int64_0) (.seq (.reg c_cmp_isNaN_int64_1) (.ret))
theorem c_cmp_isNaN_int64_d : decFn Try.prog Try.f103 = some (6, [.t 2], c_cmp_isNaN_int64) := by kernel_rfl
theorem c_cmp_isNaN_int64_i {args : List Value} {G : GH} {K : Value → GH → Prop} (hn : args.length ≤ 6) (h : gW Try.prog c_cmp_isNaN_int64 (RetK [.t 2] K) (T0 args) G) : GC Try.prog 103 args G K := GC_intro mixed Try.func103 c_cmp_isNaN_int64_d hn h
abbrev c_impl_ReduceTables_0 : List GOp := [oo 2 (.mv (.const (.slice none 0 0))), oo 3 (.mv (ci 0))]
abbrev c_impl_ReduceTables_1 : List GOp := [oo 11 (.mv (tt 0)), oo 12 (.call (ff 34) [tt 11]), oo 13 (.un .not (tt 12))]
abbrev c_impl_ReduceTables_2 : List GOp := [oo 2 (.mv (.const (.slice none 0 0))), oo 3 (.mv (ci 1))]
abbrev c_impl_ReduceTables_3 : List GOp := [oo 4 (.mv (.const (.slice none 0 0)))]
abbrev c_impl_ReduceTables_4 : List GOp := [oo 14 (.mv (tt 0)), oo 15 (.len (tt 14)), oo 16 (.mv (ci 0))]
abbrev c_impl_ReduceTables_5 : List GOp := [oo 17 (.bin .lss (tt 16) (tt 15))]
abbrev c_impl_ReduceTables_6 : List GOp := [oo 18 (.ia 2 (tt 14) (tt 16)), oo 19 (.ldn 2 (tt 18)), oo 6 (.al [.slice none 0 0, .slice none 0 0]), on (.st 2 (tt 6) (tt 19))]
abbrev c_impl_ReduceTables_7 : List DOp := [dl 0 (oo 20 (.mv (tt 4))), dl 1 (oo 21 (.fa 0 (tt 6))), dl 2 (oo 22 (.ld (tt 21))), dl 4 (oo 24 (.fa 1 (tt 6))), dl 5 (oo 25 (.ld (tt 24))), dh 3 [5] (oo 23 (.call (ff 35) [tt 22])), dh 6 [2] (oo 26 (.call (ff 36) [tt 25])), dl 7 (oo 27 (.bld [.slice none 0 0, .slice none 0 0] [(0, 1, (tt 23)), (1, 1, (tt 26))])), dh 8 [5, 2] (oo 28 (.bs 2 [tt 27])), dh 9 [5, 2] (oo 29 (.ap 2 48 [.slice none 0 0, .slice none 0 0] (tt 20) (tt 28))), dl 10 (oo 4 (.mv (tt 29)))]
abbrev c_impl_ReduceTables_8 : List GOp := [oo 30 (.bin .add (tt 16) (ci 1)), oo 16 (.mv (tt 30))]
abbrev c_impl_ReduceTables_l0 : GCode := .seq (.reg c_impl_ReduceTables_5) (.seq (.cond (tt 17) (.skip) (.exit 0)) (.seq (.blk 1 (.seq (.reg c_impl_ReduceTables_6) (.dreg c_impl_ReduceTables_7))) (.reg c_impl_ReduceTables_8)))
abbrev c_impl_ReduceTables_10 : List GOp := [oo 7 (.mv (cb  true))]
abbrev c_impl_ReduceTables_11 : List GOp := [oo 31 (.mv (tt 7))]
abbrev c_impl_ReduceTables_12 : List GOp := [oo 7 (.mv (cb  false))]
abbrev c_impl_ReduceTables_13 : List GOp := [oo 32 (.mv (tt 4)), oo 33 (.len (tt 32)), oo 34 (.mv (ci 0))]
abbrev c_impl_ReduceTables_14 : List GOp := [oo 35 (.bin .lss (tt 34) (tt 33))]
abbrev c_impl_ReduceTables_15 : List GOp := [oo 36 (.mv (tt 34)), oo 8 (.mv (tt 36))]
abbrev c_impl_ReduceTables_16 : List GOp := [oo 37 (.mv (tt 4)), oo 38 (.len (tt 37)), oo 39 (.mv (ci 0))]
abbrev c_impl_ReduceTables_17 : List GOp := [oo 40 (.bin .lss (tt 39) (tt 38))]
abbrev c_impl_ReduceTables_18 : List GOp := [oo 41 (.mv (tt 39)), oo 9 (.mv (tt 41))]
abbrev c_impl_ReduceTables_19 : DT := (.path [dl 0 (oo 42 (.mv (tt 4)))] (.path [dl 1 (oo 43 (.mv (tt 8)))] (.path [dl 2 (oo 44 (.ia 2 (tt 42) (tt 43)))] (.path [dl 3 (oo 45 (.ldn 2 (tt 44)))] (.path [dl 4 (oo 46 (.mv (tt 4)))] (.path [dl 5 (oo 47 (.mv (tt 9)))] (.path [dl 6 (oo 48 (.ia 2 (tt 46) (tt 47)))] (.path [dl 7 (oo 49 (.ldn 2 (tt 48)))] (.both (.path [dh 8 [] (oo 50 (.call (ff 37) [tt 45, tt 49]))] (.path [dh 9 [7, 3] (oo 10 (.al [.slice none 0 0, .slice none 0 0]))] (.path [dh 10 [] (on (.st 2 (tt 10) (tt 50)))] .fin))) (.path [dh 9 [7, 3] (oo 10 (.al [.slice none 0 0, .slice none 0 0]))] (.path [dh 8 [] (oo 50 (.call (ff 37) [tt 45, tt 49]))] (.path [dh 10 [] (on (.st 2 (tt 10) (tt 50)))] .fin))))))))))))
abbrev c_impl_ReduceTables_20 : List DOp := [dl 0 (oo 51 (.fa 1 (tt 10))), dl 1 (oo 52 (.ld (tt 51))), dl 2 (oo 53 (.len (tt 52))), dl 3 (oo 54 (.mv (tt 4))), dl 4 (oo 55 (.mv (tt 8))), dl 5 (oo 56 (.ia 2 (tt 54) (tt 55))), dl 6 (oo 57 (.fa 1 (tt 56))), dl 7 (oo 58 (.ld (tt 57))), dl 8 (oo 59 (.len (tt 58))), dl 9 (oo 60 (.bin .lss (tt 53) (tt 59)))]
abbrev c_impl_ReduceTables_21 : List GOp := [oo 61 (.mv (tt 4)), oo 62 (.mv (tt 8)), oo 63 (.ldn 2 (tt 10)), oo 64 (.ia 2 (tt 61) (tt 62)), on (.st 2 (tt 64) (tt 63))]
abbrev c_impl_ReduceTables_22 : List GOp := [oo 7 (.mv (cb  true))]
abbrev c_impl_ReduceTables_23 : List GOp := [oo 65 (.bin .add (tt 39) (ci 1)), oo 39 (.mv (tt 65))]
abbrev c_impl_ReduceTables_l1 : GCode := .seq (.reg c_impl_ReduceTables_17) (.seq (.cond (tt 40) (.skip) (.exit 6)) (.seq (.blk 7 (.seq (.reg c_impl_ReduceTables_18) (.seq (.dtree c_impl_ReduceTables_19) (.seq (.dreg c_impl_ReduceTables_20) (.cond (tt 60) (.seq (.reg c_impl_ReduceTables_21) (.reg c_impl_ReduceTables_22)) (.skip)))))) (.reg c_impl_ReduceTables_23)))
abbrev c_impl_ReduceTables_25 : List GOp := [oo 66 (.bin .add (tt 34) (ci 1)), oo 34 (.mv (tt 66))]
abbrev c_impl_ReduceTables_l2 : GCode := .seq (.reg c_impl_ReduceTables_14) (.seq (.cond (tt 35) (.skip) (.exit 4)) (.seq (.blk 5 (.seq (.reg c_impl_ReduceTables_15) (.seq (.reg c_impl_ReduceTables_16) (.blk 6 (.loop c_impl_ReduceTables_l1))))) (.reg c_impl_ReduceTables_25)))
abbrev c_impl_ReduceTables_l3 : GCode := .seq (.seq (.reg c_impl_ReduceTables_11) (.cond (tt 31) (.skip) (.exit 2))) (.blk 3 (.seq (.reg c_impl_ReduceTables_12) (.seq (.reg c_impl_ReduceTables_13) (.blk 4 (.loop c_impl_ReduceTables_l2)))))
abbrev c_impl_ReduceTables_28 : List GOp := [oo 67 (.mv (tt 4)), oo 2 (.mv (tt 67)), oo 3 (.mv (ci 0))]
abbrev c_impl_ReduceTables : GCode := .seq (.reg c_impl_ReduceTables_0) (.seq (.seq (.reg c_impl_ReduceTables_1) (.cond (tt 13) (.seq (.reg c_impl_ReduceTables_2) (.ret)) (.skip))) (.seq (.reg c_impl_ReduceTables_3) (.seq (.seq (.reg c_impl_ReduceTables_4) (.blk 0 (.loop c_impl_ReduceTables_l0))) (.seq (.seq (.reg c_impl_ReduceTables_10) (.blk 2 (.loop c_impl_ReduceTables_l3))) (.seq (.reg c_impl_ReduceTables_28) (.ret))))))
theorem c_impl_ReduceTables_d : decFn Try.prog Try.f11 = some (68, [.t 2, .t 3], c_impl_ReduceTables) := by kernel_rfl
theorem c_impl_ReduceTables_i {args : List Value} {G : GH} {K : Value → GH → Prop} (hn : args.length ≤ 68) (h : gW Try.prog c_impl_ReduceTables (RetK [.t 2, .t 3] K) (T0 args) G) : GC Try.prog 11 args G K := GC_intro mixed Try.func11 c_impl_ReduceTables_d hn h
abbrev c_impl_ValidTable_0 : List GOp := [oo 1 (.bx (tt 0)), oo 2 (.mv (cb  false))]
abbrev c_impl_ValidTable_1 : List GOp := [oo 5 (.fa 0 (tt 1)), oo 6 (.ld (tt 5)), oo 7 (.call (ff 51) [tt 6]), oo 8 (.un .not (tt 7)), oo 9 (.mv (tt 8)), og 10 9 false (.fa 0 (tt 1)), og 11 9 false (.ld (tt 10)), og 12 9 false (.call (ff 74) [tt 11, (ci 8)]), og 13 9 false (.un .not (tt 12)), oo 14 (.pick (tt 9) (cb  true) (tt 13)), oo 15 (.mv (tt 14)), og 16 15 false (.fa 1 (tt 1)), og 17 15 false (.ld (tt 16)), og 18 15 false (.len (tt 17)), og 19 15 false (.bin .gtr (tt 18) (ci 24)), oo 20 (.pick (tt 15) (cb  true) (tt 19))]
abbrev c_impl_ValidTable_2 : List GOp := [oo 2 (.mv (cb  false))]
abbrev c_impl_ValidTable_3 : List GOp := [oo 21 (.fa 1 (tt 1)), oo 22 (.ld (tt 21)), oo 23 (.len (tt 22)), oo 24 (.mv (ci 0))]
abbrev c_impl_ValidTable_4 : List GOp := [oo 25 (.bin .lss (tt 24) (tt 23))]
abbrev c_impl_ValidTable_5 : List GOp := [oo 26 (.mv (tt 24)), oo 27 (.ia 1 (tt 22) (tt 24)), oo 28 (.ld (tt 27)), oo 3 (.mv (tt 26)), oo 4 (.mv (tt 28))]
abbrev c_impl_ValidTable_6 : List GOp := [oo 29 (.mv (tt 4)), oo 30 (.len (tt 29)), oo 31 (.fa 0 (tt 1)), oo 32 (.ld (tt 31)), oo 33 (.len (tt 32)), oo 34 (.bin .neq (tt 30) (tt 33)), oo 35 (.mv (tt 34)), og 36 35 false (.mv (tt 4)), og 37 35 false (.call (ff 74) [tt 36, (ci 4)]), og 38 35 false (.un .not (tt 37)), oo 39 (.pick (tt 35) (cb  true) (tt 38)), oo 40 (.mv (tt 39)), og 41 40 false (.mv (tt 3)), og 42 40 false (.bin .gtr (tt 41) (ci 0)), og 43 40 false (.mv (tt 42)), og 44 43 true (.fa 1 (tt 1)), og 45 43 true (.ld (tt 44)), og 46 43 true (.mv (tt 3)), og 47 43 true (.bin .sub (tt 46) (ci 1)), og 48 43 true (.ia 1 (tt 45) (tt 47)), og 49 43 true (.ld (tt 48)), og 50 43 true (.mv (tt 4)), og 51 43 true (.call (ff 75) [tt 49, tt 50]), og 52 43 true (.bin .geq (tt 51) (ci 0)), og 53 40 false (.pick (tt 43) (tt 52) (cb  false)), oo 54 (.pick (tt 40) (cb  true) (tt 53))]
abbrev c_impl_ValidTable_7 : List GOp := [oo 2 (.mv (cb  false))]
abbrev c_impl_ValidTable_8 : List GOp := [oo 55 (.bin .add (tt 24) (ci 1)), oo 24 (.mv (tt 55))]
abbrev c_impl_ValidTable_l0 : GCode := .seq (.reg c_impl_ValidTable_4) (.seq (.cond (tt 25) (.skip) (.exit 0)) (.seq (.blk 1 (.seq (.reg c_impl_ValidTable_5) (.seq (.reg c_impl_ValidTable_6) (.cond (tt 54) (.seq (.reg c_impl_ValidTable_7) (.ret)) (.skip))))) (.reg c_impl_ValidTable_8)))
abbrev c_impl_ValidTable_10 : List GOp := [oo 2 (.mv (cb  true))]
abbrev c_impl_ValidTable : GCode := .seq (.reg c_impl_ValidTable_0) (.seq (.seq (.reg c_impl_ValidTable_1) (.cond (tt 20) (.seq (.reg c_impl_ValidTable_2) (.ret)) (.skip))) (.seq (.seq (.reg c_impl_ValidTable_3) (.blk 0 (.loop c_impl_ValidTable_l0))) (.seq (.reg c_impl_ValidTable_10) (.ret))))
theorem c_impl_ValidTable_d : decFn Try.prog Try.f46 = some (56, [.t 2], c_impl_ValidTable) := by kernel_rfl
theorem c_impl_ValidTable_i {args : List Value} {G : GH} {K : Value → GH → Prop} (hn : args.length ≤ 56) (h : gW Try.prog c_impl_ValidTable (RetK [.t 2] K) (T0 args) G) : GC Try.prog 46 args G K := GC_intro mixed Try.func46 c_impl_ValidTable_d hn h
abbrev c_impl_ValidTables_0 : List GOp := [oo 2 (.mv (cb  false))]
abbrev c_impl_ValidTables_1 : List GOp := [oo 3 (.mv (tt 0)), oo 4 (.len (tt 3)), oo 5 (.bin .leq (tt 4) (ci 6)), oo 6 (.mv (tt 5)), og 7 6 true (.mv (tt 0)), og 8 6 true (.call (ff 67) [tt 7, (ff 68)]), og 9 6 true (.un .not (tt 8)), oo 10 (.pick (tt 6) (tt 9) (cb  false)), oo 2 (.mv (tt 10))]
abbrev c_impl_ValidTables : GCode := .seq (.reg c_impl_ValidTables_0) (.seq (.reg c_impl_ValidTables_1) (.ret))
theorem c_impl_ValidTables_d : decFn Try.prog Try.f34 = some (11, [.t 2], c_impl_ValidTables) := by kernel_rfl
theorem c_impl_ValidTables_i {args : List Value} {G : GH} {K : Value → GH → Prop} (hn : args.length ≤ 11) (h : gW Try.prog c_impl_ValidTables (RetK [.t 2] K) (T0 args) G) : GC Try.prog 34 args G K := GC_intro mixed Try.func34 c_impl_ValidTables_d hn h
abbrev c_impl_ValidTables_fn1_0 : List GOp := [oo 1 (.bx (tt 0)), oo 2 (.mv (cb  false))]
abbrev c_impl_ValidTables_fn1_1 : List GOp := [oo 3 (.ldn 2 (tt 1)), oo 4 (.call (ff 46) [tt 3]), oo 5 (.un .not (tt 4)), oo 2 (.mv (tt 5))]
abbrev c_impl_ValidTables_fn1 : GCode := .seq (.reg c_impl_ValidTables_fn1_0) (.seq (.reg c_impl_ValidTables_fn1_1) (.ret))
theorem c_impl_ValidTables_fn1_d : decFn Try.prog Try.f68 = some (6, [.t 2], c_impl_ValidTables_fn1) := by kernel_rfl
theorem c_impl_ValidTables_fn1_i {args : List Value} {G : GH} {K : Value → GH → Prop} (hn : args.length ≤ 6) (h : gW Try.prog c_impl_ValidTables_fn1 (RetK [.t 2] K) (T0 args) G) : GC Try.prog 68 args G K := GC_intro mixed Try.func68 c_impl_ValidTables_fn1_d hn h
abbrev c_impl_areElements_0 : List GOp := [oo 3 (.bx (tt 1)), oo 4 (.mv (cb  false))]
abbrev c_impl_areElements_1 : List GOp := [oo 5 (.mv (tt 0)), oo 6 (.mf (.func 93) [] [tt 3]), oo 7 (.call (ff 78) [tt 5, tt 6]), oo 8 (.un .not (tt 7)), oo 4 (.mv (tt 8))]
abbrev c_impl_areElements : GCode := .seq (.reg c_impl_areElements_0) (.seq (.reg c_impl_areElements_1) (.ret))
theorem c_impl_areElements_d : decFn Try.prog Try.f74 = some (9, [.t 4], c_impl_areElements) := by kernel_rfl
theorem c_impl_areElements_i {args : List Value} {G : GH} {K : Value → GH → Prop} (hn : args.length ≤ 9) (h : gW Try.prog c_impl_areElements (RetK [.t 4] K) (T0 args) G) : GC Try.prog 74 args G K := GC_intro mixed Try.func74 c_impl_areElements_d hn h
abbrev c_impl_areElements_fn1_0 : List GOp := [oo 3 (.mv (cb  false))]
abbrev c_impl_areElements_fn1_1 : List GOp := [oo 4 (.mv (tt 0)), oo 5 (.ld (tt 1)), oo 6 (.call (ff 94) [tt 4, tt 5]), oo 7 (.un .not (tt 6)), oo 3 (.mv (tt 7))]
abbrev c_impl_areElements_fn1 : GCode := .seq (.reg c_impl_areElements_fn1_0) (.seq (.reg c_impl_areElements_fn1_1) (.ret))
theorem c_impl_areElements_fn1_d : decFn Try.prog Try.f93 = some (8, [.t 3], c_impl_areElements_fn1) := by kernel_rfl
theorem c_impl_areElements_fn1_i {args : List Value} {G : GH} {K : Value → GH → Prop} (hn : args.length ≤ 8) (h : gW Try.prog c_impl_areElements_fn1 (RetK [.t 3] K) (T0 args) G) : GC Try.prog 93 args G K := GC_intro mixed Try.func93 c_impl_areElements_fn1_d hn h
abbrev c_impl_commonColumns_0 : List GOp := [oo 2 (.bx (tt 0)), oo 3 (.bx (tt 1)), oo 4 (.mv (.const (.slice none 0 0)))]
abbrev c_impl_commonColumns_1 : List DOp := [dl 0 (oo 5 (.fa 0 (tt 2))), dl 1 (oo 6 (.ld (tt 5))), dl 2 (oo 7 (.fa 0 (tt 2))), dl 3 (oo 8 (.ld (tt 7))), dl 4 (oo 9 (.fa 0 (tt 3))), dl 5 (oo 10 (.ld (tt 9))), dh 6 [1] (oo 11 (.call (ff 96) [tt 8, tt 10])), dh 7 [5, 3] (oo 12 (.call (ff 96) [tt 6, tt 11])), dl 8 (oo 4 (.mv (tt 12)))]
abbrev c_impl_commonColumns : GCode := .seq (.reg c_impl_commonColumns_0) (.seq (.dreg c_impl_commonColumns_1) (.ret))
theorem c_impl_commonColumns_d : decFn Try.prog Try.f76 = some (13, [.t 4], c_impl_commonColumns) := by kernel_rfl
theorem c_impl_commonColumns_i {args : List Value} {G : GH} {K : Value → GH → Prop} (hn : args.length ≤ 13) (h : gW Try.prog c_impl_commonColumns (RetK [.t 4] K) (T0 args) G) : GC Try.prog 76 args G K := GC_intro mixed Try.func76 c_impl_commonColumns_d hn h
abbrev c_impl_copyLists_0 : List GOp := [oo 2 (.mv (.const (.slice none 0 0)))]
abbrev c_impl_copyLists_1 : List GOp := [oo 3 (.mv (.const (.slice none 0 0)))]
abbrev c_impl_copyLists_2 : List GOp := [oo 6 (.mv (tt 0)), oo 7 (.len (tt 6)), oo 8 (.mv (ci 0))]
abbrev c_impl_copyLists_3 : List GOp := [oo 9 (.bin .lss (tt 8) (tt 7))]
abbrev c_impl_copyLists_4 : List GOp := [oo 10 (.ia 1 (tt 6) (tt 8)), oo 11 (.ld (tt 10)), oo 5 (.mv (tt 11))]
abbrev c_impl_copyLists_5 : List GOp := [oo 12 (.mv (tt 3)), oo 13 (.mv (tt 5)), oo 14 (.call (ff 35) [tt 13]), oo 15 (.bs 1 [tt 14]), oo 16 (.ap 1 24 [.slice none 0 0] (tt 12) (tt 15)), oo 3 (.mv (tt 16))]
abbrev c_impl_copyLists_6 : List GOp := [oo 17 (.bin .add (tt 8) (ci 1)), oo 8 (.mv (tt 17))]
abbrev c_impl_copyLists_l0 : GCode := .seq (.reg c_impl_copyLists_3) (.seq (.cond (tt 9) (.skip) (.exit 0)) (.seq (.blk 1 (.seq (.reg c_impl_copyLists_4) (.reg c_impl_copyLists_5))) (.reg c_impl_copyLists_6)))
abbrev c_impl_copyLists_8 : List GOp := [oo 18 (.mv (tt 3)), oo 2 (.mv (tt 18))]
abbrev c_impl_copyLists : GCode := .seq (.reg c_impl_copyLists_0) (.seq (.reg c_impl_copyLists_1) (.seq (.seq (.reg c_impl_copyLists_2) (.blk 0 (.loop c_impl_copyLists_l0))) (.seq (.reg c_impl_copyLists_8) (.ret))))
theorem c_impl_copyLists_d : decFn Try.prog Try.f36 = some (19, [.t 2], c_impl_copyLists) := by kernel_rfl
theorem c_impl_copyLists_i {args : List Value} {G : GH} {K : Value → GH → Prop} (hn : args.length ≤ 19) (h : gW Try.prog c_impl_copyLists (RetK [.t 2] K) (T0 args) G) : GC Try.prog 36 args G K := GC_intro mixed Try.func36 c_impl_copyLists_d hn h
abbrev c_impl_fit_0 : List GOp := [oo 4 (.bx (tt 0)), oo 5 (.bx (tt 1)), oo 8 (.mv (cb  false))]
abbrev c_impl_fit_1 : List GOp := [oo 10 (.ldn 2 (tt 4)), oo 11 (.ldn 2 (tt 5)), oo 12 (.call (ff 76) [tt 10, tt 11]), oo 9 (.mv (tt 12))]
abbrev c_impl_fit_2 : List DOp := [dl 0 (oo 13 (.fa 0 (tt 4))), dl 1 (oo 14 (.ld (tt 13))), dl 2 (oo 15 (.mv (tt 2))), dl 3 (oo 16 (.mv (tt 9))), dl 5 (oo 18 (.fa 0 (tt 5))), dl 6 (oo 19 (.ld (tt 18))), dl 7 (oo 20 (.mv (tt 3))), dl 8 (oo 21 (.mv (tt 9))), dh 4 [6] (oo 17 (.call (ff 64) [tt 14, tt 15, tt 16])), dh 9 [1] (oo 22 (.call (ff 64) [tt 19, tt 20, tt 21])), dh 10 [6, 1] (oo 23 (.call (ff 86) [tt 17, tt 22])), dl 11 (oo 8 (.mv (tt 23)))]
abbrev c_impl_fit : GCode := .seq (.reg c_impl_fit_0) (.seq (.reg c_impl_fit_1) (.seq (.dreg c_impl_fit_2) (.ret)))
theorem c_impl_fit_d : decFn Try.prog Try.f63 = some (24, [.t 8], c_impl_fit) := by kernel_rfl
theorem c_impl_fit_i {args : List Value} {G : GH} {K : Value → GH → Prop} (hn : args.length ≤ 24) (h : gW Try.prog c_impl_fit (RetK [.t 8] K) (T0 args) G) : GC Try.prog 63 args G K := GC_intro mixed Try.func63 c_impl_fit_d hn h
abbrev c_impl_isElement_0 : List GOp := [oo 4 (.mv (cb  false))]
abbrev c_impl_isElement_1 : List GOp := [oo 5 (.mv (tt 0)), oo 6 (.mv (tt 1)), oo 7 (.bin .sub (tt 6) (ci 1)), oo 8 (.call (ff 102) [tt 5, (ci 0), tt 7]), oo 4 (.mv (tt 8))]
abbrev c_impl_isElement : GCode := .seq (.reg c_impl_isElement_0) (.seq (.reg c_impl_isElement_1) (.ret))
theorem c_impl_isElement_d : decFn Try.prog Try.f94 = some (9, [.t 4], c_impl_isElement) := by kernel_rfl
theorem c_impl_isElement_i {args : List Value} {G : GH} {K : Value → GH → Prop} (hn : args.length ≤ 9) (h : gW Try.prog c_impl_isElement (RetK [.t 4] K) (T0 args) G) : GC Try.prog 94 args G K := GC_intro mixed Try.func94 c_impl_isElement_d hn h
abbrev c_impl_isRising_0 : List GOp := [oo 2 (.mv (cb  false))]
abbrev c_impl_isRising_1 : List GOp := [oo 3 (.mv (ci 1))]
abbrev c_impl_isRising_2 : List GOp := [oo 4 (.mv (tt 3)), oo 5 (.mv (tt 0)), oo 6 (.len (tt 5)), oo 7 (.bin .lss (tt 4) (tt 6))]
abbrev c_impl_isRising_3 : List DOp := [dl 0 (oo 10 (.mv (tt 0))), dl 1 (oo 11 (.mv (tt 3))), dl 2 (oo 12 (.bin .sub (tt 11) (ci 1))), dl 3 (oo 13 (.ia 1 (tt 10) (tt 12))), dl 4 (oo 14 (.ld (tt 13))), dl 5 (oo 15 (.mv (tt 0))), dl 6 (oo 16 (.mv (tt 3))), dl 7 (oo 17 (.ia 1 (tt 15) (tt 16))), dl 8 (oo 18 (.ld (tt 17))), dl 9 (oo 19 (.bin .geq (tt 14) (tt 18)))]
abbrev c_impl_isRising_4 : List GOp := [oo 2 (.mv (cb  false))]
abbrev c_impl_isRising_5 : List GOp := [oo 8 (.mv (tt 3)), oo 9 (.bin .add (tt 8) (ci 1)), oo 3 (.mv (tt 9))]
abbrev c_impl_isRising_l0 : GCode := .seq (.seq (.reg c_impl_isRising_2) (.cond (tt 7) (.skip) (.exit 0))) (.seq (.blk 1 (.seq (.dreg c_impl_isRising_3) (.cond (tt 19) (.seq (.reg c_impl_isRising_4) (.ret)) (.skip)))) (.reg c_impl_isRising_5))
abbrev c_impl_isRising_7 : List GOp := [oo 2 (.mv (cb  true))]
abbrev c_impl_isRising : GCode := .seq (.reg c_impl_isRising_0) (.seq (.seq (.reg c_impl_isRising_1) (.blk 0 (.loop c_impl_isRising_l0))) (.seq (.reg c_impl_isRising_7) (.ret)))
theorem c_impl_isRising_d : decFn Try.prog Try.f51 = some (20, [.t 2], c_impl_isRising) := by kernel_rfl
theorem c_impl_isRising_i {args : List Value} {G : GH} {K : Value → GH → Prop} (hn : args.length ≤ 20) (h : gW Try.prog c_impl_isRising (RetK [.t 2] K) (T0 args) G) : GC Try.prog 51 args G K := GC_intro mixed Try.func51 c_impl_isRising_d hn h
abbrev c_impl_project_0 : List GOp := [oo 6 (.mv (.const (.slice none 0 0)))]
abbrev c_impl_project_1 : List GOp := [oo 7 (.mv (.const (.slice none 0 0)))]
abbrev c_impl_project_2 : List GOp := [oo 10 (.mv (tt 2)), oo 11 (.len (tt 10)), oo 12 (.mv (ci 0))]
abbrev c_impl_project_3 : List GOp := [oo 13 (.bin .lss (tt 12) (tt 11))]
abbrev c_impl_project_4 : List GOp := [oo 14 (.ia 1 (tt 10) (tt 12)), oo 15 (.ld (tt 14)), oo 9 (.mv (tt 15))]
abbrev c_impl_project_5 : List GOp := [oo 16 (.mv (tt 7)), oo 17 (.mv (tt 1)), oo 18 (.mv (tt 0)), oo 19 (.mv (tt 9)), oo 20 (.call (ff 87) [tt 18, tt 19]), oo 21 (.ia 1 (tt 17) (tt 20)), oo 22 (.ld (tt 21)), oo 23 (.bs 1 [tt 22]), oo 24 (.ap 1 8 [.int .i64 0] (tt 16) (tt 23)), oo 7 (.mv (tt 24))]
abbrev c_impl_project_6 : List GOp := [oo 25 (.bin .add (tt 12) (ci 1)), oo 12 (.mv (tt 25))]
abbrev c_impl_project_l0 : GCode := .seq (.reg c_impl_project_3) (.seq (.cond (tt 13) (.skip) (.exit 0)) (.seq (.blk 1 (.seq (.reg c_impl_project_4) (.reg c_impl_project_5))) (.reg c_impl_project_6)))
abbrev c_impl_project_8 : List GOp := [oo 26 (.mv (tt 7)), oo 6 (.mv (tt 26))]
abbrev c_impl_project : GCode := .seq (.reg c_impl_project_0) (.seq (.reg c_impl_project_1) (.seq (.seq (.reg c_impl_project_2) (.blk 0 (.loop c_impl_project_l0))) (.seq (.reg c_impl_project_8) (.ret))))
theorem c_impl_project_d : decFn Try.prog Try.f64 = some (27, [.t 6], c_impl_project) := by kernel_rfl
theorem c_impl_project_i {args : List Value} {G : GH} {K : Value → GH → Prop} (hn : args.length ≤ 27) (h : gW Try.prog c_impl_project (RetK [.t 6] K) (T0 args) G) : GC Try.prog 64 args G K := GC_intro mixed Try.func64 c_impl_project_d hn h
abbrev c_impl_semiJoin_0 : List GOp := [oo 2 (.bx (tt 0)), oo 3 (.bx (tt 1)), oo 4 (.al [.slice none 0 0, .slice none 0 0])]
abbrev c_impl_semiJoin_1 : List GOp := [oo 8 (.fa 0 (tt 2)), oo 9 (.ld (tt 8)), oo 10 (.call (ff 35) [tt 9]), oo 11 (.bld [.slice none 0 0, .slice none 0 0] [(0, 1, (tt 10))]), oo 5 (.al [.slice none 0 0, .slice none 0 0]), on (.st 2 (tt 5) (tt 11))]
abbrev c_impl_semiJoin_2 : List GOp := [oo 12 (.fa 1 (tt 2)), oo 13 (.ld (tt 12)), oo 14 (.len (tt 13)), oo 15 (.mv (ci 0))]
abbrev c_impl_semiJoin_3 : List GOp := [oo 16 (.bin .lss (tt 15) (tt 14))]
abbrev c_impl_semiJoin_4 : List GOp := [oo 17 (.ia 1 (tt 13) (tt 15)), oo 18 (.ld (tt 17)), oo 7 (.al [.slice none 0 0]), on (.st 1 (tt 7) (tt 18))]
abbrev c_impl_semiJoin_5 : List GOp := [oo 19 (.fa 1 (tt 3)), oo 20 (.ld (tt 19)), oo 21 (.mf (.func 70) [] [tt 2, tt 3, tt 7]), oo 22 (.call (ff 69) [tt 20, tt 21])]
abbrev c_impl_semiJoin_6 : List DOp := [dl 0 (oo 23 (.fa 1 (tt 5))), dl 1 (oo 24 (.ld (tt 23))), dl 2 (oo 25 (.ld (tt 7))), dh 3 [1] (oo 26 (.call (ff 35) [tt 25])), dh 4 [2, 1] (oo 27 (.bs 1 [tt 26])), dh 5 [2] (oo 28 (.ap 1 24 [.slice none 0 0] (tt 24) (tt 27))), dl 6 (oo 29 (.fa 1 (tt 5))), dh 7 [] (on (.st 1 (tt 29) (tt 28)))]
abbrev c_impl_semiJoin_7 : List GOp := [oo 30 (.bin .add (tt 15) (ci 1)), oo 15 (.mv (tt 30))]
abbrev c_impl_semiJoin_l0 : GCode := .seq (.reg c_impl_semiJoin_3) (.seq (.cond (tt 16) (.skip) (.exit 0)) (.seq (.blk 1 (.seq (.reg c_impl_semiJoin_4) (.seq (.reg c_impl_semiJoin_5) (.cond (tt 22) (.dreg c_impl_semiJoin_6) (.skip))))) (.reg c_impl_semiJoin_7)))
abbrev c_impl_semiJoin_9 : List GOp := [oo 31 (.ldn 2 (tt 5)), on (.st 2 (tt 4) (tt 31))]
abbrev c_impl_semiJoin : GCode := .seq (.reg c_impl_semiJoin_0) (.seq (.reg c_impl_semiJoin_1) (.seq (.seq (.reg c_impl_semiJoin_2) (.blk 0 (.loop c_impl_semiJoin_l0))) (.seq (.reg c_impl_semiJoin_9) (.ret))))
theorem c_impl_semiJoin_d : decFn Try.prog Try.f37 = some (32, [.cn 4 2], c_impl_semiJoin) := by kernel_rfl
theorem c_impl_semiJoin_i {args : List Value} {G : GH} {K : Value → GH → Prop} (hn : args.length ≤ 32) (h : gW Try.prog c_impl_semiJoin (RetK [.cn 4 2] K) (T0 args) G) : GC Try.prog 37 args G K := GC_intro mixed Try.func37 c_impl_semiJoin_d hn h
abbrev c_impl_semiJoin_fn1_0 : List GOp := [oo 5 (.mv (cb  false))]
abbrev c_impl_semiJoin_fn1_1 : List GOp := [oo 6 (.ldn 2 (tt 1)), oo 7 (.ldn 2 (tt 2)), oo 8 (.ld (tt 3)), oo 9 (.mv (tt 0)), oo 10 (.call (ff 63) [tt 6, tt 7, tt 8, tt 9]), oo 5 (.mv (tt 10))]
abbrev c_impl_semiJoin_fn1 : GCode := .seq (.reg c_impl_semiJoin_fn1_0) (.seq (.reg c_impl_semiJoin_fn1_1) (.ret))
theorem c_impl_semiJoin_fn1_d : decFn Try.prog Try.f70 = some (11, [.t 5], c_impl_semiJoin_fn1) := by kernel_rfl
theorem c_impl_semiJoin_fn1_i {args : List Value} {G : GH} {K : Value → GH → Prop} (hn : args.length ≤ 11) (h : gW Try.prog c_impl_semiJoin_fn1 (RetK [.t 5] K) (T0 args) G) : GC Try.prog 70 args G K := GC_intro mixed Try.func70 c_impl_semiJoin_fn1_d hn h
abbrev c_impl_within_0 : List GOp := [oo 6 (.mv (cb  false))]
abbrev c_impl_within_1 : List GOp := [oo 7 (.mv (tt 0)), oo 8 (.mv (tt 1)), oo 9 (.bin .geq (tt 7) (tt 8)), oo 10 (.mv (tt 9)), og 11 10 true (.mv (tt 0)), og 12 10 true (.mv (tt 2)), og 13 10 true (.bin .leq (tt 11) (tt 12)), oo 14 (.pick (tt 10) (tt 13) (cb  false)), oo 6 (.mv (tt 14))]
abbrev c_impl_within : GCode := .seq (.reg c_impl_within_0) (.seq (.reg c_impl_within_1) (.ret))
theorem c_impl_within_d : decFn Try.prog Try.f102 = some (15, [.t 6], c_impl_within) := by kernel_rfl
theorem c_impl_within_i {args : List Value} {G : GH} {K : Value → GH → Prop} (hn : args.length ≤ 15) (h : gW Try.prog c_impl_within (RetK [.t 6] K) (T0 args) G) : GC Try.prog 102 args G K := GC_intro mixed Try.func102 c_impl_within_d hn h
abbrev c_impl_without_0 : List GOp := [oo 3 (.bx (tt 1)), oo 4 (.mv (.const (.slice none 0 0)))]
abbrev c_impl_without_1 : List GOp := [oo 5 (.mv (tt 0)), oo 6 (.call (ff 35) [tt 5]), oo 7 (.mf (.func 105) [] [tt 3]), oo 8 (.call (ff 104) [tt 6, tt 7]), oo 4 (.mv (tt 8))]
abbrev c_impl_without : GCode := .seq (.reg c_impl_without_0) (.seq (.reg c_impl_without_1) (.ret))
theorem c_impl_without_d : decFn Try.prog Try.f96 = some (9, [.t 4], c_impl_without) := by kernel_rfl
theorem c_impl_without_i {args : List Value} {G : GH} {K : Value → GH → Prop} (hn : args.length ≤ 9) (h : gW Try.prog c_impl_without (RetK [.t 4] K) (T0 args) G) : GC Try.prog 96 args G K := GC_intro mixed Try.func96 c_impl_without_d hn h
abbrev c_impl_without_fn1_0 : List GOp := [oo 3 (.mv (cb  false))]
abbrev c_impl_without_fn1_1 : List GOp := [oo 4 (.ld (tt 1)), oo 5 (.mv (tt 0)), oo 6 (.call (ff 80) [tt 4, tt 5]), oo 3 (.mv (tt 6))]
abbrev c_impl_without_fn1 : GCode := .seq (.reg c_impl_without_fn1_0) (.seq (.reg c_impl_without_fn1_1) (.ret))
theorem c_impl_without_fn1_d : decFn Try.prog Try.f105 = some (7, [.t 3], c_impl_without_fn1) := by kernel_rfl
theorem c_impl_without_fn1_i {args : List Value} {G : GH} {K : Value → GH → Prop} (hn : args.length ≤ 7) (h : gW Try.prog c_impl_without_fn1 (RetK [.t 3] K) (T0 args) G) : GC Try.prog 105 args G K := GC_intro mixed Try.func105 c_impl_without_fn1_d hn h
abbrev c_laws_FnExactReduceTables_0 : List GOp := [oo 2 (.mv (cb  false))]
abbrev c_laws_FnExactReduceTables_1 : List GOp := [oo 3 (.mv (ci 1048576))]
abbrev c_laws_FnExactReduceTables_2 : List GOp := [oo 14 (.mv (tt 0)), oo 15 (.mv (tt 3)), oo 16 (.call (ff 8) [tt 14, tt 15]), oo 3 (.mv (tt 16))]
abbrev c_laws_FnExactReduceTables_3 : List GOp := [oo 17 (.mv (tt 3)), oo 18 (.bin .lss (tt 17) (ci 0))]
abbrev c_laws_FnExactReduceTables_4 : List GOp := [oo 2 (.mv (cb  true))]
abbrev c_laws_FnExactReduceTables_5 : List GOp := [oo 20 (.mv (tt 0)), oo 21 (.call (ff 10) [tt 20]), oo 22 (.call (ff 9) [tt 21]), oo 19 (.mv (tt 22)), oo 23 (.ex 0 (tt 19)), oo 24 (.ex 1 (tt 19)), oo 4 (.mv (tt 23)), oo 5 (.mv (tt 24))]
abbrev c_laws_FnExactReduceTables_6 : List GOp := [oo 25 (.mv (tt 0)), oo 26 (.call (ff 10) [tt 25]), oo 6 (.mv (tt 26))]
abbrev c_laws_FnExactReduceTables_7 : List GOp := [oo 28 (.mv (tt 6)), oo 29 (.call (ff 11) [tt 28]), oo 27 (.mv (tt 29)), oo 30 (.ex 0 (tt 27)), oo 31 (.ex 1 (tt 27)), oo 7 (.mv (tt 30)), oo 8 (.mv (tt 31))]
abbrev c_laws_FnExactReduceTables_8 : List GOp := [oo 32 (.mv (tt 7)), oo 33 (.mv (tt 4)), oo 34 (.call (ff 12) [tt 32, tt 33]), oo 35 (.un .not (tt 34)), oo 36 (.mv (tt 35)), og 37 36 false (.mv (tt 8)), og 38 36 false (.mv (tt 5)), og 39 36 false (.bin .neq (tt 37) (tt 38)), oo 40 (.pick (tt 36) (cb  true) (tt 39))]
abbrev c_laws_FnExactReduceTables_9 : List GOp := [oo 2 (.mv (cb  false))]
abbrev c_laws_FnExactReduceTables_10 : List GOp := [oo 41 (.mv (tt 6)), oo 42 (.mv (tt 0)), oo 43 (.call (ff 10) [tt 42]), oo 44 (.call (ff 12) [tt 41, tt 43]), oo 45 (.un .not (tt 44))]
abbrev c_laws_FnExactReduceTables_11 : List GOp := [oo 2 (.mv (cb  false))]
abbrev c_laws_FnExactReduceTables_12 : List GOp := [oo 9 (.mv (ci 1))]
abbrev c_laws_FnExactReduceTables_13 : List GOp := [oo 46 (.mv (tt 6)), oo 47 (.mv (tt 9)), oo 48 (.call (ff 13) [tt 46, tt 47]), oo 9 (.mv (tt 48))]
abbrev c_laws_FnExactReduceTables_14 : List GOp := [oo 49 (.mv (tt 9)), oo 50 (.bin .lss (tt 49) (ci 0)), oo 51 (.mv (tt 50)), og 52 51 false (.mv (tt 7)), og 53 51 false (.mv (tt 4)), og 54 51 false (.call (ff 12) [tt 52, tt 53]), og 55 51 false (.un .not (tt 54)), oo 56 (.pick (tt 51) (cb  true) (tt 55)), oo 57 (.mv (tt 56)), og 58 57 false (.mv (tt 8)), og 59 57 false (.mv (tt 5)), og 60 57 false (.bin .neq (tt 58) (tt 59)), oo 61 (.pick (tt 57) (cb  true) (tt 60))]
abbrev c_laws_FnExactReduceTables_15 : List GOp := [oo 2 (.mv (cb  false))]
abbrev c_laws_FnExactReduceTables_16 : List GOp := [oo 10 (.mv (ci 1))]
abbrev c_laws_FnExactReduceTables_17 : List GOp := [oo 62 (.mv (tt 7)), oo 63 (.mv (tt 10)), oo 64 (.call (ff 13) [tt 62, tt 63]), oo 10 (.mv (tt 64))]
abbrev c_laws_FnExactReduceTables_18 : List GOp := [oo 11 (.mv (ci 1))]
abbrev c_laws_FnExactReduceTables_19 : List GOp := [oo 65 (.mv (tt 7)), oo 66 (.mv (tt 11)), oo 67 (.call (ff 14) [tt 65, tt 66]), oo 11 (.mv (tt 67))]
abbrev c_laws_FnExactReduceTables_20 : List GOp := [oo 68 (.mv (tt 11)), oo 69 (.bin .lss (tt 68) (ci 0))]
abbrev c_laws_FnExactReduceTables_21 : List GOp := [oo 2 (.mv (cb  false))]
abbrev c_laws_FnExactReduceTables_22 : List GOp := [oo 70 (.mv (tt 11)), oo 71 (.mv (tt 10)), oo 72 (.bin .neq (tt 70) (tt 71))]
abbrev c_laws_FnExactReduceTables_23 : List GOp := [oo 2 (.mv (cb  false))]
abbrev c_laws_FnExactReduceTables_24 : List GOp := [oo 74 (.mv (tt 0)), oo 75 (.call (ff 10) [tt 74]), oo 76 (.call (ff 11) [tt 75]), oo 73 (.mv (tt 76)), oo 77 (.ex 0 (tt 73)), oo 78 (.ex 1 (tt 73)), oo 12 (.mv (tt 77)), oo 13 (.mv (tt 78))]
abbrev c_laws_FnExactReduceTables_25 : List GOp := [oo 79 (.mv (tt 12)), oo 80 (.mv (tt 4)), oo 81 (.call (ff 12) [tt 79, tt 80]), oo 82 (.un .not (tt 81)), oo 83 (.mv (tt 82)), og 84 83 false (.mv (tt 13)), og 85 83 false (.mv (tt 5)), og 86 83 false (.bin .neq (tt 84) (tt 85)), oo 87 (.pick (tt 83) (cb  true) (tt 86))]
abbrev c_laws_FnExactReduceTables_26 : List GOp := [oo 2 (.mv (cb  false))]
abbrev c_laws_FnExactReduceTables_27 : List GOp := [oo 11 (.mv (ci 1))]
abbrev c_laws_FnExactReduceTables_28 : List GOp := [oo 88 (.mv (tt 7)), oo 89 (.mv (tt 11)), oo 90 (.call (ff 14) [tt 88, tt 89]), oo 11 (.mv (tt 90))]
abbrev c_laws_FnExactReduceTables_29 : List GOp := [oo 91 (.mv (tt 11)), oo 92 (.bin .lss (tt 91) (ci 0))]
abbrev c_laws_FnExactReduceTables_30 : List GOp := [oo 2 (.mv (cb  false))]
abbrev c_laws_FnExactReduceTables_31 : List GOp := [oo 93 (.mv (tt 11)), oo 94 (.mv (tt 10)), oo 95 (.bin .neq (tt 93) (tt 94))]
abbrev c_laws_FnExactReduceTables_32 : List GOp := [oo 2 (.mv (cb  false))]
abbrev c_laws_FnExactReduceTables_33 : List GOp := [oo 2 (.mv (cb  true))]
abbrev c_laws_FnExactReduceTables : GCode := .seq (.reg c_laws_FnExactReduceTables_0) (.seq (.reg c_laws_FnExactReduceTables_1) (.seq (.reg c_laws_FnExactReduceTables_2) (.seq (.seq (.reg c_laws_FnExactReduceTables_3) (.cond (tt 18) (.seq (.reg c_laws_FnExactReduceTables_4) (.ret)) (.skip))) (.seq (.reg c_laws_FnExactReduceTables_5) (.seq (.reg c_laws_FnExactReduceTables_6) (.seq (.reg c_laws_FnExactReduceTables_7) (.seq (.seq (.reg c_laws_FnExactReduceTables_8) (.cond (tt 40) (.seq (.reg c_laws_FnExactReduceTables_9) (.ret)) (.skip))) (.seq (.seq (.reg c_laws_FnExactReduceTables_10) (.cond (tt 45) (.seq (.reg c_laws_FnExactReduceTables_11) (.ret)) (.skip))) (.seq (.reg c_laws_FnExactReduceTables_12) (.seq (.reg c_laws_FnExactReduceTables_13) (.seq (.seq (.reg c_laws_FnExactReduceTables_14) (.cond (tt 61) (.seq (.reg c_laws_FnExactReduceTables_15) (.ret)) (.skip))) (.seq (.reg c_laws_FnExactReduceTables_16) (.seq (.reg c_laws_FnExactReduceTables_17) (.seq (.reg c_laws_FnExactReduceTables_18) (.seq (.reg c_laws_FnExactReduceTables_19) (.seq (.seq (.reg c_laws_FnExactReduceTables_20) (.cond (tt 69) (.seq (.reg c_laws_FnExactReduceTables_21) (.ret)) (.skip))) (.seq (.seq (.reg c_laws_FnExactReduceTables_22) (.cond (tt 72) (.seq (.reg c_laws_FnExactReduceTables_23) (.ret)) (.skip))) (.seq (.reg c_laws_FnExactReduceTables_24) (.seq (.seq (.reg c_laws_FnExactReduceTables_25) (.cond (tt 87) (.seq (.reg c_laws_FnExactReduceTables_26) (.ret)) (.skip))) (.seq (.reg c_laws_FnExactReduceTables_27) (.seq (.reg c_laws_FnExactReduceTables_28) (.seq (.seq (.reg c_laws_FnExactReduceTables_29) (.cond (tt 92) (.seq (.reg c_laws_FnExactReduceTables_30) (.ret)) (.skip))) (.seq (.seq (.reg c_laws_FnExactReduceTables_31) (.cond (tt 95) (.seq (.reg c_laws_FnExactReduceTables_32) (.ret)) (.skip))) (.seq (.reg c_laws_FnExactReduceTables_33) (.ret)))))))))))))))))))))))))
theorem c_laws_FnExactReduceTables_d : decFn Try.prog Try.f3 = some (96, [.t 2], c_laws_FnExactReduceTables) := by kernel_rfl
theorem c_laws_FnExactReduceTables_i {args : List Value} {G : GH} {K : Value → GH → Prop} (hn : args.length ≤ 96) (h : gW Try.prog c_laws_FnExactReduceTables (RetK [.t 2] K) (T0 args) G) : GC Try.prog 3 args G K := GC_intro mixed Try.func3 c_laws_FnExactReduceTables_d hn h
abbrev c_laws_eqInt64S_0 : List GOp := [oo 4 (.mv (cb  false))]
abbrev c_laws_eqInt64S_1 : List GOp := [oo 6 (.mv (tt 0)), oo 7 (.len (tt 6)), oo 8 (.mv (tt 1)), oo 9 (.len (tt 8)), oo 10 (.bin .neq (tt 7) (tt 9))]
abbrev c_laws_eqInt64S_2 : List GOp := [oo 4 (.mv (cb  false))]
abbrev c_laws_eqInt64S_3 : List GOp := [oo 5 (.mv (ci 0))]
abbrev c_laws_eqInt64S_4 : List GOp := [oo 11 (.mv (tt 5)), oo 12 (.mv (tt 0)), oo 13 (.len (tt 12)), oo 14 (.bin .lss (tt 11) (tt 13))]
abbrev c_laws_eqInt64S_5 : List DOp := [dl 0 (oo 17 (.mv (tt 0))), dl 1 (oo 18 (.mv (tt 5))), dl 2 (oo 19 (.ia 1 (tt 17) (tt 18))), dl 3 (oo 20 (.ld (tt 19))), dl 4 (oo 21 (.mv (tt 1))), dl 5 (oo 22 (.mv (tt 5))), dl 6 (oo 23 (.ia 1 (tt 21) (tt 22))), dl 7 (oo 24 (.ld (tt 23))), dl 8 (oo 25 (.bin .neq (tt 20) (tt 24)))]
abbrev c_laws_eqInt64S_6 : List GOp := [oo 4 (.mv (cb  false))]
abbrev c_laws_eqInt64S_7 : List GOp := [oo 15 (.mv (tt 5)), oo 16 (.bin .add (tt 15) (ci 1)), oo 5 (.mv (tt 16))]
abbrev c_laws_eqInt64S_l0 : GCode := .seq (.seq (.reg c_laws_eqInt64S_4) (.cond (tt 14) (.skip) (.exit 0))) (.seq (.blk 1 (.seq (.dreg c_laws_eqInt64S_5) (.cond (tt 25) (.seq (.reg c_laws_eqInt64S_6) (.ret)) (.skip)))) (.reg c_laws_eqInt64S_7))
abbrev c_laws_eqInt64S_9 : List GOp := [oo 4 (.mv (cb  true))]
abbrev c_laws_eqInt64S : GCode := .seq (.reg c_laws_eqInt64S_0) (.seq (.seq (.reg c_laws_eqInt64S_1) (.cond (tt 10) (.seq (.reg c_laws_eqInt64S_2) (.ret)) (.skip))) (.seq (.seq (.reg c_laws_eqInt64S_3) (.blk 0 (.loop c_laws_eqInt64S_l0))) (.seq (.reg c_laws_eqInt64S_9) (.ret))))
theorem c_laws_eqInt64S_d : decFn Try.prog Try.f23 = some (26, [.t 4], c_laws_eqInt64S) := by kernel_rfl
theorem c_laws_eqInt64S_i {args : List Value} {G : GH} {K : Value → GH → Prop} (hn : args.length ≤ 26) (h : gW Try.prog c_laws_eqInt64S (RetK [.t 4] K) (T0 args) G) : GC Try.prog 23 args G K := GC_intro mixed Try.func23 c_laws_eqInt64S_d hn h
abbrev c_laws_eqInt64SS_0 : List GOp := [oo 4 (.mv (cb  false))]
abbrev c_laws_eqInt64SS_1 : List GOp := [oo 6 (.mv (tt 0)), oo 7 (.len (tt 6)), oo 8 (.mv (tt 1)), oo 9 (.len (tt 8)), oo 10 (.bin .neq (tt 7) (tt 9))]
abbrev c_laws_eqInt64SS_2 : List GOp := [oo 4 (.mv (cb  false))]
abbrev c_laws_eqInt64SS_3 : List GOp := [oo 5 (.mv (ci 0))]
abbrev c_laws_eqInt64SS_4 : List GOp := [oo 11 (.mv (tt 5)), oo 12 (.mv (tt 0)), oo 13 (.len (tt 12)), oo 14 (.bin .lss (tt 11) (tt 13))]
abbrev c_laws_eqInt64SS_5 : List DOp := [dl 0 (oo 17 (.mv (tt 0))), dl 1 (oo 18 (.mv (tt 5))), dl 2 (oo 19 (.ia 1 (tt 17) (tt 18))), dl 3 (oo 20 (.ld (tt 19))), dl 4 (oo 21 (.mv (tt 1))), dl 5 (oo 22 (.mv (tt 5))), dl 6 (oo 23 (.ia 1 (tt 21) (tt 22))), dl 7 (oo 24 (.ld (tt 23))), dh 8 [] (oo 25 (.call (ff 23) [tt 20, tt 24])), dl 9 (oo 26 (.un .not (tt 25)))]
abbrev c_laws_eqInt64SS_6 : List GOp := [oo 4 (.mv (cb  false))]
abbrev c_laws_eqInt64SS_7 : List GOp := [oo 15 (.mv (tt 5)), oo 16 (.bin .add (tt 15) (ci 1)), oo 5 (.mv (tt 16))]
abbrev c_laws_eqInt64SS_l0 : GCode := .seq (.seq (.reg c_laws_eqInt64SS_4) (.cond (tt 14) (.skip) (.exit 0))) (.seq (.blk 1 (.seq (.dreg c_laws_eqInt64SS_5) (.cond (tt 26) (.seq (.reg c_laws_eqInt64SS_6) (.ret)) (.skip)))) (.reg c_laws_eqInt64SS_7))
abbrev c_laws_eqInt64SS_9 : List GOp := [oo 4 (.mv (cb  true))]
abbrev c_laws_eqInt64SS : GCode := .seq (.reg c_laws_eqInt64SS_0) (.seq (.seq (.reg c_laws_eqInt64SS_1) (.cond (tt 10) (.seq (.reg c_laws_eqInt64SS_2) (.ret)) (.skip))) (.seq (.seq (.reg c_laws_eqInt64SS_3) (.blk 0 (.loop c_laws_eqInt64SS_l0))) (.seq (.reg c_laws_eqInt64SS_9) (.ret))))
theorem c_laws_eqInt64SS_d : decFn Try.prog Try.f48 = some (27, [.t 4], c_laws_eqInt64SS) := by kernel_rfl
theorem c_laws_eqInt64SS_i {args : List Value} {G : GH} {K : Value → GH → Prop} (hn : args.length ≤ 27) (h : gW Try.prog c_laws_eqInt64SS (RetK [.t 4] K) (T0 args) G) : GC Try.prog 48 args G K := GC_intro mixed Try.func48 c_laws_eqInt64SS_d hn h
abbrev c_laws_eqTable_0 : List GOp := [oo 2 (.bx (tt 0)), oo 3 (.bx (tt 1)), oo 4 (.mv (cb  false))]
abbrev c_laws_eqTable_1 : List GOp := [oo 5 (.fa 0 (tt 2)), oo 6 (.ld (tt 5)), oo 7 (.fa 0 (tt 3)), oo 8 (.ld (tt 7)), oo 9 (.call (ff 23) [tt 6, tt 8]), oo 10 (.un .not (tt 9))]
abbrev c_laws_eqTable_2 : List GOp := [oo 4 (.mv (cb  false))]
abbrev c_laws_eqTable_3 : List GOp := [oo 11 (.fa 1 (tt 2)), oo 12 (.ld (tt 11)), oo 13 (.fa 1 (tt 3)), oo 14 (.ld (tt 13)), oo 15 (.call (ff 48) [tt 12, tt 14]), oo 16 (.un .not (tt 15))]
abbrev c_laws_eqTable_4 : List GOp := [oo 4 (.mv (cb  false))]
abbrev c_laws_eqTable_5 : List GOp := [oo 4 (.mv (cb  true))]
abbrev c_laws_eqTable : GCode := .seq (.reg c_laws_eqTable_0) (.seq (.seq (.reg c_laws_eqTable_1) (.cond (tt 10) (.seq (.reg c_laws_eqTable_2) (.ret)) (.skip))) (.seq (.seq (.reg c_laws_eqTable_3) (.cond (tt 16) (.seq (.reg c_laws_eqTable_4) (.ret)) (.skip))) (.seq (.reg c_laws_eqTable_5) (.ret))))
theorem c_laws_eqTable_d : decFn Try.prog Try.f19 = some (17, [.t 4], c_laws_eqTable) := by kernel_rfl
theorem c_laws_eqTable_i {args : List Value} {G : GH} {K : Value → GH → Prop} (hn : args.length ≤ 17) (h : gW Try.prog c_laws_eqTable (RetK [.t 4] K) (T0 args) G) : GC Try.prog 19 args G K := GC_intro mixed Try.func19 c_laws_eqTable_d hn h
abbrev c_laws_eqTableS_0 : List GOp := [oo 4 (.mv (cb  false))]
abbrev c_laws_eqTableS_1 : List GOp := [oo 6 (.mv (tt 0)), oo 7 (.len (tt 6)), oo 8 (.mv (tt 1)), oo 9 (.len (tt 8)), oo 10 (.bin .neq (tt 7) (tt 9))]
abbrev c_laws_eqTableS_2 : List GOp := [oo 4 (.mv (cb  false))]
abbrev c_laws_eqTableS_3 : List GOp := [oo 5 (.mv (ci 0))]
abbrev c_laws_eqTableS_4 : List GOp := [oo 11 (.mv (tt 5)), oo 12 (.mv (tt 0)), oo 13 (.len (tt 12)), oo 14 (.bin .lss (tt 11) (tt 13))]
abbrev c_laws_eqTableS_5 : List DOp := [dl 0 (oo 17 (.mv (tt 0))), dl 1 (oo 18 (.mv (tt 5))), dl 2 (oo 19 (.ia 2 (tt 17) (tt 18))), dl 3 (oo 20 (.ldn 2 (tt 19))), dl 4 (oo 21 (.mv (tt 1))), dl 5 (oo 22 (.mv (tt 5))), dl 6 (oo 23 (.ia 2 (tt 21) (tt 22))), dl 7 (oo 24 (.ldn 2 (tt 23))), dh 8 [] (oo 25 (.call (ff 19) [tt 20, tt 24])), dl 9 (oo 26 (.un .not (tt 25)))]
abbrev c_laws_eqTableS_6 : List GOp := [oo 4 (.mv (cb  false))]
abbrev c_laws_eqTableS_7 : List GOp := [oo 15 (.mv (tt 5)), oo 16 (.bin .add (tt 15) (ci 1)), oo 5 (.mv (tt 16))]
abbrev c_laws_eqTableS_l0 : GCode := .seq (.seq (.reg c_laws_eqTableS_4) (.cond (tt 14) (.skip) (.exit 0))) (.seq (.blk 1 (.seq (.dreg c_laws_eqTableS_5) (.cond (tt 26) (.seq (.reg c_laws_eqTableS_6) (.ret)) (.skip)))) (.reg c_laws_eqTableS_7))
abbrev c_laws_eqTableS_9 : List GOp := [oo 4 (.mv (cb  true))]
abbrev c_laws_eqTableS : GCode := .seq (.reg c_laws_eqTableS_0) (.seq (.seq (.reg c_laws_eqTableS_1) (.cond (tt 10) (.seq (.reg c_laws_eqTableS_2) (.ret)) (.skip))) (.seq (.seq (.reg c_laws_eqTableS_3) (.blk 0 (.loop c_laws_eqTableS_l0))) (.seq (.reg c_laws_eqTableS_9) (.ret))))
theorem c_laws_eqTableS_d : decFn Try.prog Try.f12 = some (27, [.t 4], c_laws_eqTableS) := by kernel_rfl
theorem c_laws_eqTableS_i {args : List Value} {G : GH} {K : Value → GH → Prop} (hn : args.length ≤ 27) (h : gW Try.prog c_laws_eqTableS (RetK [.t 4] K) (T0 args) G) : GC Try.prog 12 args G K := GC_intro mixed Try.func12 c_laws_eqTableS_d hn h
abbrev c_laws_heldInt64S_0 : List GOp := [oo 4 (.mv (ci 0))]
abbrev c_laws_heldInt64S_1 : List GOp := [oo 5 (.mv (ci 0))]
abbrev c_laws_heldInt64S_2 : List GOp := [oo 6 (.mv (tt 5)), oo 7 (.mv (tt 0)), oo 8 (.len (tt 7)), oo 9 (.bin .lss (tt 6) (tt 8))]
abbrev c_laws_heldInt64S_3 : List GOp := [oo 12 (.mv (tt 0)), oo 13 (.mv (tt 5)), oo 14 (.ia 1 (tt 12) (tt 13)), oo 15 (.ld (tt 14)), oo 16 (.mv (tt 1)), oo 17 (.bin .neq (tt 15) (tt 16))]
abbrev c_laws_heldInt64S_4 : List GOp := [oo 4 (.mv (ci (-1)))]
abbrev c_laws_heldInt64S_5 : List GOp := [oo 18 (.mv (tt 1)), oo 19 (.bin .add (tt 18) (ci 1)), oo 1 (.mv (tt 19))]
abbrev c_laws_heldInt64S_6 : List GOp := [oo 10 (.mv (tt 5)), oo 11 (.bin .add (tt 10) (ci 1)), oo 5 (.mv (tt 11))]
abbrev c_laws_heldInt64S_l0 : GCode := .seq (.seq (.reg c_laws_heldInt64S_2) (.cond (tt 9) (.skip) (.exit 0))) (.seq (.blk 1 (.seq (.seq (.reg c_laws_heldInt64S_3) (.cond (tt 17) (.seq (.reg c_laws_heldInt64S_4) (.ret)) (.skip))) (.reg c_laws_heldInt64S_5))) (.reg c_laws_heldInt64S_6))
abbrev c_laws_heldInt64S_8 : List GOp := [oo 20 (.mv (tt 1)), oo 4 (.mv (tt 20))]
abbrev c_laws_heldInt64S : GCode := .seq (.reg c_laws_heldInt64S_0) (.seq (.seq (.reg c_laws_heldInt64S_1) (.blk 0 (.loop c_laws_heldInt64S_l0))) (.seq (.reg c_laws_heldInt64S_8) (.ret)))
theorem c_laws_heldInt64S_d : decFn Try.prog Try.f39 = some (21, [.t 4], c_laws_heldInt64S) := by kernel_rfl
theorem c_laws_heldInt64S_i {args : List Value} {G : GH} {K : Value → GH → Prop} (hn : args.length ≤ 21) (h : gW Try.prog c_laws_heldInt64S (RetK [.t 4] K) (T0 args) G) : GC Try.prog 39 args G K := GC_intro mixed Try.func39 c_laws_heldInt64S_d hn h
abbrev c_laws_heldInt64SS_0 : List GOp := [oo 4 (.mv (ci 0))]
abbrev c_laws_heldInt64SS_1 : List GOp := [oo 5 (.mv (ci 0))]
abbrev c_laws_heldInt64SS_2 : List GOp := [oo 6 (.mv (tt 5)), oo 7 (.mv (tt 0)), oo 8 (.len (tt 7)), oo 9 (.bin .lss (tt 6) (tt 8))]
abbrev c_laws_heldInt64SS_3 : List GOp := [oo 12 (.mv (tt 0)), oo 13 (.mv (tt 5)), oo 14 (.ia 1 (tt 12) (tt 13)), oo 15 (.ld (tt 14)), oo 16 (.mv (tt 1)), oo 17 (.call (ff 39) [tt 15, tt 16]), oo 1 (.mv (tt 17))]
abbrev c_laws_heldInt64SS_4 : List GOp := [oo 18 (.mv (tt 1)), oo 19 (.bin .lss (tt 18) (ci 0))]
abbrev c_laws_heldInt64SS_5 : List GOp := [oo 4 (.mv (ci (-1)))]
abbrev c_laws_heldInt64SS_6 : List GOp := [oo 10 (.mv (tt 5)), oo 11 (.bin .add (tt 10) (ci 1)), oo 5 (.mv (tt 11))]
abbrev c_laws_heldInt64SS_l0 : GCode := .seq (.seq (.reg c_laws_heldInt64SS_2) (.cond (tt 9) (.skip) (.exit 0))) (.seq (.blk 1 (.seq (.reg c_laws_heldInt64SS_3) (.seq (.reg c_laws_heldInt64SS_4) (.cond (tt 19) (.seq (.reg c_laws_heldInt64SS_5) (.ret)) (.skip))))) (.reg c_laws_heldInt64SS_6))
abbrev c_laws_heldInt64SS_8 : List GOp := [oo 20 (.mv (tt 1)), oo 4 (.mv (tt 20))]
abbrev c_laws_heldInt64SS : GCode := .seq (.reg c_laws_heldInt64SS_0) (.seq (.seq (.reg c_laws_heldInt64SS_1) (.blk 0 (.loop c_laws_heldInt64SS_l0))) (.seq (.reg c_laws_heldInt64SS_8) (.ret)))
theorem c_laws_heldInt64SS_d : decFn Try.prog Try.f40 = some (21, [.t 4], c_laws_heldInt64SS) := by kernel_rfl
theorem c_laws_heldInt64SS_i {args : List Value} {G : GH} {K : Value → GH → Prop} (hn : args.length ≤ 21) (h : gW Try.prog c_laws_heldInt64SS (RetK [.t 4] K) (T0 args) G) : GC Try.prog 40 args G K := GC_intro mixed Try.func40 c_laws_heldInt64SS_d hn h
abbrev c_laws_heldTableS_0 : List GOp := [oo 4 (.mv (ci 0))]
abbrev c_laws_heldTableS_1 : List GOp := [oo 5 (.mv (ci 0))]
abbrev c_laws_heldTableS_2 : List GOp := [oo 6 (.mv (tt 5)), oo 7 (.mv (tt 0)), oo 8 (.len (tt 7)), oo 9 (.bin .lss (tt 6) (tt 8))]
abbrev c_laws_heldTableS_3 : List GOp := [oo 12 (.mv (tt 0)), oo 13 (.mv (tt 5)), oo 14 (.ia 2 (tt 12) (tt 13)), oo 15 (.fa 0 (tt 14)), oo 16 (.ld (tt 15)), oo 17 (.mv (tt 1)), oo 18 (.call (ff 39) [tt 16, tt 17]), oo 1 (.mv (tt 18))]
abbrev c_laws_heldTableS_4 : List GOp := [oo 19 (.mv (tt 1)), oo 20 (.bin .lss (tt 19) (ci 0))]
abbrev c_laws_heldTableS_5 : List GOp := [oo 4 (.mv (ci (-1)))]
abbrev c_laws_heldTableS_6 : List GOp := [oo 21 (.mv (tt 0)), oo 22 (.mv (tt 5)), oo 23 (.ia 2 (tt 21) (tt 22)), oo 24 (.fa 1 (tt 23)), oo 25 (.ld (tt 24)), oo 26 (.mv (tt 1)), oo 27 (.call (ff 40) [tt 25, tt 26]), oo 1 (.mv (tt 27))]
abbrev c_laws_heldTableS_7 : List GOp := [oo 28 (.mv (tt 1)), oo 29 (.bin .lss (tt 28) (ci 0))]
abbrev c_laws_heldTableS_8 : List GOp := [oo 4 (.mv (ci (-1)))]
abbrev c_laws_heldTableS_9 : List GOp := [oo 10 (.mv (tt 5)), oo 11 (.bin .add (tt 10) (ci 1)), oo 5 (.mv (tt 11))]
abbrev c_laws_heldTableS_l0 : GCode := .seq (.seq (.reg c_laws_heldTableS_2) (.cond (tt 9) (.skip) (.exit 0))) (.seq (.blk 1 (.seq (.reg c_laws_heldTableS_3) (.seq (.seq (.reg c_laws_heldTableS_4) (.cond (tt 20) (.seq (.reg c_laws_heldTableS_5) (.ret)) (.skip))) (.seq (.reg c_laws_heldTableS_6) (.seq (.reg c_laws_heldTableS_7) (.cond (tt 29) (.seq (.reg c_laws_heldTableS_8) (.ret)) (.skip))))))) (.reg c_laws_heldTableS_9))
abbrev c_laws_heldTableS_11 : List GOp := [oo 30 (.mv (tt 1)), oo 4 (.mv (tt 30))]
abbrev c_laws_heldTableS : GCode := .seq (.reg c_laws_heldTableS_0) (.seq (.seq (.reg c_laws_heldTableS_1) (.blk 0 (.loop c_laws_heldTableS_l0))) (.seq (.reg c_laws_heldTableS_11) (.ret)))
theorem c_laws_heldTableS_d : decFn Try.prog Try.f14 = some (31, [.t 4], c_laws_heldTableS) := by kernel_rfl
theorem c_laws_heldTableS_i {args : List Value} {G : GH} {K : Value → GH → Prop} (hn : args.length ≤ 31) (h : gW Try.prog c_laws_heldTableS (RetK [.t 4] K) (T0 args) G) : GC Try.prog 14 args G K := GC_intro mixed Try.func14 c_laws_heldTableS_d hn h
abbrev c_laws_markInt64S_0 : List GOp := [oo 4 (.mv (ci 0))]
abbrev c_laws_markInt64S_1 : List GOp := [oo 5 (.mv (ci 0))]
abbrev c_laws_markInt64S_2 : List GOp := [oo 6 (.mv (tt 5)), oo 7 (.mv (tt 0)), oo 8 (.len (tt 7)), oo 9 (.bin .lss (tt 6) (tt 8))]
abbrev c_laws_markInt64S_3 : List GOp := [oo 12 (.mv (tt 0)), oo 13 (.mv (tt 5)), oo 14 (.mv (tt 1)), oo 15 (.ia 1 (tt 12) (tt 13)), on (.st 1 (tt 15) (tt 14))]
abbrev c_laws_markInt64S_4 : List GOp := [oo 16 (.mv (tt 1)), oo 17 (.bin .add (tt 16) (ci 1)), oo 1 (.mv (tt 17))]
abbrev c_laws_markInt64S_5 : List GOp := [oo 10 (.mv (tt 5)), oo 11 (.bin .add (tt 10) (ci 1)), oo 5 (.mv (tt 11))]
abbrev c_laws_markInt64S_l0 : GCode := .seq (.seq (.reg c_laws_markInt64S_2) (.cond (tt 9) (.skip) (.exit 0))) (.seq (.blk 1 (.seq (.reg c_laws_markInt64S_3) (.reg c_laws_markInt64S_4))) (.reg c_laws_markInt64S_5))
abbrev c_laws_markInt64S_7 : List GOp := [oo 18 (.mv (tt 1)), oo 4 (.mv (tt 18))]
abbrev c_laws_markInt64S : GCode := .seq (.reg c_laws_markInt64S_0) (.seq (.seq (.reg c_laws_markInt64S_1) (.blk 0 (.loop c_laws_markInt64S_l0))) (.seq (.reg c_laws_markInt64S_7) (.ret)))
theorem c_laws_markInt64S_d : decFn Try.prog Try.f25 = some (19, [.t 4], c_laws_markInt64S) := by kernel_rfl
theorem c_laws_markInt64S_i {args : List Value} {G : GH} {K : Value → GH → Prop} (hn : args.length ≤ 19) (h : gW Try.prog c_laws_markInt64S (RetK [.t 4] K) (T0 args) G) : GC Try.prog 25 args G K := GC_intro mixed Try.func25 c_laws_markInt64S_d hn h
abbrev c_laws_markInt64SS_0 : List GOp := [oo 4 (.mv (ci 0))]
abbrev c_laws_markInt64SS_1 : List GOp := [oo 5 (.mv (ci 0))]
abbrev c_laws_markInt64SS_2 : List GOp := [oo 6 (.mv (tt 5)), oo 7 (.mv (tt 0)), oo 8 (.len (tt 7)), oo 9 (.bin .lss (tt 6) (tt 8))]
abbrev c_laws_markInt64SS_3 : List GOp := [oo 12 (.mv (tt 0)), oo 13 (.mv (tt 5)), oo 14 (.ia 1 (tt 12) (tt 13)), oo 15 (.ld (tt 14)), oo 16 (.mv (tt 1)), oo 17 (.call (ff 25) [tt 15, tt 16]), oo 1 (.mv (tt 17))]
abbrev c_laws_markInt64SS_4 : List GOp := [oo 10 (.mv (tt 5)), oo 11 (.bin .add (tt 10) (ci 1)), oo 5 (.mv (tt 11))]
abbrev c_laws_markInt64SS_l0 : GCode := .seq (.seq (.reg c_laws_markInt64SS_2) (.cond (tt 9) (.skip) (.exit 0))) (.seq (.blk 1 (.reg c_laws_markInt64SS_3)) (.reg c_laws_markInt64SS_4))
abbrev c_laws_markInt64SS_6 : List GOp := [oo 18 (.mv (tt 1)), oo 4 (.mv (tt 18))]
abbrev c_laws_markInt64SS : GCode := .seq (.reg c_laws_markInt64SS_0) (.seq (.seq (.reg c_laws_markInt64SS_1) (.blk 0 (.loop c_laws_markInt64SS_l0))) (.seq (.reg c_laws_markInt64SS_6) (.ret)))
theorem c_laws_markInt64SS_d : decFn Try.prog Try.f38 = some (19, [.t 4], c_laws_markInt64SS) := by kernel_rfl
theorem c_laws_markInt64SS_i {args : List Value} {G : GH} {K : Value → GH → Prop} (hn : args.length ≤ 19) (h : gW Try.prog c_laws_markInt64SS (RetK [.t 4] K) (T0 args) G) : GC Try.prog 38 args G K := GC_intro mixed Try.func38 c_laws_markInt64SS_d hn h
abbrev c_laws_markTableS_0 : List GOp := [oo 4 (.mv (ci 0))]
abbrev c_laws_markTableS_1 : List GOp := [oo 5 (.mv (ci 0))]
abbrev c_laws_markTableS_2 : List GOp := [oo 6 (.mv (tt 5)), oo 7 (.mv (tt 0)), oo 8 (.len (tt 7)), oo 9 (.bin .lss (tt 6) (tt 8))]
abbrev c_laws_markTableS_3 : List GOp := [oo 12 (.mv (tt 0)), oo 13 (.mv (tt 5)), oo 14 (.ia 2 (tt 12) (tt 13)), oo 15 (.fa 0 (tt 14)), oo 16 (.ld (tt 15)), oo 17 (.mv (tt 1)), oo 18 (.call (ff 25) [tt 16, tt 17]), oo 1 (.mv (tt 18))]
abbrev c_laws_markTableS_4 : List GOp := [oo 19 (.mv (tt 0)), oo 20 (.mv (tt 5)), oo 21 (.ia 2 (tt 19) (tt 20)), oo 22 (.fa 1 (tt 21)), oo 23 (.ld (tt 22)), oo 24 (.mv (tt 1)), oo 25 (.call (ff 38) [tt 23, tt 24]), oo 1 (.mv (tt 25))]
abbrev c_laws_markTableS_5 : List GOp := [oo 10 (.mv (tt 5)), oo 11 (.bin .add (tt 10) (ci 1)), oo 5 (.mv (tt 11))]
abbrev c_laws_markTableS_l0 : GCode := .seq (.seq (.reg c_laws_markTableS_2) (.cond (tt 9) (.skip) (.exit 0))) (.seq (.blk 1 (.seq (.reg c_laws_markTableS_3) (.reg c_laws_markTableS_4))) (.reg c_laws_markTableS_5))
abbrev c_laws_markTableS_7 : List GOp := [oo 26 (.mv (tt 1)), oo 4 (.mv (tt 26))]
abbrev c_laws_markTableS : GCode := .seq (.reg c_laws_markTableS_0) (.seq (.seq (.reg c_laws_markTableS_1) (.blk 0 (.loop c_laws_markTableS_l0))) (.seq (.reg c_laws_markTableS_7) (.ret)))
theorem c_laws_markTableS_d : decFn Try.prog Try.f13 = some (27, [.t 4], c_laws_markTableS) := by kernel_rfl
theorem c_laws_markTableS_i {args : List Value} {G : GH} {K : Value → GH → Prop} (hn : args.length ≤ 27) (h : gW Try.prog c_laws_markTableS (RetK [.t 4] K) (T0 args) G) : GC Try.prog 13 args G K := GC_intro mixed Try.func13 c_laws_markTableS_d hn h
abbrev c_laws_szInt64S_0 : List GOp := [oo 4 (.mv (ci 0))]
abbrev c_laws_szInt64S_1 : List GOp := [oo 5 (.mv (tt 1)), oo 6 (.mv (tt 0)), oo 7 (.len (tt 6)), oo 8 (.bin .sub (tt 5) (tt 7)), oo 1 (.mv (tt 8))]
abbrev c_laws_szInt64S_2 : List GOp := [oo 9 (.mv (tt 1)), oo 10 (.bin .lss (tt 9) (ci 0))]
abbrev c_laws_szInt64S_3 : List GOp := [oo 4 (.mv (ci (-1)))]
abbrev c_laws_szInt64S_4 : List GOp := [oo 11 (.mv (tt 1)), oo 4 (.mv (tt 11))]
abbrev c_laws_szInt64S : GCode := .seq (.reg c_laws_szInt64S_0) (.seq (.reg c_laws_szInt64S_1) (.seq (.seq (.reg c_laws_szInt64S_2) (.cond (tt 10) (.seq (.reg c_laws_szInt64S_3) (.ret)) (.skip))) (.seq (.reg c_laws_szInt64S_4) (.ret))))
theorem c_laws_szInt64S_d : decFn Try.prog Try.f41 = some (12, [.t 4], c_laws_szInt64S) := by kernel_rfl
theorem c_laws_szInt64S_i {args : List Value} {G : GH} {K : Value → GH → Prop} (hn : args.length ≤ 12) (h : gW Try.prog c_laws_szInt64S (RetK [.t 4] K) (T0 args) G) : GC Try.prog 41 args G K := GC_intro mixed Try.func41 c_laws_szInt64S_d hn h
abbrev c_laws_szInt64SS_0 : List GOp := [oo 4 (.mv (ci 0))]
abbrev c_laws_szInt64SS_1 : List GOp := [oo 6 (.mv (tt 1)), oo 7 (.mv (tt 0)), oo 8 (.len (tt 7)), oo 9 (.bin .sub (tt 6) (tt 8)), oo 1 (.mv (tt 9))]
abbrev c_laws_szInt64SS_2 : List GOp := [oo 10 (.mv (tt 1)), oo 11 (.bin .lss (tt 10) (ci 0))]
abbrev c_laws_szInt64SS_3 : List GOp := [oo 4 (.mv (ci (-1)))]
abbrev c_laws_szInt64SS_4 : List GOp := [oo 5 (.mv (ci 0))]
abbrev c_laws_szInt64SS_5 : List GOp := [oo 12 (.mv (tt 5)), oo 13 (.mv (tt 0)), oo 14 (.len (tt 13)), oo 15 (.bin .lss (tt 12) (tt 14))]
abbrev c_laws_szInt64SS_6 : List GOp := [oo 18 (.mv (tt 0)), oo 19 (.mv (tt 5)), oo 20 (.ia 1 (tt 18) (tt 19)), oo 21 (.ld (tt 20)), oo 22 (.mv (tt 1)), oo 23 (.call (ff 41) [tt 21, tt 22]), oo 1 (.mv (tt 23))]
abbrev c_laws_szInt64SS_7 : List GOp := [oo 24 (.mv (tt 1)), oo 25 (.bin .lss (tt 24) (ci 0))]
abbrev c_laws_szInt64SS_8 : List GOp := [oo 4 (.mv (ci (-1)))]
abbrev c_laws_szInt64SS_9 : List GOp := [oo 16 (.mv (tt 5)), oo 17 (.bin .add (tt 16) (ci 1)), oo 5 (.mv (tt 17))]
abbrev c_laws_szInt64SS_l0 : GCode := .seq (.seq (.reg c_laws_szInt64SS_5) (.cond (tt 15) (.skip) (.exit 0))) (.seq (.blk 1 (.seq (.reg c_laws_szInt64SS_6) (.seq (.reg c_laws_szInt64SS_7) (.cond (tt 25) (.seq (.reg c_laws_szInt64SS_8) (.ret)) (.skip))))) (.reg c_laws_szInt64SS_9))
abbrev c_laws_szInt64SS_11 : List GOp := [oo 26 (.mv (tt 1)), oo 4 (.mv (tt 26))]
abbrev c_laws_szInt64SS : GCode := .seq (.reg c_laws_szInt64SS_0) (.seq (.reg c_laws_szInt64SS_1) (.seq (.seq (.reg c_laws_szInt64SS_2) (.cond (tt 11) (.seq (.reg c_laws_szInt64SS_3) (.ret)) (.skip))) (.seq (.seq (.reg c_laws_szInt64SS_4) (.blk 0 (.loop c_laws_szInt64SS_l0))) (.seq (.reg c_laws_szInt64SS_11) (.ret)))))
theorem c_laws_szInt64SS_d : decFn Try.prog Try.f42 = some (27, [.t 4], c_laws_szInt64SS) := by kernel_rfl
theorem c_laws_szInt64SS_i {args : List Value} {G : GH} {K : Value → GH → Prop} (hn : args.length ≤ 27) (h : gW Try.prog c_laws_szInt64SS (RetK [.t 4] K) (T0 args) G) : GC Try.prog 42 args G K := GC_intro mixed Try.func42 c_laws_szInt64SS_d hn h
abbrev c_laws_szTable_0 : List GOp := [oo 2 (.bx (tt 0)), oo 4 (.mv (ci 0))]
abbrev c_laws_szTable_1 : List GOp := [oo 5 (.fa 0 (tt 2)), oo 6 (.ld (tt 5)), oo 7 (.mv (tt 1)), oo 8 (.call (ff 41) [tt 6, tt 7]), oo 1 (.mv (tt 8))]
abbrev c_laws_szTable_2 : List GOp := [oo 9 (.mv (tt 1)), oo 10 (.bin .lss (tt 9) (ci 0))]
abbrev c_laws_szTable_3 : List GOp := [oo 4 (.mv (ci (-1)))]
abbrev c_laws_szTable_4 : List GOp := [oo 11 (.fa 1 (tt 2)), oo 12 (.ld (tt 11)), oo 13 (.mv (tt 1)), oo 14 (.call (ff 42) [tt 12, tt 13]), oo 1 (.mv (tt 14))]
abbrev c_laws_szTable_5 : List GOp := [oo 15 (.mv (tt 1)), oo 16 (.bin .lss (tt 15) (ci 0))]
abbrev c_laws_szTable_6 : List GOp := [oo 4 (.mv (ci (-1)))]
abbrev c_laws_szTable_7 : List GOp := [oo 17 (.mv (tt 1)), oo 4 (.mv (tt 17))]
abbrev c_laws_szTable : GCode := .seq (.reg c_laws_szTable_0) (.seq (.reg c_laws_szTable_1) (.seq (.seq (.reg c_laws_szTable_2) (.cond (tt 10) (.seq (.reg c_laws_szTable_3) (.ret)) (.skip))) (.seq (.reg c_laws_szTable_4) (.seq (.seq (.reg c_laws_szTable_5) (.cond (tt 16) (.seq (.reg c_laws_szTable_6) (.ret)) (.skip))) (.seq (.reg c_laws_szTable_7) (.ret))))))
theorem c_laws_szTable_d : decFn Try.prog Try.f15 = some (18, [.t 4], c_laws_szTable) := by kernel_rfl
theorem c_laws_szTable_i {args : List Value} {G : GH} {K : Value → GH → Prop} (hn : args.length ≤ 18) (h : gW Try.prog c_laws_szTable (RetK [.t 4] K) (T0 args) G) : GC Try.prog 15 args G K := GC_intro mixed Try.func15 c_laws_szTable_d hn h
abbrev c_laws_szTableS_0 : List GOp := [oo 4 (.mv (ci 0))]
abbrev c_laws_szTableS_1 : List GOp := [oo 6 (.mv (tt 1)), oo 7 (.mv (tt 0)), oo 8 (.len (tt 7)), oo 9 (.bin .sub (tt 6) (tt 8)), oo 1 (.mv (tt 9))]
abbrev c_laws_szTableS_2 : List GOp := [oo 10 (.mv (tt 1)), oo 11 (.bin .lss (tt 10) (ci 0))]
abbrev c_laws_szTableS_3 : List GOp := [oo 4 (.mv (ci (-1)))]
abbrev c_laws_szTableS_4 : List GOp := [oo 5 (.mv (ci 0))]
abbrev c_laws_szTableS_5 : List GOp := [oo 12 (.mv (tt 5)), oo 13 (.mv (tt 0)), oo 14 (.len (tt 13)), oo 15 (.bin .lss (tt 12) (tt 14))]
abbrev c_laws_szTableS_6 : List GOp := [oo 18 (.mv (tt 0)), oo 19 (.mv (tt 5)), oo 20 (.ia 2 (tt 18) (tt 19)), oo 21 (.ldn 2 (tt 20)), oo 22 (.mv (tt 1)), oo 23 (.call (ff 15) [tt 21, tt 22]), oo 1 (.mv (tt 23))]
abbrev c_laws_szTableS_7 : List GOp := [oo 24 (.mv (tt 1)), oo 25 (.bin .lss (tt 24) (ci 0))]
abbrev c_laws_szTableS_8 : List GOp := [oo 4 (.mv (ci (-1)))]
abbrev c_laws_szTableS_9 : List GOp := [oo 16 (.mv (tt 5)), oo 17 (.bin .add (tt 16) (ci 1)), oo 5 (.mv (tt 17))]
abbrev c_laws_szTableS_l0 : GCode := .seq (.seq (.reg c_laws_szTableS_5) (.cond (tt 15) (.skip) (.exit 0))) (.seq (.blk 1 (.seq (.reg c_laws_szTableS_6) (.seq (.reg c_laws_szTableS_7) (.cond (tt 25) (.seq (.reg c_laws_szTableS_8) (.ret)) (.skip))))) (.reg c_laws_szTableS_9))
abbrev c_laws_szTableS_11 : List GOp := [oo 26 (.mv (tt 1)), oo 4 (.mv (tt 26))]
abbrev c_laws_szTableS : GCode := .seq (.reg c_laws_szTableS_0) (.seq (.reg c_laws_szTableS_1) (.seq (.seq (.reg c_laws_szTableS_2) (.cond (tt 11) (.seq (.reg c_laws_szTableS_3) (.ret)) (.skip))) (.seq (.seq (.reg c_laws_szTableS_4) (.blk 0 (.loop c_laws_szTableS_l0))) (.seq (.reg c_laws_szTableS_11) (.ret)))))
theorem c_laws_szTableS_d : decFn Try.prog Try.f8 = some (27, [.t 4], c_laws_szTableS) := by kernel_rfl
theorem c_laws_szTableS_i {args : List Value} {G : GH} {K : Value → GH → Prop} (hn : args.length ≤ 27) (h : gW Try.prog c_laws_szTableS (RetK [.t 4] K) (T0 args) G) : GC Try.prog 8 args G K := GC_intro mixed Try.func8 c_laws_szTableS_d hn h
abbrev c_laws_toInt64S_0 : List GOp := [oo 2 (.mv (.const (.slice none 0 0)))]
abbrev c_laws_toInt64S_1 : List GOp := [oo 5 (.mv (tt 0)), oo 6 (.len (tt 5)), oo 7 (.mk 1 8 [.int .i64 0] (tt 6) (tt 6)), oo 3 (.mv (tt 7))]
abbrev c_laws_toInt64S_2 : List GOp := [oo 4 (.mv (ci 0))]
abbrev c_laws_toInt64S_3 : List GOp := [oo 8 (.mv (tt 4)), oo 9 (.mv (tt 0)), oo 10 (.len (tt 9)), oo 11 (.bin .lss (tt 8) (tt 10))]
abbrev c_laws_toInt64S_4 : List GOp := [oo 14 (.mv (tt 3)), oo 15 (.mv (tt 4)), oo 16 (.mv (tt 0)), oo 17 (.mv (tt 4)), oo 18 (.ia 1 (tt 16) (tt 17)), oo 19 (.ld (tt 18)), oo 20 (.ia 1 (tt 14) (tt 15)), on (.st 1 (tt 20) (tt 19))]
abbrev c_laws_toInt64S_5 : List GOp := [oo 12 (.mv (tt 4)), oo 13 (.bin .add (tt 12) (ci 1)), oo 4 (.mv (tt 13))]
abbrev c_laws_toInt64S_l0 : GCode := .seq (.seq (.reg c_laws_toInt64S_3) (.cond (tt 11) (.skip) (.exit 0))) (.seq (.blk 1 (.reg c_laws_toInt64S_4)) (.reg c_laws_toInt64S_5))
abbrev c_laws_toInt64S_7 : List GOp := [oo 21 (.mv (tt 3)), oo 2 (.mv (tt 21))]
abbrev c_laws_toInt64S : GCode := .seq (.reg c_laws_toInt64S_0) (.seq (.reg c_laws_toInt64S_1) (.seq (.seq (.reg c_laws_toInt64S_2) (.blk 0 (.loop c_laws_toInt64S_l0))) (.seq (.reg c_laws_toInt64S_7) (.ret))))
theorem c_laws_toInt64S_d : decFn Try.prog Try.f21 = some (22, [.t 2], c_laws_toInt64S) := by kernel_rfl
theorem c_laws_toInt64S_i {args : List Value} {G : GH} {K : Value → GH → Prop} (hn : args.length ≤ 22) (h : gW Try.prog c_laws_toInt64S (RetK [.t 2] K) (T0 args) G) : GC Try.prog 21 args G K := GC_intro mixed Try.func21 c_laws_toInt64S_d hn h
abbrev c_laws_toInt64SS_0 : List GOp := [oo 2 (.mv (.const (.slice none 0 0)))]
abbrev c_laws_toInt64SS_1 : List GOp := [oo 5 (.mv (tt 0)), oo 6 (.len (tt 5)), oo 7 (.mk 1 24 [.slice none 0 0] (tt 6) (tt 6)), oo 3 (.mv (tt 7))]
abbrev c_laws_toInt64SS_2 : List GOp := [oo 4 (.mv (ci 0))]
abbrev c_laws_toInt64SS_3 : List GOp := [oo 8 (.mv (tt 4)), oo 9 (.mv (tt 0)), oo 10 (.len (tt 9)), oo 11 (.bin .lss (tt 8) (tt 10))]
abbrev c_laws_toInt64SS_4 : List GOp := [oo 14 (.mv (tt 3)), oo 15 (.mv (tt 4)), oo 16 (.mv (tt 0)), oo 17 (.mv (tt 4)), oo 18 (.ia 1 (tt 16) (tt 17)), oo 19 (.ld (tt 18)), oo 20 (.call (ff 21) [tt 19]), oo 21 (.ia 1 (tt 14) (tt 15)), on (.st 1 (tt 21) (tt 20))]
abbrev c_laws_toInt64SS_5 : List GOp := [oo 12 (.mv (tt 4)), oo 13 (.bin .add (tt 12) (ci 1)), oo 4 (.mv (tt 13))]
abbrev c_laws_toInt64SS_l0 : GCode := .seq (.seq (.reg c_laws_toInt64SS_3) (.cond (tt 11) (.skip) (.exit 0))) (.seq (.blk 1 (.reg c_laws_toInt64SS_4)) (.reg c_laws_toInt64SS_5))
abbrev c_laws_toInt64SS_7 : List GOp := [oo 22 (.mv (tt 3)), oo 2 (.mv (tt 22))]
abbrev c_laws_toInt64SS : GCode := .seq (.reg c_laws_toInt64SS_0) (.seq (.reg c_laws_toInt64SS_1) (.seq (.seq (.reg c_laws_toInt64SS_2) (.blk 0 (.loop c_laws_toInt64SS_l0))) (.seq (.reg c_laws_toInt64SS_7) (.ret))))
theorem c_laws_toInt64SS_d : decFn Try.prog Try.f45 = some (23, [.t 2], c_laws_toInt64SS) := by kernel_rfl
theorem c_laws_toInt64SS_i {args : List Value} {G : GH} {K : Value → GH → Prop} (hn : args.length ≤ 23) (h : gW Try.prog c_laws_toInt64SS (RetK [.t 2] K) (T0 args) G) : GC Try.prog 45 args G K := GC_intro mixed Try.func45 c_laws_toInt64SS_d hn h
abbrev c_laws_toTable_0 : List GOp := [oo 1 (.bx (tt 0)), oo 2 (.al [.slice none 0 0, .slice none 0 0])]
abbrev c_laws_toTable_1 : List GOp := [oo 3 (.al [.slice none 0 0, .slice none 0 0])]
abbrev c_laws_toTable_2 : List GOp := [oo 4 (.fa 0 (tt 1)), oo 5 (.ld (tt 4)), oo 6 (.call (ff 21) [tt 5]), oo 7 (.fa 0 (tt 3)), on (.st 1 (tt 7) (tt 6))]
abbrev c_laws_toTable_3 : List GOp := [oo 8 (.fa 1 (tt 1)), oo 9 (.ld (tt 8)), oo 10 (.call (ff 45) [tt 9]), oo 11 (.fa 1 (tt 3)), on (.st 1 (tt 11) (tt 10))]
abbrev c_laws_toTable_4 : List GOp := [oo 12 (.ldn 2 (tt 3)), on (.st 2 (tt 2) (tt 12))]
abbrev c_laws_toTable : GCode := .seq (.reg c_laws_toTable_0) (.seq (.reg c_laws_toTable_1) (.seq (.reg c_laws_toTable_2) (.seq (.reg c_laws_toTable_3) (.seq (.reg c_laws_toTable_4) (.ret)))))
theorem c_laws_toTable_d : decFn Try.prog Try.f17 = some (13, [.cn 2 2], c_laws_toTable) := by kernel_rfl
theorem c_laws_toTable_i {args : List Value} {G : GH} {K : Value → GH → Prop} (hn : args.length ≤ 13) (h : gW Try.prog c_laws_toTable (RetK [.cn 2 2] K) (T0 args) G) : GC Try.prog 17 args G K := GC_intro mixed Try.func17 c_laws_toTable_d hn h
abbrev c_laws_toTableS_0 : List GOp := [oo 2 (.mv (.const (.slice none 0 0)))]
abbrev c_laws_toTableS_1 : List GOp := [oo 5 (.mv (tt 0)), oo 6 (.len (tt 5)), oo 7 (.mk 2 48 [.slice none 0 0, .slice none 0 0] (tt 6) (tt 6)), oo 3 (.mv (tt 7))]
abbrev c_laws_toTableS_2 : List GOp := [oo 4 (.mv (ci 0))]
abbrev c_laws_toTableS_3 : List GOp := [oo 8 (.mv (tt 4)), oo 9 (.mv (tt 0)), oo 10 (.len (tt 9)), oo 11 (.bin .lss (tt 8) (tt 10))]
abbrev c_laws_toTableS_4 : List GOp := [oo 14 (.mv (tt 3)), oo 15 (.mv (tt 4)), oo 16 (.mv (tt 0)), oo 17 (.mv (tt 4)), oo 18 (.ia 2 (tt 16) (tt 17)), oo 19 (.ldn 2 (tt 18)), oo 20 (.call (ff 17) [tt 19]), oo 21 (.ia 2 (tt 14) (tt 15)), on (.st 2 (tt 21) (tt 20))]
abbrev c_laws_toTableS_5 : List GOp := [oo 12 (.mv (tt 4)), oo 13 (.bin .add (tt 12) (ci 1)), oo 4 (.mv (tt 13))]
abbrev c_laws_toTableS_l0 : GCode := .seq (.seq (.reg c_laws_toTableS_3) (.cond (tt 11) (.skip) (.exit 0))) (.seq (.blk 1 (.reg c_laws_toTableS_4)) (.reg c_laws_toTableS_5))
abbrev c_laws_toTableS_7 : List GOp := [oo 22 (.mv (tt 3)), oo 2 (.mv (tt 22))]
abbrev c_laws_toTableS : GCode := .seq (.reg c_laws_toTableS_0) (.seq (.reg c_laws_toTableS_1) (.seq (.seq (.reg c_laws_toTableS_2) (.blk 0 (.loop c_laws_toTableS_l0))) (.seq (.reg c_laws_toTableS_7) (.ret))))
theorem c_laws_toTableS_d : decFn Try.prog Try.f10 = some (23, [.t 2], c_laws_toTableS) := by kernel_rfl
theorem c_laws_toTableS_i {args : List Value} {G : GH} {K : Value → GH → Prop} (hn : args.length ≤ 23) (h : gW Try.prog c_laws_toTableS (RetK [.t 2] K) (T0 args) G) : GC Try.prog 10 args G K := GC_intro mixed Try.func10 c_laws_toTableS_d hn h
abbrev c_slices_Clone_int64_int64_0 : List GOp := [oo 2 (.mv (.const (.slice none 0 0)))]
abbrev c_slices_Clone_int64_int64_1 : List GOp := [oo 3 (.mv (tt 0)), oo 4 (.eqs false (tt 3) (.const (.slice none 0 0)))]
abbrev c_slices_Clone_int64_int64_2 : List GOp := [oo 2 (.mv (.const (.slice none 0 0)))]
abbrev c_slices_Clone_int64_int64_3 : List GOp := [oo 5 (.bs 1 []), oo 6 (.mv (tt 0)), oo 7 (.ap 1 8 [.int .i64 0] (tt 5) (tt 6)), oo 2 (.mv (tt 7))]
abbrev c_slices_Clone_int64_int64 : GCode := .seq (.reg c_slices_Clone_int64_int64_0) (.seq (.seq (.reg c_slices_Clone_int64_int64_1) (.cond (tt 4) (.seq (.reg c_slices_Clone_int64_int64_2) (.ret)) (.skip))) (.seq (.reg c_slices_Clone_int64_int64_3) (.ret)))
theorem c_slices_Clone_int64_int64_d : decFn Try.prog Try.f35 = some (8, [.t 2], c_slices_Clone_int64_int64) := by kernel_rfl
theorem c_slices_Clone_int64_int64_i {args : List Value} {G : GH} {K : Value → GH → Prop} (hn : args.length ≤ 8) (h : gW Try.prog c_slices_Clone_int64_int64 (RetK [.t 2] K) (T0 args) G) : GC Try.prog 35 args G K := GC_intro mixed Try.func35 c_slices_Clone_int64_int64_d hn h
abbrev c_slices_Compare_int64_int64_0 : List GOp := [oo 4 (.mv (ci 0))]
abbrev c_slices_Compare_int64_int64_1 : List GOp := [oo 9 (.mv (tt 0)), oo 10 (.len (tt 9)), oo 11 (.mv (ci 0))]
abbrev c_slices_Compare_int64_int64_2 : List GOp := [oo 12 (.bin .lss (tt 11) (tt 10))]
abbrev c_slices_Compare_int64_int64_3 : List GOp := [oo 13 (.mv (tt 11)), oo 14 (.ia 1 (tt 9) (tt 11)), oo 15 (.ld (tt 14)), oo 5 (.mv (tt 13)), oo 6 (.mv (tt 15))]
abbrev c_slices_Compare_int64_int64_4 : List GOp := [oo 16 (.mv (tt 5)), oo 17 (.mv (tt 1)), oo 18 (.len (tt 17)), oo 19 (.bin .geq (tt 16) (tt 18))]
abbrev c_slices_Compare_int64_int64_5 : List GOp := [oo 4 (.mv (ci 1))]
abbrev c_slices_Compare_int64_int64_6 : List GOp := [oo 20 (.mv (tt 1)), oo 21 (.mv (tt 5)), oo 22 (.ia 1 (tt 20) (tt 21)), oo 23 (.ld (tt 22)), oo 7 (.mv (tt 23))]
abbrev c_slices_Compare_int64_int64_7 : List GOp := [oo 24 (.mv (tt 6)), oo 25 (.mv (tt 7)), oo 26 (.call (ff 95) [tt 24, tt 25]), oo 8 (.mv (tt 26))]
abbrev c_slices_Compare_int64_int64_8 : List GOp := [oo 27 (.mv (tt 8)), oo 28 (.bin .neq (tt 27) (ci 0))]
abbrev c_slices_Compare_int64_int64_9 : List GOp := [oo 29 (.mv (tt 8)), oo 4 (.mv (tt 29))]
abbrev c_slices_Compare_int64_int64_10 : List GOp := [oo 30 (.bin .add (tt 11) (ci 1)), oo 11 (.mv (tt 30))]
abbrev c_slices_Compare_int64_int64_l0 : GCode := .seq (.reg c_slices_Compare_int64_int64_2) (.seq (.cond (tt 12) (.skip) (.exit 0)) (.seq (.blk 1 (.seq (.reg c_slices_Compare_int64_int64_3) (.seq (.seq (.reg c_slices_Compare_int64_int64_4) (.cond (tt 19) (.seq (.reg c_slices_Compare_int64_int64_5) (.ret)) (.skip))) (.seq (.reg c_slices_Compare_int64_int64_6) (.seq (.reg c_slices_Compare_int64_int64_7) (.seq (.reg c_slices_Compare_int64_int64_8) (.cond (tt 28) (.seq (.reg c_slices_Compare_int64_int64_9) (.ret)) (.skip)))))))) (.reg c_slices_Compare_int64_int64_10)))
abbrev c_slices_Compare_int64_int64_12 : List GOp := [oo 31 (.mv (tt 0)), oo 32 (.len (tt 31)), oo 33 (.mv (tt 1)), oo 34 (.len (tt 33)), oo 35 (.bin .lss (tt 32) (tt 34))]
abbrev c_slices_Compare_int64_int64_13 : List GOp := [oo 4 (.mv (ci (-1)))]
abbrev c_slices_Compare_int64_int64_14 : List GOp := [oo 4 (.mv (ci 0))]
abbrev c_slices_Compare_int64_int64 : GCode := .seq (.reg c_slices_Compare_int64_int64_0) (.seq (.seq (.reg c_slices_Compare_int64_int64_1) (.blk 0 (.loop c_slices_Compare_int64_int64_l0))) (.seq (.seq (.reg c_slices_Compare_int64_int64_12) (.cond (tt 35) (.seq (.reg c_slices_Compare_int64_int64_13) (.ret)) (.skip))) (.seq (.reg c_slices_Compare_int64_int64_14) (.ret))))
theorem c_slices_Compare_int64_int64_d : decFn Try.prog Try.f75 = some (36, [.t 4], c_slices_Compare_int64_int64) := by kernel_rfl
theorem c_slices_Compare_int64_int64_i {args : List Value} {G : GH} {K : Value → GH → Prop} (hn : args.length ≤ 36) (h : gW Try.prog c_slices_Compare_int64_int64 (RetK [.t 4] K) (T0 args) G) : GC Try.prog 75 args G K := GC_intro mixed Try.func75 c_slices_Compare_int64_int64_d hn h
abbrev c_slices_ContainsFunc_SS_int64_int64_0 : List GOp := [oo 4 (.mv (cb  false))]
abbrev c_slices_ContainsFunc_SS_int64_int64_1 : List GOp := [oo 5 (.mv (tt 0)), oo 6 (.mv (tt 1)), oo 7 (.call (ff 91) [tt 5, tt 6]), oo 8 (.bin .geq (tt 7) (ci 0)), oo 4 (.mv (tt 8))]
abbrev c_slices_ContainsFunc_SS_int64_int64 : GCode := .seq (.reg c_slices_ContainsFunc_SS_int64_int64_0) (.seq (.reg c_slices_ContainsFunc_SS_int64_int64_1) (.ret))
theorem c_slices_ContainsFunc_SS_int64_int64_d : decFn Try.prog Try.f69 = some (9, [.t 4], c_slices_ContainsFunc_SS_int64_int64) := by kernel_rfl
theorem c_slices_ContainsFunc_SS_int64_int64_i {args : List Value} {G : GH} {K : Value → GH → Prop} (hn : args.length ≤ 9) (h : gW Try.prog c_slices_ContainsFunc_SS_int64_int64 (RetK [.t 4] K) (T0 args) G) : GC Try.prog 69 args G K := GC_intro mixed Try.func69 c_slices_ContainsFunc_SS_int64_int64_d hn h
abbrev c_slices_ContainsFunc_impl_Table_impl_Table_0 : List GOp := [oo 4 (.mv (cb  false))]
abbrev c_slices_ContainsFunc_impl_Table_impl_Table_1 : List GOp := [oo 5 (.mv (tt 0)), oo 6 (.mv (tt 1)), oo 7 (.call (ff 90) [tt 5, tt 6]), oo 8 (.bin .geq (tt 7) (ci 0)), oo 4 (.mv (tt 8))]
abbrev c_slices_ContainsFunc_impl_Table_impl_Table : GCode := .seq (.reg c_slices_ContainsFunc_impl_Table_impl_Table_0) (.seq (.reg c_slices_ContainsFunc_impl_Table_impl_Table_1) (.ret))
theorem c_slices_ContainsFunc_impl_Table_impl_Table_d : decFn Try.prog Try.f67 = some (9, [.t 4], c_slices_ContainsFunc_impl_Table_impl_Table) := by kernel_rfl
theorem c_slices_ContainsFunc_impl_Table_impl_Table_i {args : List Value} {G : GH} {K : Value → GH → Prop} (hn : args.length ≤ 9) (h : gW Try.prog c_slices_ContainsFunc_impl_Table_impl_Table (RetK [.t 4] K) (T0 args) G) : GC Try.prog 67 args G K := GC_intro mixed Try.func67 c_slices_ContainsFunc_impl_Table_impl_Table_d hn h
abbrev c_slices_ContainsFunc_int64_int64_0 : List GOp := [oo 4 (.mv (cb  false))]
abbrev c_slices_ContainsFunc_int64_int64_1 : List GOp := [oo 5 (.mv (tt 0)), oo 6 (.mv (tt 1)), oo 7 (.call (ff 98) [tt 5, tt 6]), oo 8 (.bin .geq (tt 7) (ci 0)), oo 4 (.mv (tt 8))]
abbrev c_slices_ContainsFunc_int64_int64 : GCode := .seq (.reg c_slices_ContainsFunc_int64_int64_0) (.seq (.reg c_slices_ContainsFunc_int64_int64_1) (.ret))
theorem c_slices_ContainsFunc_int64_int64_d : decFn Try.prog Try.f78 = some (9, [.t 4], c_slices_ContainsFunc_int64_int64) := by kernel_rfl
theorem c_slices_ContainsFunc_int64_int64_i {args : List Value} {G : GH} {K : Value → GH → Prop} (hn : args.length ≤ 9) (h : gW Try.prog c_slices_ContainsFunc_int64_int64 (RetK [.t 4] K) (T0 args) G) : GC Try.prog 78 args G K := GC_intro mixed Try.func78 c_slices_ContainsFunc_int64_int64_d hn h
abbrev c_slices_Contains_int64_int64_0 : List GOp := [oo 4 (.mv (cb  false))]
abbrev c_slices_Contains_int64_int64_1 : List GOp := [oo 5 (.mv (tt 0)), oo 6 (.mv (tt 1)), oo 7 (.call (ff 87) [tt 5, tt 6]), oo 8 (.bin .geq (tt 7) (ci 0)), oo 4 (.mv (tt 8))]
abbrev c_slices_Contains_int64_int64 : GCode := .seq (.reg c_slices_Contains_int64_int64_0) (.seq (.reg c_slices_Contains_int64_int64_1) (.ret))
theorem c_slices_Contains_int64_int64_d : decFn Try.prog Try.f80 = some (9, [.t 4], c_slices_Contains_int64_int64) := by kernel_rfl
theorem c_slices_Contains_int64_int64_i {args : List Value} {G : GH} {K : Value → GH → Prop} (hn : args.length ≤ 9) (h : gW Try.prog c_slices_Contains_int64_int64 (RetK [.t 4] K) (T0 args) G) : GC Try.prog 80 args G K := GC_intro mixed Try.func80 c_slices_Contains_int64_int64_d hn h
abbrev c_slices_DeleteFunc_int64_int64_0 : List GOp := [oo 4 (.mv (.const (.slice none 0 0)))]
abbrev c_slices_DeleteFunc_int64_int64_1 : List GOp := [oo 8 (.mv (tt 0)), oo 9 (.mv (tt 1)), oo 10 (.call (ff 98) [tt 8, tt 9]), oo 5 (.mv (tt 10))]
abbrev c_slices_DeleteFunc_int64_int64_2 : List GOp := [oo 11 (.mv (tt 5)), oo 12 (.bin .eql (tt 11) (ci (-1)))]
abbrev c_slices_DeleteFunc_int64_int64_3 : List GOp := [oo 13 (.mv (tt 0)), oo 4 (.mv (tt 13))]
abbrev c_slices_DeleteFunc_int64_int64_4 : List GOp := [oo 14 (.mv (tt 5)), oo 15 (.bin .add (tt 14) (ci 1)), oo 6 (.mv (tt 15))]
abbrev c_slices_DeleteFunc_int64_int64_5 : List GOp := [oo 16 (.mv (tt 6)), oo 17 (.mv (tt 0)), oo 18 (.len (tt 17)), oo 19 (.bin .lss (tt 16) (tt 18))]
abbrev c_slices_DeleteFunc_int64_int64_6 : List GOp := [oo 22 (.mv (tt 0)), oo 23 (.mv (tt 6)), oo 24 (.ia 1 (tt 22) (tt 23)), oo 25 (.ld (tt 24)), oo 7 (.mv (tt 25))]
abbrev c_slices_DeleteFunc_int64_int64_7 : List GOp := [oo 26 (.mv (tt 1)), oo 27 (.mv (tt 7)), oo 28 (.call (tt 26) [tt 27]), oo 29 (.un .not (tt 28))]
abbrev c_slices_DeleteFunc_int64_int64_8 : List GOp := [oo 30 (.mv (tt 0)), oo 31 (.mv (tt 5)), oo 32 (.mv (tt 7)), oo 33 (.ia 1 (tt 30) (tt 31)), on (.st 1 (tt 33) (tt 32))]
abbrev c_slices_DeleteFunc_int64_int64_9 : List GOp := [oo 34 (.mv (tt 5)), oo 35 (.bin .add (tt 34) (ci 1)), oo 5 (.mv (tt 35))]
abbrev c_slices_DeleteFunc_int64_int64_10 : List GOp := [oo 20 (.mv (tt 6)), oo 21 (.bin .add (tt 20) (ci 1)), oo 6 (.mv (tt 21))]
abbrev c_slices_DeleteFunc_int64_int64_l0 : GCode := .seq (.seq (.reg c_slices_DeleteFunc_int64_int64_5) (.cond (tt 19) (.skip) (.exit 0))) (.seq (.blk 1 (.seq (.reg c_slices_DeleteFunc_int64_int64_6) (.seq (.reg c_slices_DeleteFunc_int64_int64_7) (.cond (tt 29) (.seq (.reg c_slices_DeleteFunc_int64_int64_8) (.reg c_slices_DeleteFunc_int64_int64_9)) (.skip))))) (.reg c_slices_DeleteFunc_int64_int64_10))
abbrev c_slices_DeleteFunc_int64_int64_12 : List GOp := [oo 36 (.mv (tt 0)), oo 37 (.mv (tt 5)), oo 38 (.sl 1 (tt 36) (some (tt 37)) none), on (.clr 1 [.int .i64 0] (tt 38))]
abbrev c_slices_DeleteFunc_int64_int64_13 : List GOp := [oo 39 (.mv (tt 0)), oo 40 (.mv (tt 5)), oo 41 (.sl 1 (tt 39) none (some (tt 40))), oo 4 (.mv (tt 41))]
abbrev c_slices_DeleteFunc_int64_int64 : GCode := .seq (.reg c_slices_DeleteFunc_int64_int64_0) (.seq (.reg c_slices_DeleteFunc_int64_int64_1) (.seq (.seq (.reg c_slices_DeleteFunc_int64_int64_2) (.cond (tt 12) (.seq (.reg c_slices_DeleteFunc_int64_int64_3) (.ret)) (.skip))) (.seq (.seq (.reg c_slices_DeleteFunc_int64_int64_4) (.blk 0 (.loop c_slices_DeleteFunc_int64_int64_l0))) (.seq (.reg c_slices_DeleteFunc_int64_int64_12) (.seq (.reg c_slices_DeleteFunc_int64_int64_13) (.ret))))))
theorem c_slices_DeleteFunc_int64_int64_d : decFn Try.prog Try.f104 = some (42, [.t 4], c_slices_DeleteFunc_int64_int64) := by kernel_rfl
theorem c_slices_DeleteFunc_int64_int64_i {args : List Value} {G : GH} {K : Value → GH → Prop} (hn : args.length ≤ 42) (h : gW Try.prog c_slices_DeleteFunc_int64_int64 (RetK [.t 4] K) (T0 args) G) : GC Try.prog 104 args G K := GC_intro mixed Try.func104 c_slices_DeleteFunc_int64_int64_d hn h
abbrev c_slices_Equal_int64_int64_0 : List GOp := [oo 4 (.mv (cb  false))]
abbrev c_slices_Equal_int64_int64_1 : List GOp := [oo 6 (.mv (tt 0)), oo 7 (.len (tt 6)), oo 8 (.mv (tt 1)), oo 9 (.len (tt 8)), oo 10 (.bin .neq (tt 7) (tt 9))]
abbrev c_slices_Equal_int64_int64_2 : List GOp := [oo 4 (.mv (cb  false))]
abbrev c_slices_Equal_int64_int64_3 : List GOp := [oo 11 (.mv (tt 0)), oo 12 (.len (tt 11)), oo 13 (.mv (ci 0))]
abbrev c_slices_Equal_int64_int64_4 : List GOp := [oo 14 (.bin .lss (tt 13) (tt 12))]
abbrev c_slices_Equal_int64_int64_5 : List GOp := [oo 15 (.mv (tt 13)), oo 5 (.mv (tt 15))]
abbrev c_slices_Equal_int64_int64_6 : List DOp := [dl 0 (oo 16 (.mv (tt 0))), dl 1 (oo 17 (.mv (tt 5))), dl 2 (oo 18 (.ia 1 (tt 16) (tt 17))), dl 3 (oo 19 (.ld (tt 18))), dl 4 (oo 20 (.mv (tt 1))), dl 5 (oo 21 (.mv (tt 5))), dl 6 (oo 22 (.ia 1 (tt 20) (tt 21))), dl 7 (oo 23 (.ld (tt 22))), dl 8 (oo 24 (.bin .neq (tt 19) (tt 23)))]
abbrev c_slices_Equal_int64_int64_7 : List GOp := [oo 4 (.mv (cb  false))]
abbrev c_slices_Equal_int64_int64_8 : List GOp := [oo 25 (.bin .add (tt 13) (ci 1)), oo 13 (.mv (tt 25))]
abbrev c_slices_Equal_int64_int64_l0 : GCode := .seq (.reg c_slices_Equal_int64_int64_4) (.seq (.cond (tt 14) (.skip) (.exit 0)) (.seq (.blk 1 (.seq (.reg c_slices_Equal_int64_int64_5) (.seq (.dreg c_slices_Equal_int64_int64_6) (.cond (tt 24) (.seq (.reg c_slices_Equal_int64_int64_7) (.ret)) (.skip))))) (.reg c_slices_Equal_int64_int64_8)))
abbrev c_slices_Equal_int64_int64_10 : List GOp := [oo 4 (.mv (cb  true))]
abbrev c_slices_Equal_int64_int64 : GCode := .seq (.reg c_slices_Equal_int64_int64_0) (.seq (.seq (.reg c_slices_Equal_int64_int64_1) (.cond (tt 10) (.seq (.reg c_slices_Equal_int64_int64_2) (.ret)) (.skip))) (.seq (.seq (.reg c_slices_Equal_int64_int64_3) (.blk 0 (.loop c_slices_Equal_int64_int64_l0))) (.seq (.reg c_slices_Equal_int64_int64_10) (.ret))))
theorem c_slices_Equal_int64_int64_d : decFn Try.prog Try.f86 = some (26, [.t 4], c_slices_Equal_int64_int64) := by kernel_rfl
theorem c_slices_Equal_int64_int64_i {args : List Value} {G : GH} {K : Value → GH → Prop} (hn : args.length ≤ 26) (h : gW Try.prog c_slices_Equal_int64_int64 (RetK [.t 4] K) (T0 args) G) : GC Try.prog 86 args G K := GC_intro mixed Try.func86 c_slices_Equal_int64_int64_d hn h
abbrev c_slices_IndexFunc_SS_int64_int64_0 : List GOp := [oo 4 (.mv (ci 0))]
abbrev c_slices_IndexFunc_SS_int64_int64_1 : List GOp := [oo 6 (.mv (tt 0)), oo 7 (.len (tt 6)), oo 8 (.mv (ci 0))]
abbrev c_slices_IndexFunc_SS_int64_int64_2 : List GOp := [oo 9 (.bin .lss (tt 8) (tt 7))]
abbrev c_slices_IndexFunc_SS_int64_int64_3 : List GOp := [oo 10 (.mv (tt 8)), oo 5 (.mv (tt 10))]
abbrev c_slices_IndexFunc_SS_int64_int64_4 : List GOp := [oo 11 (.mv (tt 1)), oo 12 (.mv (tt 0)), oo 13 (.mv (tt 5)), oo 14 (.ia 1 (tt 12) (tt 13)), oo 15 (.ld (tt 14)), oo 16 (.call (tt 11) [tt 15])]
abbrev c_slices_IndexFunc_SS_int64_int64_5 : List GOp := [oo 17 (.mv (tt 5)), oo 4 (.mv (tt 17))]
abbrev c_slices_IndexFunc_SS_int64_int64_6 : List GOp := [oo 18 (.bin .add (tt 8) (ci 1)), oo 8 (.mv (tt 18))]
abbrev c_slices_IndexFunc_SS_int64_int64_l0 : GCode := .seq (.reg c_slices_IndexFunc_SS_int64_int64_2) (.seq (.cond (tt 9) (.skip) (.exit 0)) (.seq (.blk 1 (.seq (.reg c_slices_IndexFunc_SS_int64_int64_3) (.seq (.reg c_slices_IndexFunc_SS_int64_int64_4) (.cond (tt 16) (.seq (.reg c_slices_IndexFunc_SS_int64_int64_5) (.ret)) (.skip))))) (.reg c_slices_IndexFunc_SS_int64_int64_6)))
abbrev c_slices_IndexFunc_SS_int64_int64_8 : List GOp := [oo 4 (.mv (ci (-1)))]
abbrev c_slices_IndexFunc_SS_int64_int64 : GCode := .seq (.reg c_slices_IndexFunc_SS_int64_int64_0) (.seq (.seq (.reg c_slices_IndexFunc_SS_int64_int64_1) (.blk 0 (.loop c_slices_IndexFunc_SS_int64_int64_l0))) (.seq (.reg c_slices_IndexFunc_SS_int64_int64_8) (.ret)))
theorem c_slices_IndexFunc_SS_int64_int64_d : decFn Try.prog Try.f91 = some (19, [.t 4], c_slices_IndexFunc_SS_int64_int64) := by kernel_rfl
theorem c_slices_IndexFunc_SS_int64_int64_i {args : List Value} {G : GH} {K : Value → GH → Prop} (hn : args.length ≤ 19) (h : gW Try.prog c_slices_IndexFunc_SS_int64_int64 (RetK [.t 4] K) (T0 args) G) : GC Try.prog 91 args G K := GC_intro mixed Try.func91 c_slices_IndexFunc_SS_int64_int64_d hn h
abbrev c_slices_IndexFunc_impl_Table_impl_Table_0 : List GOp := [oo 4 (.mv (ci 0))]
abbrev c_slices_IndexFunc_impl_Table_impl_Table_1 : List GOp := [oo 6 (.mv (tt 0)), oo 7 (.len (tt 6)), oo 8 (.mv (ci 0))]
abbrev c_slices_IndexFunc_impl_Table_impl_Table_2 : List GOp := [oo 9 (.bin .lss (tt 8) (tt 7))]
abbrev c_slices_IndexFunc_impl_Table_impl_Table_3 : List GOp := [oo 10 (.mv (tt 8)), oo 5 (.mv (tt 10))]
abbrev c_slices_IndexFunc_impl_Table_impl_Table_4 : List GOp := [oo 11 (.mv (tt 1)), oo 12 (.mv (tt 0)), oo 13 (.mv (tt 5)), oo 14 (.ia 2 (tt 12) (tt 13)), oo 15 (.ldn 2 (tt 14)), oo 16 (.call (tt 11) [tt 15])]
abbrev c_slices_IndexFunc_impl_Table_impl_Table_5 : List GOp := [oo 17 (.mv (tt 5)), oo 4 (.mv (tt 17))]
abbrev c_slices_IndexFunc_impl_Table_impl_Table_6 : List GOp := [oo 18 (.bin .add (tt 8) (ci 1)), oo 8 (.mv (tt 18))]
abbrev c_slices_IndexFunc_impl_Table_impl_Table_l0 : GCode := .seq (.reg c_slices_IndexFunc_impl_Table_impl_Table_2) (.seq (.cond (tt 9) (.skip) (.exit 0)) (.seq (.blk 1 (.seq (.reg c_slices_IndexFunc_impl_Table_impl_Table_3) (.seq (.reg c_slices_IndexFunc_impl_Table_impl_Table_4) (.cond (tt 16) (.seq (.reg c_slices_IndexFunc_impl_Table_impl_Table_5) (.ret)) (.skip))))) (.reg c_slices_IndexFunc_impl_Table_impl_Table_6)))
abbrev c_slices_IndexFunc_impl_Table_impl_Table_8 : List GOp := [oo 4 (.mv (ci (-1)))]
abbrev c_slices_IndexFunc_impl_Table_impl_Table : GCode := .seq (.reg c_slices_IndexFunc_impl_Table_impl_Table_0) (.seq (.seq (.reg c_slices_IndexFunc_impl_Table_impl_Table_1) (.blk 0 (.loop c_slices_IndexFunc_impl_Table_impl_Table_l0))) (.seq (.reg c_slices_IndexFunc_impl_Table_impl_Table_8) (.ret)))
theorem c_slices_IndexFunc_impl_Table_impl_Table_d : decFn Try.prog Try.f90 = some (19, [.t 4], c_slices_IndexFunc_impl_Table_impl_Table) := by kernel_rfl
theorem c_slices_IndexFunc_impl_Table_impl_Table_i {args : List Value} {G : GH} {K : Value → GH → Prop} (hn : args.length ≤ 19) (h : gW Try.prog c_slices_IndexFunc_impl_Table_impl_Table (RetK [.t 4] K) (T0 args) G) : GC Try.prog 90 args G K := GC_intro mixed Try.func90 c_slices_IndexFunc_impl_Table_impl_Table_d hn h
abbrev c_slices_IndexFunc_int64_int64_0 : List GOp := [oo 4 (.mv (ci 0))]
abbrev c_slices_IndexFunc_int64_int64_1 : List GOp := [oo 6 (.mv (tt 0)), oo 7 (.len (tt 6)), oo 8 (.mv (ci 0))]
abbrev c_slices_IndexFunc_int64_int64_2 : List GOp := [oo 9 (.bin .lss (tt 8) (tt 7))]
abbrev c_slices_IndexFunc_int64_int64_3 : List GOp := [oo 10 (.mv (tt 8)), oo 5 (.mv (tt 10))]
abbrev c_slices_IndexFunc_int64_int64_4 : List GOp := [oo 11 (.mv (tt 1)), oo 12 (.mv (tt 0)), oo 13 (.mv (tt 5)), oo 14 (.ia 1 (tt 12) (tt 13)), oo 15 (.ld (tt 14)), oo 16 (.call (tt 11) [tt 15])]
abbrev c_slices_IndexFunc_int64_int64_5 : List GOp := [oo 17 (.mv (tt 5)), oo 4 (.mv (tt 17))]
abbrev c_slices_IndexFunc_int64_int64_6 : List GOp := [oo 18 (.bin .add (tt 8) (ci 1)), oo 8 (.mv (tt 18))]
abbrev c_slices_IndexFunc_int64_int64_l0 : GCode := .seq (.reg c_slices_IndexFunc_int64_int64_2) (.seq (.cond (tt 9) (.skip) (.exit 0)) (.seq (.blk 1 (.seq (.reg c_slices_IndexFunc_int64_int64_3) (.seq (.reg c_slices_IndexFunc_int64_int64_4) (.cond (tt 16) (.seq (.reg c_slices_IndexFunc_int64_int64_5) (.ret)) (.skip))))) (.reg c_slices_IndexFunc_int64_int64_6)))
abbrev c_slices_IndexFunc_int64_int64_8 : List GOp := [oo 4 (.mv (ci (-1)))]
abbrev c_slices_IndexFunc_int64_int64 : GCode := .seq (.reg c_slices_IndexFunc_int64_int64_0) (.seq (.seq (.reg c_slices_IndexFunc_int64_int64_1) (.blk 0 (.loop c_slices_IndexFunc_int64_int64_l0))) (.seq (.reg c_slices_IndexFunc_int64_int64_8) (.ret)))
theorem c_slices_IndexFunc_int64_int64_d : decFn Try.prog Try.f98 = some (19, [.t 4], c_slices_IndexFunc_int64_int64) := by kernel_rfl
theorem c_slices_IndexFunc_int64_int64_i {args : List Value} {G : GH} {K : Value → GH → Prop} (hn : args.length ≤ 19) (h : gW Try.prog c_slices_IndexFunc_int64_int64 (RetK [.t 4] K) (T0 args) G) : GC Try.prog 98 args G K := GC_intro mixed Try.func98 c_slices_IndexFunc_int64_int64_d hn h
abbrev c_slices_Index_int64_int64_0 : List GOp := [oo 4 (.mv (ci 0))]
abbrev c_slices_Index_int64_int64_1 : List GOp := [oo 6 (.mv (tt 0)), oo 7 (.len (tt 6)), oo 8 (.mv (ci 0))]
abbrev c_slices_Index_int64_int64_2 : List GOp := [oo 9 (.bin .lss (tt 8) (tt 7))]
abbrev c_slices_Index_int64_int64_3 : List GOp := [oo 10 (.mv (tt 8)), oo 5 (.mv (tt 10))]
abbrev c_slices_Index_int64_int64_4 : List GOp := [oo 11 (.mv (tt 1)), oo 12 (.mv (tt 0)), oo 13 (.mv (tt 5)), oo 14 (.ia 1 (tt 12) (tt 13)), oo 15 (.ld (tt 14)), oo 16 (.bin .eql (tt 11) (tt 15))]
abbrev c_slices_Index_int64_int64_5 : List GOp := [oo 17 (.mv (tt 5)), oo 4 (.mv (tt 17))]
abbrev c_slices_Index_int64_int64_6 : List GOp := [oo 18 (.bin .add (tt 8) (ci 1)), oo 8 (.mv (tt 18))]
abbrev c_slices_Index_int64_int64_l0 : GCode := .seq (.reg c_slices_Index_int64_int64_2) (.seq (.cond (tt 9) (.skip) (.exit 0)) (.seq (.blk 1 (.seq (.reg c_slices_Index_int64_int64_3) (.seq (.reg c_slices_Index_int64_int64_4) (.cond (tt 16) (.seq (.reg c_slices_Index_int64_int64_5) (.ret)) (.skip))))) (.reg c_slices_Index_int64_int64_6)))
abbrev c_slices_Index_int64_int64_8 : List GOp := [oo 4 (.mv (ci (-1)))]
abbrev c_slices_Index_int64_int64 : GCode := .seq (.reg c_slices_Index_int64_int64_0) (.seq (.seq (.reg c_slices_Index_int64_int64_1) (.blk 0 (.loop c_slices_Index_int64_int64_l0))) (.seq (.reg c_slices_Index_int64_int64_8) (.ret)))
theorem c_slices_Index_int64_int64_d : decFn Try.prog Try.f87 = some (19, [.t 4], c_slices_Index_int64_int64) := by kernel_rfl
theorem c_slices_Index_int64_int64_i {args : List Value} {G : GH} {K : Value → GH → Prop} (hn : args.length ≤ 19) (h : gW Try.prog c_slices_Index_int64_int64 (RetK [.t 4] K) (T0 args) G) : GC Try.prog 87 args G K := GC_intro mixed Try.func87 c_slices_Index_int64_int64_d hn h
abbrev c_spec_ReduceTables_0 : List GOp := [oo 2 (.mv (.const (.slice none 0 0))), oo 3 (.mv (ci 0))]
abbrev c_spec_ReduceTables_1 : List GOp := [oo 10 (.mv (tt 0)), oo 11 (.call (ff 31) [tt 10]), oo 12 (.un .not (tt 11))]
abbrev c_spec_ReduceTables_2 : List GOp := [oo 2 (.mv (.const (.slice none 0 0))), oo 3 (.mv (ci 1))]
abbrev c_spec_ReduceTables_3 : List GOp := [oo 13 (.bs 2 []), oo 4 (.mv (tt 13))]
abbrev c_spec_ReduceTables_4 : List GOp := [oo 5 (.mv (ci 0))]
abbrev c_spec_ReduceTables_5 : List GOp := [oo 14 (.mv (tt 5)), oo 15 (.mv (tt 0)), oo 16 (.len (tt 15)), oo 17 (.bin .lss (tt 14) (tt 16))]
abbrev c_spec_ReduceTables_6 : List DOp := [dl 0 (oo 20 (.mv (tt 4))), dl 1 (oo 21 (.mv (tt 0))), dl 2 (oo 22 (.mv (tt 5))), dl 3 (oo 23 (.ia 2 (tt 21) (tt 22))), dl 4 (oo 24 (.mv (tt 0))), dl 5 (oo 25 (.mv (tt 5))), dl 6 (oo 26 (.ia 2 (tt 24) (tt 25))), dl 7 (oo 27 (.fa 0 (tt 26))), dl 8 (oo 28 (.ld (tt 27))), dh 9 [] (oo 29 (.call (ff 32) [tt 23, tt 28])), dh 10 [8] (oo 30 (.bs 2 [tt 29])), dh 11 [8] (oo 31 (.ap 2 48 [.slice none 0 0, .slice none 0 0] (tt 20) (tt 30))), dl 12 (oo 4 (.mv (tt 31)))]
abbrev c_spec_ReduceTables_7 : List GOp := [oo 18 (.mv (tt 5)), oo 19 (.bin .add (tt 18) (ci 1)), oo 5 (.mv (tt 19))]
abbrev c_spec_ReduceTables_l0 : GCode := .seq (.seq (.reg c_spec_ReduceTables_5) (.cond (tt 17) (.skip) (.exit 0))) (.seq (.blk 1 (.dreg c_spec_ReduceTables_6)) (.reg c_spec_ReduceTables_7))
abbrev c_spec_ReduceTables_9 : List GOp := [oo 6 (.mv (cb  true))]
abbrev c_spec_ReduceTables_10 : List GOp := [oo 32 (.mv (tt 6))]
abbrev c_spec_ReduceTables_11 : List GOp := [oo 6 (.mv (cb  false))]
abbrev c_spec_ReduceTables_12 : List GOp := [oo 7 (.mv (ci 0))]
abbrev c_spec_ReduceTables_13 : List GOp := [oo 33 (.mv (tt 7)), oo 34 (.mv (tt 4)), oo 35 (.len (tt 34)), oo 36 (.bin .lss (tt 33) (tt 35))]
abbrev c_spec_ReduceTables_14 : List GOp := [oo 8 (.mv (ci 0))]
abbrev c_spec_ReduceTables_15 : List GOp := [oo 39 (.mv (tt 8)), oo 40 (.mv (tt 4)), oo 41 (.len (tt 40)), oo 42 (.bin .lss (tt 39) (tt 41))]
abbrev c_spec_ReduceTables_16 : DT := (.path [dl 0 (oo 45 (.mv (tt 4)))] (.path [dl 1 (oo 46 (.mv (tt 7)))] (.path [dl 2 (oo 47 (.ia 2 (tt 45) (tt 46)))] (.path [dl 3 (oo 48 (.mv (tt 4)))] (.path [dl 4 (oo 49 (.mv (tt 8)))] (.path [dl 5 (oo 50 (.ia 2 (tt 48) (tt 49)))] (.both (.path [dh 6 [] (oo 51 (.call (ff 33) [tt 47, tt 50]))] (.path [dh 7 [] (oo 9 (.al [.slice none 0 0, .slice none 0 0]))] (.path [dh 8 [] (on (.st 2 (tt 9) (tt 51)))] .fin))) (.path [dh 7 [] (oo 9 (.al [.slice none 0 0, .slice none 0 0]))] (.path [dh 6 [] (oo 51 (.call (ff 33) [tt 47, tt 50]))] (.path [dh 8 [] (on (.st 2 (tt 9) (tt 51)))] .fin))))))))))
abbrev c_spec_ReduceTables_17 : List DOp := [dl 0 (oo 52 (.fa 1 (tt 9))), dl 1 (oo 53 (.ld (tt 52))), dl 2 (oo 54 (.len (tt 53))), dl 3 (oo 55 (.mv (tt 4))), dl 4 (oo 56 (.mv (tt 7))), dl 5 (oo 57 (.ia 2 (tt 55) (tt 56))), dl 6 (oo 58 (.fa 1 (tt 57))), dl 7 (oo 59 (.ld (tt 58))), dl 8 (oo 60 (.len (tt 59))), dl 9 (oo 61 (.bin .lss (tt 54) (tt 60)))]
abbrev c_spec_ReduceTables_18 : List GOp := [oo 62 (.mv (tt 4)), oo 63 (.mv (tt 7)), oo 64 (.ldn 2 (tt 9)), oo 65 (.ia 2 (tt 62) (tt 63)), on (.st 2 (tt 65) (tt 64))]
abbrev c_spec_ReduceTables_19 : List GOp := [oo 6 (.mv (cb  true))]
abbrev c_spec_ReduceTables_20 : List GOp := [oo 43 (.mv (tt 8)), oo 44 (.bin .add (tt 43) (ci 1)), oo 8 (.mv (tt 44))]
abbrev c_spec_ReduceTables_l1 : GCode := .seq (.seq (.reg c_spec_ReduceTables_15) (.cond (tt 42) (.skip) (.exit 6))) (.seq (.blk 7 (.seq (.dtree c_spec_ReduceTables_16) (.seq (.dreg c_spec_ReduceTables_17) (.cond (tt 61) (.seq (.reg c_spec_ReduceTables_18) (.reg c_spec_ReduceTables_19)) (.skip))))) (.reg c_spec_ReduceTables_20))
abbrev c_spec_ReduceTables_22 : List GOp := [oo 37 (.mv (tt 7)), oo 38 (.bin .add (tt 37) (ci 1)), oo 7 (.mv (tt 38))]
abbrev c_spec_ReduceTables_l2 : GCode := .seq (.seq (.reg c_spec_ReduceTables_13) (.cond (tt 36) (.skip) (.exit 4))) (.seq (.blk 5 (.seq (.reg c_spec_ReduceTables_14) (.blk 6 (.loop c_spec_ReduceTables_l1)))) (.reg c_spec_ReduceTables_22))
abbrev c_spec_ReduceTables_l3 : GCode := .seq (.seq (.reg c_spec_ReduceTables_10) (.cond (tt 32) (.skip) (.exit 2))) (.blk 3 (.seq (.reg c_spec_ReduceTables_11) (.seq (.reg c_spec_ReduceTables_12) (.blk 4 (.loop c_spec_ReduceTables_l2)))))
abbrev c_spec_ReduceTables_25 : List GOp := [oo 66 (.mv (tt 4)), oo 2 (.mv (tt 66)), oo 3 (.mv (ci 0))]
abbrev c_spec_ReduceTables : GCode := .seq (.reg c_spec_ReduceTables_0) (.seq (.seq (.reg c_spec_ReduceTables_1) (.cond (tt 12) (.seq (.reg c_spec_ReduceTables_2) (.ret)) (.skip))) (.seq (.reg c_spec_ReduceTables_3) (.seq (.seq (.reg c_spec_ReduceTables_4) (.blk 0 (.loop c_spec_ReduceTables_l0))) (.seq (.reg c_spec_ReduceTables_9) (.seq (.blk 2 (.loop c_spec_ReduceTables_l3)) (.seq (.reg c_spec_ReduceTables_25) (.ret)))))))
theorem c_spec_ReduceTables_d : decFn Try.prog Try.f9 = some (67, [.t 2, .t 3], c_spec_ReduceTables) := by kernel_rfl
theorem c_spec_ReduceTables_i {args : List Value} {G : GH} {K : Value → GH → Prop} (hn : args.length ≤ 67) (h : gW Try.prog c_spec_ReduceTables (RetK [.t 2, .t 3] K) (T0 args) G) : GC Try.prog 9 args G K := GC_intro mixed Try.func9 c_spec_ReduceTables_d hn h
abbrev c_spec_l00In_0 : List GOp := [oo 6 (.mv (cb  false))]
abbrev c_spec_l00In_1 : List GOp := [oo 7 (.mv (tt 0)), oo 8 (.mv (tt 1)), oo 9 (.bin .geq (tt 7) (tt 8)), oo 10 (.mv (tt 9)), og 11 10 true (.mv (tt 0)), og 12 10 true (.mv (tt 2)), og 13 10 true (.bin .leq (tt 11) (tt 12)), oo 14 (.pick (tt 10) (tt 13) (cb  false)), oo 6 (.mv (tt 14))]
abbrev c_spec_l00In : GCode := .seq (.reg c_spec_l00In_0) (.seq (.reg c_spec_l00In_1) (.ret))
theorem c_spec_l00In_d : decFn Try.prog Try.f72 = some (15, [.t 6], c_spec_l00In) := by kernel_rfl
theorem c_spec_l00In_i {args : List Value} {G : GH} {K : Value → GH → Prop} (hn : args.length ≤ 15) (h : gW Try.prog c_spec_l00In (RetK [.t 6] K) (T0 args) G) : GC Try.prog 72 args G K := GC_intro mixed Try.func72 c_spec_l00In_d hn h
abbrev c_spec_l00Own_0 : List GOp := [oo 2 (.mv (.const (.slice none 0 0)))]
abbrev c_spec_l00Own_1 : List GOp := [oo 3 (.bs 1 []), oo 4 (.mv (tt 0)), oo 5 (.ap 1 8 [.int .i64 0] (tt 3) (tt 4)), oo 2 (.mv (tt 5))]
abbrev c_spec_l00Own : GCode := .seq (.reg c_spec_l00Own_0) (.seq (.reg c_spec_l00Own_1) (.ret))
theorem c_spec_l00Own_d : decFn Try.prog Try.f66 = some (6, [.t 2], c_spec_l00Own) := by kernel_rfl
theorem c_spec_l00Own_i {args : List Value} {G : GH} {K : Value → GH → Prop} (hn : args.length ≤ 6) (h : gW Try.prog c_spec_l00Own (RetK [.t 2] K) (T0 args) G) : GC Try.prog 66 args G K := GC_intro mixed Try.func66 c_spec_l00Own_d hn h
abbrev c_spec_l00Rises_0 : List GOp := [oo 6 (.mv (cb  false))]
abbrev c_spec_l00Rises_1 : List GOp := [oo 7 (.mv (ci 0))]
abbrev c_spec_l00Rises_2 : List GOp := [oo 8 (.mv (tt 7)), oo 9 (.mv (tt 0)), oo 10 (.len (tt 9)), oo 11 (.bin .lss (tt 8) (tt 10))]
abbrev c_spec_l00Rises_3 : List DOp := [dl 0 (oo 14 (.mv (tt 0))), dl 1 (oo 15 (.mv (tt 7))), dl 2 (oo 16 (.ia 1 (tt 14) (tt 15))), dl 3 (oo 17 (.ld (tt 16))), dl 4 (oo 18 (.mv (tt 1))), dl 5 (oo 19 (.mv (tt 2))), dh 6 [] (oo 20 (.call (ff 72) [tt 17, tt 18, tt 19])), dl 7 (oo 21 (.un .not (tt 20))), dl 8 (oo 22 (.mv (tt 21))), dl 9 (og 23 22 false (.mv (tt 7))), dl 10 (og 24 22 false (.bin .gtr (tt 23) (ci 0))), dl 11 (og 25 22 false (.mv (tt 24))), dl 12 (og 26 25 true (.mv (tt 0))), dl 13 (og 27 25 true (.mv (tt 7))), dl 14 (og 28 25 true (.bin .sub (tt 27) (ci 1))), dl 15 (og 29 25 true (.ia 1 (tt 26) (tt 28))), dl 16 (og 30 25 true (.ld (tt 29))), dl 17 (og 31 25 true (.mv (tt 0))), dl 18 (og 32 25 true (.mv (tt 7))), dl 19 (og 33 25 true (.ia 1 (tt 31) (tt 32))), dl 20 (og 34 25 true (.ld (tt 33))), dl 21 (og 35 25 true (.bin .geq (tt 30) (tt 34))), dl 22 (og 36 22 false (.pick (tt 25) (tt 35) (cb  false))), dl 23 (oo 37 (.pick (tt 22) (cb  true) (tt 36)))]
abbrev c_spec_l00Rises_4 : List GOp := [oo 6 (.mv (cb  false))]
abbrev c_spec_l00Rises_5 : List GOp := [oo 12 (.mv (tt 7)), oo 13 (.bin .add (tt 12) (ci 1)), oo 7 (.mv (tt 13))]
abbrev c_spec_l00Rises_l0 : GCode := .seq (.seq (.reg c_spec_l00Rises_2) (.cond (tt 11) (.skip) (.exit 0))) (.seq (.blk 1 (.seq (.dreg c_spec_l00Rises_3) (.cond (tt 37) (.seq (.reg c_spec_l00Rises_4) (.ret)) (.skip)))) (.reg c_spec_l00Rises_5))
abbrev c_spec_l00Rises_7 : List GOp := [oo 6 (.mv (cb  true))]
abbrev c_spec_l00Rises : GCode := .seq (.reg c_spec_l00Rises_0) (.seq (.seq (.reg c_spec_l00Rises_1) (.blk 0 (.loop c_spec_l00Rises_l0))) (.seq (.reg c_spec_l00Rises_7) (.ret)))
theorem c_spec_l00Rises_d : decFn Try.prog Try.f49 = some (38, [.t 6], c_spec_l00Rises) := by kernel_rfl
theorem c_spec_l00Rises_i {args : List Value} {G : GH} {K : Value → GH → Prop} (hn : args.length ≤ 38) (h : gW Try.prog c_spec_l00Rises (RetK [.t 6] K) (T0 args) G) : GC Try.prog 49 args G K := GC_intro mixed Try.func49 c_spec_l00Rises_d hn h
abbrev c_spec_l00Same_0 : List GOp := [oo 4 (.mv (cb  false))]
abbrev c_spec_l00Same_1 : List GOp := [oo 6 (.mv (tt 0)), oo 7 (.len (tt 6)), oo 8 (.mv (tt 1)), oo 9 (.len (tt 8)), oo 10 (.bin .neq (tt 7) (tt 9))]
abbrev c_spec_l00Same_2 : List GOp := [oo 4 (.mv (cb  false))]
abbrev c_spec_l00Same_3 : List GOp := [oo 5 (.mv (ci 0))]
abbrev c_spec_l00Same_4 : List GOp := [oo 11 (.mv (tt 5)), oo 12 (.mv (tt 0)), oo 13 (.len (tt 12)), oo 14 (.bin .lss (tt 11) (tt 13))]
abbrev c_spec_l00Same_5 : List DOp := [dl 0 (oo 17 (.mv (tt 0))), dl 1 (oo 18 (.mv (tt 5))), dl 2 (oo 19 (.ia 1 (tt 17) (tt 18))), dl 3 (oo 20 (.ld (tt 19))), dl 4 (oo 21 (.mv (tt 1))), dl 5 (oo 22 (.mv (tt 5))), dl 6 (oo 23 (.ia 1 (tt 21) (tt 22))), dl 7 (oo 24 (.ld (tt 23))), dl 8 (oo 25 (.bin .neq (tt 20) (tt 24)))]
abbrev c_spec_l00Same_6 : List GOp := [oo 4 (.mv (cb  false))]
abbrev c_spec_l00Same_7 : List GOp := [oo 15 (.mv (tt 5)), oo 16 (.bin .add (tt 15) (ci 1)), oo 5 (.mv (tt 16))]
abbrev c_spec_l00Same_l0 : GCode := .seq (.seq (.reg c_spec_l00Same_4) (.cond (tt 14) (.skip) (.exit 0))) (.seq (.blk 1 (.seq (.dreg c_spec_l00Same_5) (.cond (tt 25) (.seq (.reg c_spec_l00Same_6) (.ret)) (.skip)))) (.reg c_spec_l00Same_7))
abbrev c_spec_l00Same_9 : List GOp := [oo 4 (.mv (cb  true))]
abbrev c_spec_l00Same : GCode := .seq (.reg c_spec_l00Same_0) (.seq (.seq (.reg c_spec_l00Same_1) (.cond (tt 10) (.seq (.reg c_spec_l00Same_2) (.ret)) (.skip))) (.seq (.seq (.reg c_spec_l00Same_3) (.blk 0 (.loop c_spec_l00Same_l0))) (.seq (.reg c_spec_l00Same_9) (.ret))))
theorem c_spec_l00Same_d : decFn Try.prog Try.f82 = some (26, [.t 4], c_spec_l00Same) := by kernel_rfl
theorem c_spec_l00Same_i {args : List Value} {G : GH} {K : Value → GH → Prop} (hn : args.length ≤ 26) (h : gW Try.prog c_spec_l00Same (RetK [.t 4] K) (T0 args) G) : GC Try.prog 82 args G K := GC_intro mixed Try.func82 c_spec_l00Same_d hn h
abbrev c_spec_l16Before_0 : List GOp := [oo 4 (.mv (cb  false))]
abbrev c_spec_l16Before_1 : List GOp := [oo 5 (.mv (ci 0))]
abbrev c_spec_l16Before_2 : List GOp := [oo 6 (.mv (tt 5)), oo 7 (.mv (tt 0)), oo 8 (.len (tt 7)), oo 9 (.bin .lss (tt 6) (tt 8)), oo 10 (.mv (tt 9)), og 11 10 true (.mv (tt 5)), og 12 10 true (.mv (tt 1)), og 13 10 true (.len (tt 12)), og 14 10 true (.bin .lss (tt 11) (tt 13)), oo 15 (.pick (tt 10) (tt 14) (cb  false))]
abbrev c_spec_l16Before_3 : List DOp := [dl 0 (oo 18 (.mv (tt 0))), dl 1 (oo 19 (.mv (tt 5))), dl 2 (oo 20 (.ia 1 (tt 18) (tt 19))), dl 3 (oo 21 (.ld (tt 20))), dl 4 (oo 22 (.mv (tt 1))), dl 5 (oo 23 (.mv (tt 5))), dl 6 (oo 24 (.ia 1 (tt 22) (tt 23))), dl 7 (oo 25 (.ld (tt 24))), dl 8 (oo 26 (.bin .neq (tt 21) (tt 25)))]
abbrev c_spec_l16Before_4 : List DOp := [dl 0 (oo 27 (.mv (tt 0))), dl 1 (oo 28 (.mv (tt 5))), dl 2 (oo 29 (.ia 1 (tt 27) (tt 28))), dl 3 (oo 30 (.ld (tt 29))), dl 4 (oo 31 (.mv (tt 1))), dl 5 (oo 32 (.mv (tt 5))), dl 6 (oo 33 (.ia 1 (tt 31) (tt 32))), dl 7 (oo 34 (.ld (tt 33))), dl 8 (oo 35 (.bin .lss (tt 30) (tt 34))), dl 9 (oo 4 (.mv (tt 35)))]
abbrev c_spec_l16Before_5 : List GOp := [oo 16 (.mv (tt 5)), oo 17 (.bin .add (tt 16) (ci 1)), oo 5 (.mv (tt 17))]
abbrev c_spec_l16Before_l0 : GCode := .seq (.seq (.reg c_spec_l16Before_2) (.cond (tt 15) (.skip) (.exit 0))) (.seq (.blk 1 (.seq (.dreg c_spec_l16Before_3) (.cond (tt 26) (.seq (.dreg c_spec_l16Before_4) (.ret)) (.skip)))) (.reg c_spec_l16Before_5))
abbrev c_spec_l16Before_7 : List GOp := [oo 36 (.mv (tt 0)), oo 37 (.len (tt 36)), oo 38 (.mv (tt 1)), oo 39 (.len (tt 38)), oo 40 (.bin .lss (tt 37) (tt 39)), oo 4 (.mv (tt 40))]
abbrev c_spec_l16Before : GCode := .seq (.reg c_spec_l16Before_0) (.seq (.seq (.reg c_spec_l16Before_1) (.blk 0 (.loop c_spec_l16Before_l0))) (.seq (.reg c_spec_l16Before_7) (.ret)))
theorem c_spec_l16Before_d : decFn Try.prog Try.f71 = some (41, [.t 4], c_spec_l16Before) := by kernel_rfl
theorem c_spec_l16Before_i {args : List Value} {G : GH} {K : Value → GH → Prop} (hn : args.length ≤ 41) (h : gW Try.prog c_spec_l16Before (RetK [.t 4] K) (T0 args) G) : GC Try.prog 71 args G K := GC_intro mixed Try.func71 c_spec_l16Before_d hn h
abbrev c_spec_l20Cell_0 : List GOp := [oo 6 (.mv (ci 0))]
abbrev c_spec_l20Cell_1 : List GOp := [oo 7 (.mv (ci 0))]
abbrev c_spec_l20Cell_2 : List GOp := [oo 8 (.mv (tt 7)), oo 9 (.mv (tt 0)), oo 10 (.len (tt 9)), oo 11 (.bin .lss (tt 8) (tt 10))]
abbrev c_spec_l20Cell_3 : List GOp := [oo 14 (.mv (tt 0)), oo 15 (.mv (tt 7)), oo 16 (.ia 1 (tt 14) (tt 15)), oo 17 (.ld (tt 16)), oo 18 (.mv (tt 2)), oo 19 (.bin .eql (tt 17) (tt 18))]
abbrev c_spec_l20Cell_4 : List GOp := [oo 20 (.mv (tt 1)), oo 21 (.mv (tt 7)), oo 22 (.ia 1 (tt 20) (tt 21)), oo 23 (.ld (tt 22)), oo 6 (.mv (tt 23))]
abbrev c_spec_l20Cell_5 : List GOp := [oo 12 (.mv (tt 7)), oo 13 (.bin .add (tt 12) (ci 1)), oo 7 (.mv (tt 13))]
abbrev c_spec_l20Cell_l0 : GCode := .seq (.seq (.reg c_spec_l20Cell_2) (.cond (tt 11) (.skip) (.exit 0))) (.seq (.blk 1 (.seq (.reg c_spec_l20Cell_3) (.cond (tt 19) (.seq (.reg c_spec_l20Cell_4) (.ret)) (.skip)))) (.reg c_spec_l20Cell_5))
abbrev c_spec_l20Cell_7 : List GOp := [oo 6 (.mv (ci (-1)))]
abbrev c_spec_l20Cell : GCode := .seq (.reg c_spec_l20Cell_0) (.seq (.seq (.reg c_spec_l20Cell_1) (.blk 0 (.loop c_spec_l20Cell_l0))) (.seq (.reg c_spec_l20Cell_7) (.ret)))
theorem c_spec_l20Cell_d : decFn Try.prog Try.f59 = some (24, [.t 6], c_spec_l20Cell) := by kernel_rfl
theorem c_spec_l20Cell_i {args : List Value} {G : GH} {K : Value → GH → Prop} (hn : args.length ≤ 24) (h : gW Try.prog c_spec_l20Cell (RetK [.t 6] K) (T0 args) G) : GC Try.prog 59 args G K := GC_intro mixed Try.func59 c_spec_l20Cell_d hn h
abbrev c_spec_l20Fit_0 : List GOp := [oo 8 (.mv (cb  false))]
abbrev c_spec_l20Fit_1 : List GOp := [oo 9 (.mv (ci 0))]
abbrev c_spec_l20Fit_2 : List GOp := [oo 11 (.mv (tt 9)), oo 12 (.mv (tt 0)), oo 13 (.nc (tt 12)), oo 14 (.fa 0 (tt 13)), oo 15 (.ld (tt 14)), oo 16 (.len (tt 15)), oo 17 (.bin .lss (tt 11) (tt 16))]
abbrev c_spec_l20Fit_3 : List DOp := [dl 0 (oo 20 (.mv (tt 1))), dl 1 (oo 21 (.nc (tt 20))), dl 2 (oo 22 (.fa 0 (tt 21))), dl 3 (oo 23 (.ld (tt 22))), dl 4 (oo 24 (.mv (tt 3))), dl 5 (oo 25 (.mv (tt 0))), dl 6 (oo 26 (.nc (tt 25))), dl 7 (oo 27 (.fa 0 (tt 26))), dl 8 (oo 28 (.ld (tt 27))), dl 9 (oo 29 (.mv (tt 9))), dl 10 (oo 30 (.ia 1 (tt 28) (tt 29))), dl 11 (oo 31 (.ld (tt 30))), dh 12 [8] (oo 32 (.call (ff 59) [tt 23, tt 24, tt 31])), dl 13 (oo 10 (.mv (tt 32)))]
abbrev c_spec_l20Fit_4 : List GOp := [oo 33 (.mv (tt 10)), oo 34 (.bin .geq (tt 33) (ci 0)), oo 35 (.mv (tt 34)), og 36 35 true (.mv (tt 10)), og 37 35 true (.mv (tt 2)), og 38 35 true (.mv (tt 9)), og 39 35 true (.ia 1 (tt 37) (tt 38)), og 40 35 true (.ld (tt 39)), og 41 35 true (.bin .neq (tt 36) (tt 40)), oo 42 (.pick (tt 35) (tt 41) (cb  false))]
abbrev c_spec_l20Fit_5 : List GOp := [oo 8 (.mv (cb  false))]
abbrev c_spec_l20Fit_6 : List GOp := [oo 18 (.mv (tt 9)), oo 19 (.bin .add (tt 18) (ci 1)), oo 9 (.mv (tt 19))]
abbrev c_spec_l20Fit_l0 : GCode := .seq (.seq (.reg c_spec_l20Fit_2) (.cond (tt 17) (.skip) (.exit 0))) (.seq (.blk 1 (.seq (.dreg c_spec_l20Fit_3) (.seq (.reg c_spec_l20Fit_4) (.cond (tt 42) (.seq (.reg c_spec_l20Fit_5) (.ret)) (.skip))))) (.reg c_spec_l20Fit_6))
abbrev c_spec_l20Fit_8 : List GOp := [oo 8 (.mv (cb  true))]
abbrev c_spec_l20Fit : GCode := .seq (.reg c_spec_l20Fit_0) (.seq (.seq (.reg c_spec_l20Fit_1) (.blk 0 (.loop c_spec_l20Fit_l0))) (.seq (.reg c_spec_l20Fit_8) (.ret)))
theorem c_spec_l20Fit_d : decFn Try.prog Try.f57 = some (43, [.t 8], c_spec_l20Fit) := by kernel_rfl
theorem c_spec_l20Fit_i {args : List Value} {G : GH} {K : Value → GH → Prop} (hn : args.length ≤ 43) (h : gW Try.prog c_spec_l20Fit (RetK [.t 8] K) (T0 args) G) : GC Try.prog 57 args G K := GC_intro mixed Try.func57 c_spec_l20Fit_d hn h
abbrev c_spec_l20List_0 : List GOp := [oo 2 (.mv (cb  false))]
abbrev c_spec_l20List_1 : List GOp := [oo 3 (.mv (ci 0))]
abbrev c_spec_l20List_2 : List GOp := [oo 4 (.mv (tt 3)), oo 5 (.mv (tt 0)), oo 6 (.len (tt 5)), oo 7 (.bin .lss (tt 4) (tt 6))]
abbrev c_spec_l20List_3 : List GOp := [oo 10 (.mv (tt 0)), oo 11 (.mv (tt 3)), oo 12 (.ia 2 (tt 10) (tt 11)), oo 13 (.call (ff 43) [tt 12]), oo 14 (.un .not (tt 13))]
abbrev c_spec_l20List_4 : List GOp := [oo 2 (.mv (cb  false))]
abbrev c_spec_l20List_5 : List GOp := [oo 8 (.mv (tt 3)), oo 9 (.bin .add (tt 8) (ci 1)), oo 3 (.mv (tt 9))]
abbrev c_spec_l20List_l0 : GCode := .seq (.seq (.reg c_spec_l20List_2) (.cond (tt 7) (.skip) (.exit 0))) (.seq (.blk 1 (.seq (.reg c_spec_l20List_3) (.cond (tt 14) (.seq (.reg c_spec_l20List_4) (.ret)) (.skip)))) (.reg c_spec_l20List_5))
abbrev c_spec_l20List_7 : List GOp := [oo 15 (.mv (tt 0)), oo 16 (.len (tt 15)), oo 17 (.bin .leq (tt 16) (ci 6)), oo 2 (.mv (tt 17))]
abbrev c_spec_l20List : GCode := .seq (.reg c_spec_l20List_0) (.seq (.seq (.reg c_spec_l20List_1) (.blk 0 (.loop c_spec_l20List_l0))) (.seq (.reg c_spec_l20List_7) (.ret)))
theorem c_spec_l20List_d : decFn Try.prog Try.f31 = some (18, [.t 2], c_spec_l20List) := by kernel_rfl
theorem c_spec_l20List_i {args : List Value} {G : GH} {K : Value → GH → Prop} (hn : args.length ≤ 18) (h : gW Try.prog c_spec_l20List (RetK [.t 2] K) (T0 args) G) : GC Try.prog 31 args G K := GC_intro mixed Try.func31 c_spec_l20List_d hn h
abbrev c_spec_l20Ok_0 : List GOp := [oo 2 (.mv (cb  false))]
abbrev c_spec_l20Ok_1 : List GOp := [oo 5 (.mv (tt 0)), oo 6 (.nc (tt 5)), oo 7 (.fa 0 (tt 6)), oo 8 (.ld (tt 7)), oo 9 (.call (ff 49) [tt 8, (ci 0), (ci 7)]), oo 10 (.un .not (tt 9)), oo 11 (.mv (tt 10)), og 12 11 false (.mv (tt 0)), og 13 11 false (.nc (tt 12)), og 14 11 false (.fa 1 (tt 13)), og 15 11 false (.ld (tt 14)), og 16 11 false (.len (tt 15)), og 17 11 false (.bin .gtr (tt 16) (ci 24)), oo 18 (.pick (tt 11) (cb  true) (tt 17))]
abbrev c_spec_l20Ok_2 : List GOp := [oo 2 (.mv (cb  false))]
abbrev c_spec_l20Ok_3 : List GOp := [oo 3 (.mv (ci 0))]
abbrev c_spec_l20Ok_4 : List GOp := [oo 19 (.mv (tt 3)), oo 20 (.mv (tt 0)), oo 21 (.nc (tt 20)), oo 22 (.fa 1 (tt 21)), oo 23 (.ld (tt 22)), oo 24 (.len (tt 23)), oo 25 (.bin .lss (tt 19) (tt 24))]
abbrev c_spec_l20Ok_5 : List DOp := [dl 0 (oo 28 (.mv (tt 0))), dl 1 (oo 29 (.nc (tt 28))), dl 2 (oo 30 (.fa 1 (tt 29))), dl 3 (oo 31 (.ld (tt 30))), dl 4 (oo 32 (.mv (tt 3))), dl 5 (oo 33 (.ia 1 (tt 31) (tt 32))), dl 6 (oo 34 (.ld (tt 33))), dl 7 (oo 35 (.len (tt 34))), dl 8 (oo 36 (.mv (tt 0))), dl 9 (oo 37 (.nc (tt 36))), dl 10 (oo 38 (.fa 0 (tt 37))), dl 11 (oo 39 (.ld (tt 38))), dl 12 (oo 40 (.len (tt 39))), dl 13 (oo 41 (.bin .neq (tt 35) (tt 40))), dl 14 (oo 42 (.mv (tt 41))), dl 15 (og 43 42 false (.mv (tt 3))), dl 16 (og 44 42 false (.bin .gtr (tt 43) (ci 0))), dl 17 (og 45 42 false (.mv (tt 44))), dl 18 (og 46 45 true (.mv (tt 0))), dl 19 (og 47 45 true (.nc (tt 46))), dl 20 (og 48 45 true (.fa 1 (tt 47))), dl 21 (og 49 45 true (.ld (tt 48))), dl 22 (og 50 45 true (.mv (tt 3))), dl 23 (og 51 45 true (.bin .sub (tt 50) (ci 1))), dl 24 (og 52 45 true (.ia 1 (tt 49) (tt 51))), dl 25 (og 53 45 true (.ld (tt 52))), dl 26 (og 54 45 true (.mv (tt 0))), dl 27 (og 55 45 true (.nc (tt 54))), dl 28 (og 56 45 true (.fa 1 (tt 55))), dl 29 (og 57 45 true (.ld (tt 56))), dl 30 (og 58 45 true (.mv (tt 3))), dl 31 (og 59 45 true (.ia 1 (tt 57) (tt 58))), dl 32 (og 60 45 true (.ld (tt 59))), dh 33 [29, 21, 11, 6, 3] (og 61 45 true (.call (ff 71) [tt 53, tt 60])), dl 34 (og 62 45 true (.un .not (tt 61))), dl 35 (og 63 42 false (.pick (tt 45) (tt 62) (cb  false))), dl 36 (oo 64 (.pick (tt 42) (cb  true) (tt 63)))]
abbrev c_spec_l20Ok_6 : List GOp := [oo 2 (.mv (cb  false))]
abbrev c_spec_l20Ok_7 : List GOp := [oo 4 (.mv (ci 0))]
abbrev c_spec_l20Ok_8 : List GOp := [oo 65 (.mv (tt 4)), oo 66 (.mv (tt 0)), oo 67 (.nc (tt 66)), oo 68 (.fa 1 (tt 67)), oo 69 (.ld (tt 68)), oo 70 (.mv (tt 3)), oo 71 (.ia 1 (tt 69) (tt 70)), oo 72 (.ld (tt 71)), oo 73 (.len (tt 72)), oo 74 (.bin .lss (tt 65) (tt 73))]
abbrev c_spec_l20Ok_9 : List GOp := [oo 77 (.mv (tt 0)), oo 78 (.nc (tt 77)), oo 79 (.fa 1 (tt 78)), oo 80 (.ld (tt 79)), oo 81 (.mv (tt 3)), oo 82 (.ia 1 (tt 80) (tt 81)), oo 83 (.ld (tt 82)), oo 84 (.mv (tt 4)), oo 85 (.ia 1 (tt 83) (tt 84)), oo 86 (.ld (tt 85)), oo 87 (.call (ff 72) [tt 86, (ci 0), (ci 3)]), oo 88 (.un .not (tt 87))]
abbrev c_spec_l20Ok_10 : List GOp := [oo 2 (.mv (cb  false))]
abbrev c_spec_l20Ok_11 : List GOp := [oo 75 (.mv (tt 4)), oo 76 (.bin .add (tt 75) (ci 1)), oo 4 (.mv (tt 76))]
abbrev c_spec_l20Ok_l0 : GCode := .seq (.seq (.reg c_spec_l20Ok_8) (.cond (tt 74) (.skip) (.exit 2))) (.seq (.blk 3 (.seq (.reg c_spec_l20Ok_9) (.cond (tt 88) (.seq (.reg c_spec_l20Ok_10) (.ret)) (.skip)))) (.reg c_spec_l20Ok_11))
abbrev c_spec_l20Ok_13 : List GOp := [oo 26 (.mv (tt 3)), oo 27 (.bin .add (tt 26) (ci 1)), oo 3 (.mv (tt 27))]
abbrev c_spec_l20Ok_l1 : GCode := .seq (.seq (.reg c_spec_l20Ok_4) (.cond (tt 25) (.skip) (.exit 0))) (.seq (.blk 1 (.seq (.seq (.dreg c_spec_l20Ok_5) (.cond (tt 64) (.seq (.reg c_spec_l20Ok_6) (.ret)) (.skip))) (.seq (.reg c_spec_l20Ok_7) (.blk 2 (.loop c_spec_l20Ok_l0))))) (.reg c_spec_l20Ok_13))
abbrev c_spec_l20Ok_15 : List GOp := [oo 2 (.mv (cb  true))]
abbrev c_spec_l20Ok : GCode := .seq (.reg c_spec_l20Ok_0) (.seq (.seq (.reg c_spec_l20Ok_1) (.cond (tt 18) (.seq (.reg c_spec_l20Ok_2) (.ret)) (.skip))) (.seq (.seq (.reg c_spec_l20Ok_3) (.blk 0 (.loop c_spec_l20Ok_l1))) (.seq (.reg c_spec_l20Ok_15) (.ret))))
theorem c_spec_l20Ok_d : decFn Try.prog Try.f43 = some (89, [.t 2], c_spec_l20Ok) := by kernel_rfl
theorem c_spec_l20Ok_i {args : List Value} {G : GH} {K : Value → GH → Prop} (hn : args.length ≤ 89) (h : gW Try.prog c_spec_l20Ok (RetK [.t 2] K) (T0 args) G) : GC Try.prog 43 args G K := GC_intro mixed Try.func43 c_spec_l20Ok_d hn h
abbrev c_spec_l20Project_0 : List GOp := [oo 4 (.al [.slice none 0 0, .slice none 0 0])]
abbrev c_spec_l20Project_1 : List GOp := [oo 9 (.mv (tt 1)), oo 10 (.call (ff 66) [tt 9]), oo 11 (.bs 1 []), oo 12 (.bld [.slice none 0 0, .slice none 0 0] [(0, 1, (tt 10)), (1, 1, (tt 11))]), oo 5 (.al [.slice none 0 0, .slice none 0 0]), on (.st 2 (tt 5) (tt 12))]
abbrev c_spec_l20Project_2 : List GOp := [oo 6 (.mv (ci 0))]
abbrev c_spec_l20Project_3 : List GOp := [oo 13 (.mv (tt 6)), oo 14 (.mv (tt 0)), oo 15 (.nc (tt 14)), oo 16 (.fa 1 (tt 15)), oo 17 (.ld (tt 16)), oo 18 (.len (tt 17)), oo 19 (.bin .lss (tt 13) (tt 18))]
abbrev c_spec_l20Project_4 : List GOp := [oo 22 (.bs 1 []), oo 7 (.mv (tt 22))]
abbrev c_spec_l20Project_5 : List GOp := [oo 8 (.mv (ci 0))]
abbrev c_spec_l20Project_6 : List GOp := [oo 23 (.mv (tt 8)), oo 24 (.mv (tt 1)), oo 25 (.len (tt 24)), oo 26 (.bin .lss (tt 23) (tt 25))]
abbrev c_spec_l20Project_7 : List DOp := [dl 0 (oo 29 (.mv (tt 7))), dl 1 (oo 30 (.mv (tt 0))), dl 2 (oo 31 (.nc (tt 30))), dl 3 (oo 32 (.fa 0 (tt 31))), dl 4 (oo 33 (.ld (tt 32))), dl 5 (oo 34 (.mv (tt 0))), dl 6 (oo 35 (.nc (tt 34))), dl 7 (oo 36 (.fa 1 (tt 35))), dl 8 (oo 37 (.ld (tt 36))), dl 9 (oo 38 (.mv (tt 6))), dl 10 (oo 39 (.ia 1 (tt 37) (tt 38))), dl 11 (oo 40 (.ld (tt 39))), dl 12 (oo 41 (.mv (tt 1))), dl 13 (oo 42 (.mv (tt 8))), dl 14 (oo 43 (.ia 1 (tt 41) (tt 42))), dl 15 (oo 44 (.ld (tt 43))), dh 16 [8] (oo 45 (.call (ff 59) [tt 33, tt 40, tt 44])), dh 17 [15, 11, 8, 4] (oo 46 (.bs 1 [tt 45])), dh 18 [15, 11, 8, 4] (oo 47 (.ap 1 8 [.int .i64 0] (tt 29) (tt 46))), dl 19 (oo 7 (.mv (tt 47)))]
abbrev c_spec_l20Project_8 : List GOp := [oo 27 (.mv (tt 8)), oo 28 (.bin .add (tt 27) (ci 1)), oo 8 (.mv (tt 28))]
abbrev c_spec_l20Project_l0 : GCode := .seq (.seq (.reg c_spec_l20Project_6) (.cond (tt 26) (.skip) (.exit 2))) (.seq (.blk 3 (.dreg c_spec_l20Project_7)) (.reg c_spec_l20Project_8))
abbrev c_spec_l20Project_10 : List GOp := [oo 48 (.fa 1 (tt 5)), oo 49 (.ld (tt 48)), oo 50 (.mv (tt 7)), oo 51 (.call (ff 60) [tt 49, tt 50]), oo 52 (.fa 1 (tt 5)), on (.st 1 (tt 52) (tt 51))]
abbrev c_spec_l20Project_11 : List GOp := [oo 20 (.mv (tt 6)), oo 21 (.bin .add (tt 20) (ci 1)), oo 6 (.mv (tt 21))]
abbrev c_spec_l20Project_l1 : GCode := .seq (.seq (.reg c_spec_l20Project_3) (.cond (tt 19) (.skip) (.exit 0))) (.seq (.blk 1 (.seq (.reg c_spec_l20Project_4) (.seq (.seq (.reg c_spec_l20Project_5) (.blk 2 (.loop c_spec_l20Project_l0))) (.reg c_spec_l20Project_10)))) (.reg c_spec_l20Project_11))
abbrev c_spec_l20Project_13 : List GOp := [oo 53 (.ldn 2 (tt 5)), on (.st 2 (tt 4) (tt 53))]
abbrev c_spec_l20Project : GCode := .seq (.reg c_spec_l20Project_0) (.seq (.reg c_spec_l20Project_1) (.seq (.seq (.reg c_spec_l20Project_2) (.blk 0 (.loop c_spec_l20Project_l1))) (.seq (.reg c_spec_l20Project_13) (.ret))))
theorem c_spec_l20Project_d : decFn Try.prog Try.f32 = some (54, [.cn 4 2], c_spec_l20Project) := by kernel_rfl
theorem c_spec_l20Project_i {args : List Value} {G : GH} {K : Value → GH → Prop} (hn : args.length ≤ 54) (h : gW Try.prog c_spec_l20Project (RetK [.cn 4 2] K) (T0 args) G) : GC Try.prog 32 args G K := GC_intro mixed Try.func32 c_spec_l20Project_d hn h
abbrev c_spec_l20Put_0 : List GOp := [oo 4 (.mv (.const (.slice none 0 0)))]
abbrev c_spec_l20Put_1 : List GOp := [oo 8 (.bs 1 []), oo 5 (.mv (tt 8))]
abbrev c_spec_l20Put_2 : List GOp := [oo 6 (.mv (cb  false))]
abbrev c_spec_l20Put_3 : List GOp := [oo 7 (.mv (ci 0))]
abbrev c_spec_l20Put_4 : List GOp := [oo 9 (.mv (tt 7)), oo 10 (.mv (tt 0)), oo 11 (.len (tt 10)), oo 12 (.bin .lss (tt 9) (tt 11))]
abbrev c_spec_l20Put_5 : List GOp := [oo 15 (.mv (tt 0)), oo 16 (.mv (tt 7)), oo 17 (.ia 1 (tt 15) (tt 16)), oo 18 (.ld (tt 17)), oo 19 (.mv (tt 1)), oo 20 (.call (ff 82) [tt 18, tt 19])]
abbrev c_spec_l20Put_6 : List GOp := [oo 6 (.mv (cb  true))]
abbrev c_spec_l20Put_7 : List GOp := [oo 21 (.mv (tt 6)), oo 22 (.un .not (tt 21)), oo 23 (.mv (tt 22)), og 24 23 true (.mv (tt 1)), og 25 23 true (.mv (tt 0)), og 26 23 true (.mv (tt 7)), og 27 23 true (.ia 1 (tt 25) (tt 26)), og 28 23 true (.ld (tt 27)), og 29 23 true (.call (ff 71) [tt 24, tt 28]), oo 30 (.pick (tt 23) (tt 29) (cb  false))]
abbrev c_spec_l20Put_8 : List GOp := [oo 31 (.mv (tt 5)), oo 32 (.mv (tt 1)), oo 33 (.call (ff 66) [tt 32]), oo 34 (.bs 1 [tt 33]), oo 35 (.ap 1 24 [.slice none 0 0] (tt 31) (tt 34)), oo 5 (.mv (tt 35))]
abbrev c_spec_l20Put_9 : List GOp := [oo 6 (.mv (cb  true))]
abbrev c_spec_l20Put_10 : List GOp := [oo 36 (.mv (tt 5)), oo 37 (.mv (tt 0)), oo 38 (.mv (tt 7)), oo 39 (.ia 1 (tt 37) (tt 38)), oo 40 (.ld (tt 39)), oo 41 (.bs 1 [tt 40]), oo 42 (.ap 1 24 [.slice none 0 0] (tt 36) (tt 41)), oo 5 (.mv (tt 42))]
abbrev c_spec_l20Put_11 : List GOp := [oo 13 (.mv (tt 7)), oo 14 (.bin .add (tt 13) (ci 1)), oo 7 (.mv (tt 14))]
abbrev c_spec_l20Put_l0 : GCode := .seq (.seq (.reg c_spec_l20Put_4) (.cond (tt 12) (.skip) (.exit 0))) (.seq (.blk 1 (.seq (.seq (.reg c_spec_l20Put_5) (.cond (tt 20) (.reg c_spec_l20Put_6) (.skip))) (.seq (.seq (.reg c_spec_l20Put_7) (.cond (tt 30) (.seq (.reg c_spec_l20Put_8) (.reg c_spec_l20Put_9)) (.skip))) (.reg c_spec_l20Put_10)))) (.reg c_spec_l20Put_11))
abbrev c_spec_l20Put_13 : List GOp := [oo 43 (.mv (tt 6)), oo 44 (.un .not (tt 43))]
abbrev c_spec_l20Put_14 : List GOp := [oo 45 (.mv (tt 5)), oo 46 (.mv (tt 1)), oo 47 (.call (ff 66) [tt 46]), oo 48 (.bs 1 [tt 47]), oo 49 (.ap 1 24 [.slice none 0 0] (tt 45) (tt 48)), oo 5 (.mv (tt 49))]
abbrev c_spec_l20Put_15 : List GOp := [oo 50 (.mv (tt 5)), oo 4 (.mv (tt 50))]
abbrev c_spec_l20Put : GCode := .seq (.reg c_spec_l20Put_0) (.seq (.reg c_spec_l20Put_1) (.seq (.reg c_spec_l20Put_2) (.seq (.seq (.reg c_spec_l20Put_3) (.blk 0 (.loop c_spec_l20Put_l0))) (.seq (.seq (.reg c_spec_l20Put_13) (.cond (tt 44) (.reg c_spec_l20Put_14) (.skip))) (.seq (.reg c_spec_l20Put_15) (.ret))))))
theorem c_spec_l20Put_d : decFn Try.prog Try.f60 = some (51, [.t 4], c_spec_l20Put) := by kernel_rfl
theorem c_spec_l20Put_i {args : List Value} {G : GH} {K : Value → GH → Prop} (hn : args.length ≤ 51) (h : gW Try.prog c_spec_l20Put (RetK [.t 4] K) (T0 args) G) : GC Try.prog 60 args G K := GC_intro mixed Try.func60 c_spec_l20Put_d hn h
abbrev c_spec_l20Semi_0 : List GOp := [oo 4 (.al [.slice none 0 0, .slice none 0 0])]
abbrev c_spec_l20Semi_1 : List GOp := [oo 9 (.mv (tt 0)), oo 10 (.nc (tt 9)), oo 11 (.fa 0 (tt 10)), oo 12 (.ld (tt 11)), oo 13 (.call (ff 66) [tt 12]), oo 14 (.bs 1 []), oo 15 (.bld [.slice none 0 0, .slice none 0 0] [(0, 1, (tt 13)), (1, 1, (tt 14))]), oo 5 (.al [.slice none 0 0, .slice none 0 0]), on (.st 2 (tt 5) (tt 15))]
abbrev c_spec_l20Semi_2 : List GOp := [oo 6 (.mv (ci 0))]
abbrev c_spec_l20Semi_3 : List GOp := [oo 16 (.mv (tt 6)), oo 17 (.mv (tt 0)), oo 18 (.nc (tt 17)), oo 19 (.fa 1 (tt 18)), oo 20 (.ld (tt 19)), oo 21 (.len (tt 20)), oo 22 (.bin .lss (tt 16) (tt 21))]
abbrev c_spec_l20Semi_4 : List GOp := [oo 7 (.mv (cb  false))]
abbrev c_spec_l20Semi_5 : List GOp := [oo 8 (.mv (ci 0))]
abbrev c_spec_l20Semi_6 : List GOp := [oo 25 (.mv (tt 8)), oo 26 (.mv (tt 1)), oo 27 (.nc (tt 26)), oo 28 (.fa 1 (tt 27)), oo 29 (.ld (tt 28)), oo 30 (.len (tt 29)), oo 31 (.bin .lss (tt 25) (tt 30))]
abbrev c_spec_l20Semi_7 : List DOp := [dl 0 (oo 34 (.mv (tt 7))), dl 1 (oo 35 (.mv (tt 34))), dl 2 (og 36 35 false (.mv (tt 0))), dl 3 (og 37 35 false (.mv (tt 1))), dl 4 (og 38 35 false (.mv (tt 0))), dl 5 (og 39 35 false (.nc (tt 38))), dl 6 (og 40 35 false (.fa 1 (tt 39))), dl 7 (og 41 35 false (.ld (tt 40))), dl 8 (og 42 35 false (.mv (tt 6))), dl 9 (og 43 35 false (.ia 1 (tt 41) (tt 42))), dl 10 (og 44 35 false (.ld (tt 43))), dl 11 (og 45 35 false (.mv (tt 1))), dl 12 (og 46 35 false (.nc (tt 45))), dl 13 (og 47 35 false (.fa 1 (tt 46))), dl 14 (og 48 35 false (.ld (tt 47))), dl 15 (og 49 35 false (.mv (tt 8))), dl 16 (og 50 35 false (.ia 1 (tt 48) (tt 49))), dl 17 (og 51 35 false (.ld (tt 50))), dh 18 [14, 7] (og 52 35 false (.call (ff 57) [tt 36, tt 37, tt 44, tt 51])), dl 19 (oo 53 (.pick (tt 35) (cb  true) (tt 52))), dl 20 (oo 7 (.mv (tt 53)))]
abbrev c_spec_l20Semi_8 : List GOp := [oo 32 (.mv (tt 8)), oo 33 (.bin .add (tt 32) (ci 1)), oo 8 (.mv (tt 33))]
abbrev c_spec_l20Semi_l0 : GCode := .seq (.seq (.reg c_spec_l20Semi_6) (.cond (tt 31) (.skip) (.exit 2))) (.seq (.blk 3 (.dreg c_spec_l20Semi_7)) (.reg c_spec_l20Semi_8))
abbrev c_spec_l20Semi_10 : List GOp := [oo 54 (.mv (tt 7))]
abbrev c_spec_l20Semi_11 : List DOp := [dl 0 (oo 55 (.fa 1 (tt 5))), dl 1 (oo 56 (.ld (tt 55))), dl 2 (oo 57 (.mv (tt 0))), dl 3 (oo 58 (.nc (tt 57))), dl 4 (oo 59 (.fa 1 (tt 58))), dl 5 (oo 60 (.ld (tt 59))), dl 6 (oo 61 (.mv (tt 6))), dl 7 (oo 62 (.ia 1 (tt 60) (tt 61))), dl 8 (oo 63 (.ld (tt 62))), dh 9 [5, 1] (oo 64 (.call (ff 66) [tt 63])), dh 10 [8, 5, 1] (oo 65 (.bs 1 [tt 64])), dh 11 [8, 5] (oo 66 (.ap 1 24 [.slice none 0 0] (tt 56) (tt 65))), dl 12 (oo 67 (.fa 1 (tt 5))), dh 13 [] (on (.st 1 (tt 67) (tt 66)))]
abbrev c_spec_l20Semi_12 : List GOp := [oo 23 (.mv (tt 6)), oo 24 (.bin .add (tt 23) (ci 1)), oo 6 (.mv (tt 24))]
abbrev c_spec_l20Semi_l1 : GCode := .seq (.seq (.reg c_spec_l20Semi_3) (.cond (tt 22) (.skip) (.exit 0))) (.seq (.blk 1 (.seq (.reg c_spec_l20Semi_4) (.seq (.seq (.reg c_spec_l20Semi_5) (.blk 2 (.loop c_spec_l20Semi_l0))) (.seq (.reg c_spec_l20Semi_10) (.cond (tt 54) (.dreg c_spec_l20Semi_11) (.skip)))))) (.reg c_spec_l20Semi_12))
abbrev c_spec_l20Semi_14 : List GOp := [oo 68 (.ldn 2 (tt 5)), on (.st 2 (tt 4) (tt 68))]
abbrev c_spec_l20Semi : GCode := .seq (.reg c_spec_l20Semi_0) (.seq (.reg c_spec_l20Semi_1) (.seq (.seq (.reg c_spec_l20Semi_2) (.blk 0 (.loop c_spec_l20Semi_l1))) (.seq (.reg c_spec_l20Semi_14) (.ret))))
theorem c_spec_l20Semi_d : decFn Try.prog Try.f33 = some (69, [.cn 4 2], c_spec_l20Semi) := by kernel_rfl
theorem c_spec_l20Semi_i {args : List Value} {G : GH} {K : Value → GH → Prop} (hn : args.length ≤ 69) (h : gW Try.prog c_spec_l20Semi (RetK [.cn 4 2] K) (T0 args) G) : GC Try.prog 33 args G K := GC_intro mixed Try.func33 c_spec_l20Semi_d hn h

end Go.Proofs.Ytanpmilodaejpaa.Gh
