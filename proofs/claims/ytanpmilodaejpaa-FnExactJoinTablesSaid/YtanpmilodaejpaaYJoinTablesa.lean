/- Code trees that the law JoinTables reaches: each is what the decoding gives (checked by the kernel). -/
import Derived.Test.YtanpmilodaejpaaC0
import Derived.Test.YtanpmilodaejpaaFm
import Derived.Test.YtanpmilodaejpaaFn
import Derived.Test.YtanpmilodaejpaaFz
namespace Go.Proofs.Ytanpmilodaejpaa.Gh
open Go Go.RowKit Go.Proofs
set_option linter.unusedVariables false
set_option linter.unusedSimpArgs false
set_option maxHeartbeats 4000000

abbrev c_cmp_Compare_int64_0 : List GOp := [oo 4 (.mv (ci 0))]
abbrev c_cmp_Compare_int64_1 : List GOp := [oo 7 (.mv (tt 0)), oo 8 (.call (ff 103) [tt 7]), oo 5 (.mv (tt 8))]
abbrev c_cmp_Compare_int64_2 : List GOp := [oo 9 (.mv (tt 1)), oo 10 (.call (ff 103) [tt 9]), oo 6 (.mv (tt 10))]
abbrev c_cmp_Compare_int64_3 : List GOp := [oo 11 (.mv (tt 5))]
abbrev c_cmp_Compare_int64_4 : List GOp := [oo 12 (.mv (tt 6))]
abbrev c_cmp_Compare_int64_5 : List GOp := [oo 4 (.mv (ci 0))]
abbrev c_cmp_Compare_int64_6 : List GOp := [oo 4 (.mv (ci (-1)))]
abbrev c_cmp_Compare_int64_7 : List GOp := [oo 13 (.mv (tt 6))]
abbrev c_cmp_Compare_int64_8 : List GOp := [oo 4 (.mv (ci 1))]
abbrev c_cmp_Compare_int64_9 : List GOp := [oo 14 (.mv (tt 0)), oo 15 (.mv (tt 1)), oo 16 (.bin .lss (tt 14) (tt 15))]
abbrev c_cmp_Compare_int64_10 : List GOp := [oo 4 (.mv (ci (-1)))]
abbrev c_cmp_Compare_int64_11 : List GOp := [oo 17 (.mv (tt 0)), oo 18 (.mv (tt 1)), oo 19 (.bin .gtr (tt 17) (tt 18))]
abbrev c_cmp_Compare_int64_12 : List GOp := [oo 4 (.mv (ci 1))]
abbrev c_cmp_Compare_int64_13 : List GOp := [oo 4 (.mv (ci 0))]
abbrev c_cmp_Compare_int64 : GCode := .seq (.reg c_cmp_Compare_int64_0) (.seq (.reg c_cmp_Compare_int64_1) (.seq (.reg c_cmp_Compare_int64_2) (.seq (.seq (.reg c_cmp_Compare_int64_3) (.cond (tt 11) (.seq (.seq (.reg c_cmp_Compare_int64_4) (.cond (tt 12) (.seq (.reg c_cmp_Compare_int64_5) (.ret)) (.skip))) (.seq (.reg c_cmp_Compare_int64_6) (.ret))) (.skip))) (.seq (.seq (.reg c_cmp_Compare_int64_7) (.cond (tt 13) (.seq (.reg c_cmp_Compare_int64_8) (.ret)) (.skip))) (.seq (.seq (.reg c_cmp_Compare_int64_9) (.cond (tt 16) (.seq (.reg c_cmp_Compare_int64_10) (.ret)) (.skip))) (.seq (.seq (.reg c_cmp_Compare_int64_11) (.cond (tt 19) (.seq (.reg c_cmp_Compare_int64_12) (.ret)) (.skip))) (.seq (.reg c_cmp_Compare_int64_13) (.ret))))))))
theorem c_cmp_Compare_int64_d : decFn Try.prog Try.f95 = some (20, [.t 4], c_cmp_Compare_int64) := by kernel_rfl
theorem c_cmp_Compare_int64_i {args : List Value} {G : GH} {K : Value → GH → Prop} (hn : args.length ≤ 20) (h : gW Try.prog c_cmp_Compare_int64 (RetK [.t 4] K) (T0 args) G) : GC Try.prog 95 args G K := GC_intro mixed Try.func95 c_cmp_Compare_int64_d hn h
abbrev c_cmp_isNaN_int64_0 : List GOp := [oo 2 (.mv (cb  false))]
abbrev c_cmp_isNaN_int64_1 : List GOp := [oo 3 (.mv (tt 0)), oo 4 (.mv (tt 0)), oo 5 (.bin .neq (tt 3) (tt 4)), oo 2 (.mv (tt 5))]
abbrev c_cmp_isNaN_int64 : GCode := .seq (.reg c_cmp_isNaN_int64_0) (.seq (.reg c_cmp_isNaN_int64_1) (.ret))
theorem c_cmp_isNaN_int64_d : decFn Try.prog Try.f103 = some (6, [.t 2], c_cmp_isNaN_int64) := by kernel_rfl
theorem c_cmp_isNaN_int64_i {args : List Value} {G : GH} {K : Value → GH → Prop} (hn : args.length ≤ 6) (h : gW Try.prog c_cmp_isNaN_int64 (RetK [.t 2] K) (T0 args) G) : GC Try.prog 103 args G K := GC_intro mixed Try.func103 c_cmp_isNaN_int64_d hn h
abbrev c_impl_JoinTables_0 : List GOp := [oo 2 (.bx (tt 0)), oo 3 (.bx (tt 1)), oo 4 (.al [.slice none 0 0, .slice none 0 0]), oo 5 (.mv (ci 0))]
abbrev c_impl_JoinTables_1 : List GOp := [oo 12 (.ldn 2 (tt 2)), oo 13 (.call (ff 46) [tt 12]), oo 14 (.un .not (tt 13)), oo 15 (.mv (tt 14)), og 16 15 false (.ldn 2 (tt 3)), og 17 15 false (.call (ff 46) [tt 16]), og 18 15 false (.un .not (tt 17)), oo 19 (.pick (tt 15) (cb  true) (tt 18))]
abbrev c_impl_JoinTables_2 : List GOp := [oo 20 (.bld [.slice none 0 0, .slice none 0 0] []), on (.st 2 (tt 4) (tt 20)), oo 5 (.mv (ci 1))]
abbrev c_impl_JoinTables_3 : List GOp := [oo 21 (.ldn 2 (tt 2)), oo 22 (.ldn 2 (tt 3)), oo 23 (.bs 2 [tt 21, tt 22]), oo 24 (.call (ff 61) [tt 23]), oo 25 (.bld [.slice none 0 0, .slice none 0 0] [(0, 1, (tt 24))]), oo 6 (.al [.slice none 0 0, .slice none 0 0]), on (.st 2 (tt 6) (tt 25))]
abbrev c_impl_JoinTables_4 : List GOp := [oo 26 (.fa 0 (tt 2)), oo 27 (.ld (tt 26)), oo 28 (.fa 0 (tt 3)), oo 29 (.ld (tt 28)), oo 30 (.bs 1 [tt 27, tt 29]), oo 31 (.call (ff 62) [tt 30]), oo 7 (.mv (tt 31))]
abbrev c_impl_JoinTables_5 : List GOp := [oo 32 (.fa 1 (tt 2)), oo 33 (.ld (tt 32)), oo 34 (.len (tt 33)), oo 35 (.mv (ci 0))]
abbrev c_impl_JoinTables_6 : List GOp := [oo 36 (.bin .lss (tt 35) (tt 34))]
abbrev c_impl_JoinTables_7 : List GOp := [oo 37 (.ia 1 (tt 33) (tt 35)), oo 38 (.ld (tt 37)), oo 9 (.mv (tt 38))]
abbrev c_impl_JoinTables_8 : List GOp := [oo 39 (.fa 1 (tt 3)), oo 40 (.ld (tt 39)), oo 41 (.len (tt 40)), oo 42 (.mv (ci 0))]
abbrev c_impl_JoinTables_9 : List GOp := [oo 43 (.bin .lss (tt 42) (tt 41))]
abbrev c_impl_JoinTables_10 : List GOp := [oo 44 (.ia 1 (tt 40) (tt 42)), oo 45 (.ld (tt 44)), oo 11 (.mv (tt 45))]
abbrev c_impl_JoinTables_11 : List GOp := [oo 46 (.ldn 2 (tt 2)), oo 47 (.ldn 2 (tt 3)), oo 48 (.mv (tt 9)), oo 49 (.mv (tt 11)), oo 50 (.call (ff 63) [tt 46, tt 47, tt 48, tt 49])]
abbrev c_impl_JoinTables_12 : List DOp := [dl 0 (oo 51 (.fa 1 (tt 6))), dl 1 (oo 52 (.ld (tt 51))), dl 2 (oo 53 (.mv (tt 7))), dl 3 (oo 54 (.mv (tt 9))), dl 4 (oo 55 (.mv (tt 11))), dl 7 (oo 58 (.fa 0 (tt 6))), dl 8 (oo 59 (.ld (tt 58))), dh 5 [8, 1] (oo 56 (.bs 1 [tt 54, tt 55])), dh 6 [8, 1] (oo 57 (.call (ff 62) [tt 56])), dh 9 [1] (oo 60 (.call (ff 64) [tt 53, tt 57, tt 59])), dh 10 [8, 1] (oo 61 (.bs 1 [tt 60])), dh 11 [8] (oo 62 (.ap 1 24 [.slice none 0 0] (tt 52) (tt 61))), dl 12 (oo 63 (.fa 1 (tt 6))), dh 13 [] (on (.st 1 (tt 63) (tt 62)))]
abbrev c_impl_JoinTables_13 : List GOp := [oo 64 (.bin .add (tt 42) (ci 1)), oo 42 (.mv (tt 64))]
abbrev c_impl_JoinTables_l0 : GCode := .seq (.reg c_impl_JoinTables_9) (.seq (.cond (tt 43) (.skip) (.exit 2)) (.seq (.blk 3 (.seq (.reg c_impl_JoinTables_10) (.seq (.reg c_impl_JoinTables_11) (.cond (tt 50) (.dreg c_impl_JoinTables_12) (.skip))))) (.reg c_impl_JoinTables_13)))
abbrev c_impl_JoinTables_15 : List GOp := [oo 65 (.bin .add (tt 35) (ci 1)), oo 35 (.mv (tt 65))]
abbrev c_impl_JoinTables_l1 : GCode := .seq (.reg c_impl_JoinTables_6) (.seq (.cond (tt 36) (.skip) (.exit 0)) (.seq (.blk 1 (.seq (.reg c_impl_JoinTables_7) (.seq (.reg c_impl_JoinTables_8) (.blk 2 (.loop c_impl_JoinTables_l0))))) (.reg c_impl_JoinTables_15)))
abbrev c_impl_JoinTables_17 : List GOp := [oo 66 (.fa 1 (tt 6)), oo 67 (.ld (tt 66)), oo 68 (.len (tt 67)), oo 69 (.bin .gtr (tt 68) (ci 24))]
abbrev c_impl_JoinTables_18 : List GOp := [oo 70 (.bld [.slice none 0 0, .slice none 0 0] []), on (.st 2 (tt 4) (tt 70)), oo 5 (.mv (ci 5))]
abbrev c_impl_JoinTables_19 : List GOp := [oo 71 (.fa 1 (tt 6)), oo 72 (.ld (tt 71)), oo 73 (.call (ff 65) [tt 72]), oo 74 (.fa 1 (tt 6)), on (.st 1 (tt 74) (tt 73))]
abbrev c_impl_JoinTables_20 : List GOp := [oo 75 (.ldn 2 (tt 6)), on (.st 2 (tt 4) (tt 75)), oo 5 (.mv (ci 0))]
abbrev c_impl_JoinTables : GCode := .seq (.reg c_impl_JoinTables_0) (.seq (.seq (.reg c_impl_JoinTables_1) (.cond (tt 19) (.seq (.reg c_impl_JoinTables_2) (.ret)) (.skip))) (.seq (.reg c_impl_JoinTables_3) (.seq (.reg c_impl_JoinTables_4) (.seq (.seq (.reg c_impl_JoinTables_5) (.blk 0 (.loop c_impl_JoinTables_l1))) (.seq (.seq (.reg c_impl_JoinTables_17) (.cond (tt 69) (.seq (.reg c_impl_JoinTables_18) (.ret)) (.skip))) (.seq (.reg c_impl_JoinTables_19) (.seq (.reg c_impl_JoinTables_20) (.ret))))))))
theorem c_impl_JoinTables_d : decFn Try.prog Try.f30 = some (76, [.cn 4 2, .t 5], c_impl_JoinTables) := by kernel_rfl
theorem c_impl_JoinTables_i {args : List Value} {G : GH} {K : Value → GH → Prop} (hn : args.length ≤ 76) (h : gW Try.prog c_impl_JoinTables (RetK [.cn 4 2, .t 5] K) (T0 args) G) : GC Try.prog 30 args G K := GC_intro mixed Try.func30 c_impl_JoinTables_d hn h
abbrev c_impl_ValidTable_0 : List GOp := [oo 1 (.bx (tt 0)), oo 2 (.mv (cb  false))]
abbrev c_impl_ValidTable_1 : List GOp := [oo 5 (.fa 0 (tt 1)), oo 6 (.ld (tt 5)), oo 7 (.call (ff 51) [tt 6]), oo 8 (.un .not (tt 7)), oo 9 (.mv (tt 8)), og 10 9 false (.fa 0 (tt 1)), og 11 9 false (.ld (tt 10)), og 12 9 false (.call (ff 74) [tt 11, (ci 8)]), og 13 9 false (.un .not (tt 12)), oo 14 (.pick (tt 9) (cb  true) (tt 13)), oo 15 (.mv (tt 14)), og 16 15 false (.fa 1 (tt 1)), og 17 15 false (.ld (tt 16)), og 18 15 false (.len (tt 17)), og 19 15 false (.bin .gtr (tt 18) (ci 24)), oo 20 (.pick (tt 15) (cb  true) (tt 19))]
abbrev c_impl_ValidTable_2 : List GOp := [oo 2 (.mv (cb  false))]
abbrev c_impl_ValidTable_3 : List GOp := [oo 21 (.fa 1 (tt 1)), oo 22 (.ld (tt 21)), oo 23 (.len (tt 22)), oo 24 (.mv (ci 0))]
abbrev c_impl_ValidTable_4 : List GOp := [oo 25 (.bin .lss (tt 24) (tt 23))]
abbrev c_impl_ValidTable_5 : List GOp := [oo 26 (.mv (tt 24)), oo 27 (.ia 1 (tt 22) (tt 24)), oo 28 (.ld (tt 27)), oo 3 (.mv (tt 26)), oo 4 (.mv (tt 28))]
abbrev c_impl_ValidTable_6 : List GOp := [oo 29 (.mv (tt 4)), oo 30 (.len (tt 29)), oo 31 (.fa 0 (tt 1)), oo 32 (.ld (tt 31)), oo 33 (.len (tt 32)), oo 34 (.bin .neq (tt 30) (tt 33)), oo 35 (.mv (tt 34)), og 36 35 false (.mv (tt 4)), og 37 35 false (.call (ff 74) [tt 36, (ci 4)]), og 38 35 false (.un .not (tt 37)), oo 39 (.pick (tt 35) (cb  true) (tt 38)), oo 40 (.mv (tt 39)), og 41 40 false (.mv (tt 3)), og 42 40 false (.bin .gtr (tt 41) (ci 0)), og 43 40 false (.mv (tt 42)), og 44 43 true (.fa 1 (tt 1)), og 45 43 true (.ld (tt 44)), og 46 43 true (.mv (tt 3)), og 47 43 true (.bin .sub (tt 46) (ci 1)), og 48 43 true (.ia 1 (tt 45) (tt 47)), og 49 43 true (.ld (tt 48)), og 50 43 true (.mv (tt 4)), og 51 43 true (.call (ff 75) [tt 49, tt 50]), og 52 43 true (.bin .geq (tt 51) (ci 0)), og 53 40 false (.pick (tt 43) (tt 52) (cb  false)), oo 54 (.pick (tt 40) (cb  true) (tt 53))]
abbrev c_impl_ValidTable_7 : List GOp := [oo 2 (.mv (cb  false))]
abbrev c_impl_ValidTable_8 : List GOp := [oo 55 (.bin .add (tt 24) (ci 1)), oo 24 (.mv (tt 55))]
abbrev c_impl_ValidTable_l0 : GCode := .seq (.reg c_impl_ValidTable_4) (.seq (.cond (tt 25) (.skip) (.exit 0)) (.seq (.blk 1 (.seq (.reg c_impl_ValidTable_5) (.seq (.reg c_impl_ValidTable_6) (.cond (tt 54) (.seq (.reg c_impl_ValidTable_7) (.ret)) (.skip))))) (.reg c_impl_ValidTable_8)))
abbrev c_impl_ValidTable_10 : List GOp := [oo 2 (.mv (cb  true))]
abbrev c_impl_ValidTable : GCode := .seq (.reg c_impl_ValidTable_0) (.seq (.seq (.reg c_impl_ValidTable_1) (.cond (tt 20) (.seq (.reg c_impl_ValidTable_2) (.ret)) (.skip))) (.seq (.seq (.reg c_impl_ValidTable_3) (.blk 0 (.loop c_impl_ValidTable_l0))) (.seq (.reg c_impl_ValidTable_10) (.ret))))
theorem c_impl_ValidTable_d : decFn Try.prog Try.f46 = some (56, [.t 2], c_impl_ValidTable) := by kernel_rfl
theorem c_impl_ValidTable_i {args : List Value} {G : GH} {K : Value → GH → Prop} (hn : args.length ≤ 56) (h : gW Try.prog c_impl_ValidTable (RetK [.t 2] K) (T0 args) G) : GC Try.prog 46 args G K := GC_intro mixed Try.func46 c_impl_ValidTable_d hn h
abbrev c_impl_allColumns_0 : List GOp := [oo 2 (.mv (.const (.slice none 0 0)))]
abbrev c_impl_allColumns_1 : List GOp := [oo 3 (.mv (.const (.slice none 0 0)))]
abbrev c_impl_allColumns_2 : List GOp := [oo 6 (.mv (tt 0)), oo 7 (.len (tt 6)), oo 8 (.mv (ci 0))]
abbrev c_impl_allColumns_3 : List GOp := [oo 9 (.bin .lss (tt 8) (tt 7))]
abbrev c_impl_allColumns_4 : List GOp := [oo 10 (.ia 2 (tt 6) (tt 8)), oo 11 (.ldn 2 (tt 10)), oo 5 (.al [.slice none 0 0, .slice none 0 0]), on (.st 2 (tt 5) (tt 11))]
abbrev c_impl_allColumns_5 : List GOp := [oo 12 (.mv (tt 3)), oo 13 (.fa 0 (tt 5)), oo 14 (.ld (tt 13)), oo 15 (.ap 1 8 [.int .i64 0] (tt 12) (tt 14)), oo 3 (.mv (tt 15))]
abbrev c_impl_allColumns_6 : List GOp := [oo 16 (.bin .add (tt 8) (ci 1)), oo 8 (.mv (tt 16))]
abbrev c_impl_allColumns_l0 : GCode := .seq (.reg c_impl_allColumns_3) (.seq (.cond (tt 9) (.skip) (.exit 0)) (.seq (.blk 1 (.seq (.reg c_impl_allColumns_4) (.reg c_impl_allColumns_5))) (.reg c_impl_allColumns_6)))
abbrev c_impl_allColumns_8 : List GOp := [oo 17 (.mv (tt 3)), oo 18 (.call (ff 83) [tt 17])]
abbrev c_impl_allColumns_9 : List GOp := [oo 19 (.mv (tt 3)), oo 20 (.call (ff 84) [tt 19]), oo 2 (.mv (tt 20))]
abbrev c_impl_allColumns : GCode := .seq (.reg c_impl_allColumns_0) (.seq (.reg c_impl_allColumns_1) (.seq (.seq (.reg c_impl_allColumns_2) (.blk 0 (.loop c_impl_allColumns_l0))) (.seq (.reg c_impl_allColumns_8) (.seq (.reg c_impl_allColumns_9) (.ret)))))
theorem c_impl_allColumns_d : decFn Try.prog Try.f61 = some (21, [.t 2], c_impl_allColumns) := by kernel_rfl
theorem c_impl_allColumns_i {args : List Value} {G : GH} {K : Value → GH → Prop} (hn : args.length ≤ 21) (h : gW Try.prog c_impl_allColumns (RetK [.t 2] K) (T0 args) G) : GC Try.prog 61 args G K := GC_intro mixed Try.func61 c_impl_allColumns_d hn h
abbrev c_impl_areElements_0 : List GOp := [oo 3 (.bx (tt 1)), oo 4 (.mv (cb  false))]
abbrev c_impl_areElements_1 : List GOp := [oo 5 (.mv (tt 0)), oo 6 (.mf (.func 93) [] [tt 3]), oo 7 (.call (ff 78) [tt 5, tt 6]), oo 8 (.un .not (tt 7)), oo 4 (.mv (tt 8))]
abbrev c_impl_areElements : GCode := .seq (.reg c_impl_areElements_0) (.seq (.reg c_impl_areElements_1) (.ret))
theorem c_impl_areElements_d : decFn Try.prog Try.f74 = some (9, [.t 4], c_impl_areElements) := by kernel_rfl
theorem c_impl_areElements_i {args : List Value} {G : GH} {K : Value → GH → Prop} (hn : args.length ≤ 9) (h : gW Try.prog c_impl_areElements (RetK [.t 4] K) (T0 args) G) : GC Try.prog 74 args G K := GC_intro mixed Try.func74 c_impl_areElements_d hn h
abbrev c_impl_areElements_fn1_0 : List GOp := [oo 3 (.mv (cb  false))]
abbrev c_impl_areElements_fn1_1 : List GOp := [oo 4 (.mv (tt 0)), oo 5 (.ld (tt 1)), oo 6 (.call (ff 94) [tt 4, tt 5]), oo 7 (.un .not (tt 6)), oo 3 (.mv (tt 7))]
abbrev c_impl_areElements_fn1 : GCode := .seq (.reg c_impl_areElements_fn1_0) (.seq (.reg c_impl_areElements_fn1_1) (.ret))
theorem c_impl_areElements_fn1_d : decFn Try.prog Try.f93 = some (8, [.t 3], c_impl_areElements_fn1) := by kernel_rfl
theorem c_impl_areElements_fn1_i {args : List Value} {G : GH} {K : Value → GH → Prop} (hn : args.length ≤ 8) (h : gW Try.prog c_impl_areElements_fn1 (RetK [.t 3] K) (T0 args) G) : GC Try.prog 93 args G K := GC_intro mixed Try.func93 c_impl_areElements_fn1_d hn h
abbrev c_impl_commonColumns_0 : List GOp := [oo 2 (.bx (tt 0)), oo 3 (.bx (tt 1)), oo 4 (.mv (.const (.slice none 0 0)))]
abbrev c_impl_commonColumns_1 : List DOp := [dl 0 (oo 5 (.fa 0 (tt 2))), dl 1 (oo 6 (.ld (tt 5))), dl 2 (oo 7 (.fa 0 (tt 2))), dl 3 (oo 8 (.ld (tt 7))), dl 4 (oo 9 (.fa 0 (tt 3))), dl 5 (oo 10 (.ld (tt 9))), dh 6 [1] (oo 11 (.call (ff 96) [tt 8, tt 10])), dh 7 [5, 3] (oo 12 (.call (ff 96) [tt 6, tt 11])), dl 8 (oo 4 (.mv (tt 12)))]
abbrev c_impl_commonColumns : GCode := .seq (.reg c_impl_commonColumns_0) (.seq (.dreg c_impl_commonColumns_1) (.ret))
theorem c_impl_commonColumns_d : decFn Try.prog Try.f76 = some (13, [.t 4], c_impl_commonColumns) := by kernel_rfl
theorem c_impl_commonColumns_i {args : List Value} {G : GH} {K : Value → GH → Prop} (hn : args.length ≤ 13) (h : gW Try.prog c_impl_commonColumns (RetK [.t 4] K) (T0 args) G) : GC Try.prog 76 args G K := GC_intro mixed Try.func76 c_impl_commonColumns_d hn h
abbrev c_impl_fit_0 : List GOp := [oo 4 (.bx (tt 0)), oo 5 (.bx (tt 1)), oo 8 (.mv (cb  false))]
abbrev c_impl_fit_1 : List GOp := [oo 10 (.ldn 2 (tt 4)), oo 11 (.ldn 2 (tt 5)), oo 12 (.call (ff 76) [tt 10, tt 11]), oo 9 (.mv (tt 12))]
abbrev c_impl_fit_2 : List DOp := [dl 0 (oo 13 (.fa 0 (tt 4))), dl 1 (oo 14 (.ld (tt 13))), dl 2 (oo 15 (.mv (tt 2))), dl 3 (oo 16 (.mv (tt 9))), dl 5 (oo 18 (.fa 0 (tt 5))), dl 6 (oo 19 (.ld (tt 18))), dl 7 (oo 20 (.mv (tt 3))), dl 8 (oo 21 (.mv (tt 9))), dh 4 [6] (oo 17 (.call (ff 64) [tt 14, tt 15, tt 16])), dh 9 [1] (oo 22 (.call (ff 64) [tt 19, tt 20, tt 21])), dh 10 [6, 1] (oo 23 (.call (ff 86) [tt 17, tt 22])), dl 11 (oo 8 (.mv (tt 23)))]
abbrev c_impl_fit : GCode := .seq (.reg c_impl_fit_0) (.seq (.reg c_impl_fit_1) (.seq (.dreg c_impl_fit_2) (.ret)))
theorem c_impl_fit_d : decFn Try.prog Try.f63 = some (24, [.t 8], c_impl_fit) := by kernel_rfl
theorem c_impl_fit_i {args : List Value} {G : GH} {K : Value → GH → Prop} (hn : args.length ≤ 24) (h : gW Try.prog c_impl_fit (RetK [.t 8] K) (T0 args) G) : GC Try.prog 63 args G K := GC_intro mixed Try.func63 c_impl_fit_d hn h
abbrev c_impl_isElement_0 : List GOp := [oo 4 (.mv (cb  false))]
abbrev c_impl_isElement_1 : List GOp := [oo 5 (.mv (tt 0)), oo 6 (.mv (tt 1)), oo 7 (.bin .sub (tt 6) (ci 1)), oo 8 (.call (ff 102) [tt 5, (ci 0), tt 7]), oo 4 (.mv (tt 8))]
abbrev c_impl_isElement : GCode := .seq (.reg c_impl_isElement_0) (.seq (.reg c_impl_isElement_1) (.ret))
theorem c_impl_isElement_d : decFn Try.prog Try.f94 = some (9, [.t 4], c_impl_isElement) := by kernel_rfl
theorem c_impl_isElement_i {args : List Value} {G : GH} {K : Value → GH → Prop} (hn : args.length ≤ 9) (h : gW Try.prog c_impl_isElement (RetK [.t 4] K) (T0 args) G) : GC Try.prog 94 args G K := GC_intro mixed Try.func94 c_impl_isElement_d hn h
abbrev c_impl_isRising_0 : List GOp := [oo 2 (.mv (cb  false))]
abbrev c_impl_isRising_1 : List GOp := [oo 3 (.mv (ci 1))]
abbrev c_impl_isRising_2 : List GOp := [oo 4 (.mv (tt 3)), oo 5 (.mv (tt 0)), oo 6 (.len (tt 5)), oo 7 (.bin .lss (tt 4) (tt 6))]
abbrev c_impl_isRising_3 : List DOp := [dl 0 (oo 10 (.mv (tt 0))), dl 1 (oo 11 (.mv (tt 3))), dl 2 (oo 12 (.bin .sub (tt 11) (ci 1))), dl 3 (oo 13 (.ia 1 (tt 10) (tt 12))), dl 4 (oo 14 (.ld (tt 13))), dl 5 (oo 15 (.mv (tt 0))), dl 6 (oo 16 (.mv (tt 3))), dl 7 (oo 17 (.ia 1 (tt 15) (tt 16))), dl 8 (oo 18 (.ld (tt 17))), dl 9 (oo 19 (.bin .geq (tt 14) (tt 18)))]
abbrev c_impl_isRising_4 : List GOp := [oo 2 (.mv (cb  false))]
abbrev c_impl_isRising_5 : List GOp := [oo 8 (.mv (tt 3)), oo 9 (.bin .add (tt 8) (ci 1)), oo 3 (.mv (tt 9))]
abbrev c_impl_isRising_l0 : GCode := .seq (.seq (.reg c_impl_isRising_2) (.cond (tt 7) (.skip) (.exit 0))) (.seq (.blk 1 (.seq (.dreg c_impl_isRising_3) (.cond (tt 19) (.seq (.reg c_impl_isRising_4) (.ret)) (.skip)))) (.reg c_impl_isRising_5))
abbrev c_impl_isRising_7 : List GOp := [oo 2 (.mv (cb  true))]
abbrev c_impl_isRising : GCode := .seq (.reg c_impl_isRising_0) (.seq (.seq (.reg c_impl_isRising_1) (.blk 0 (.loop c_impl_isRising_l0))) (.seq (.reg c_impl_isRising_7) (.ret)))
theorem c_impl_isRising_d : decFn Try.prog Try.f51 = some (20, [.t 2], c_impl_isRising) := by kernel_rfl
theorem c_impl_isRising_i {args : List Value} {G : GH} {K : Value → GH → Prop} (hn : args.length ≤ 20) (h : gW Try.prog c_impl_isRising (RetK [.t 2] K) (T0 args) G) : GC Try.prog 51 args G K := GC_intro mixed Try.func51 c_impl_isRising_d hn h
abbrev c_impl_project_0 : List GOp := [oo 6 (.mv (.const (.slice none 0 0)))]
abbrev c_impl_project_1 : List GOp := [oo 7 (.mv (.const (.slice none 0 0)))]
abbrev c_impl_project_2 : List GOp := [oo 10 (.mv (tt 2)), oo 11 (.len (tt 10)), oo 12 (.mv (ci 0))]
abbrev c_impl_project_3 : List GOp := [oo 13 (.bin .lss (tt 12) (tt 11))]
abbrev c_impl_project_4 : List GOp := [oo 14 (.ia 1 (tt 10) (tt 12)), oo 15 (.ld (tt 14)), oo 9 (.mv (tt 15))]
abbrev c_impl_project_5 : List GOp := [oo 16 (.mv (tt 7)), oo 17 (.mv (tt 1)), oo 18 (.mv (tt 0)), oo 19 (.mv (tt 9)), oo 20 (.call (ff 87) [tt 18, tt 19]), oo 21 (.ia 1 (tt 17) (tt 20)), oo 22 (.ld (tt 21)), oo 23 (.bs 1 [tt 22]), oo 24 (.ap 1 8 [.int .i64 0] (tt 16) (tt 23)), oo 7 (.mv (tt 24))]
abbrev c_impl_project_6 : List GOp := [oo 25 (.bin .add (tt 12) (ci 1)), oo 12 (.mv (tt 25))]
abbrev c_impl_project_l0 : GCode := .seq (.reg c_impl_project_3) (.seq (.cond (tt 13) (.skip) (.exit 0)) (.seq (.blk 1 (.seq (.reg c_impl_project_4) (.reg c_impl_project_5))) (.reg c_impl_project_6)))
abbrev c_impl_project_8 : List GOp := [oo 26 (.mv (tt 7)), oo 6 (.mv (tt 26))]
abbrev c_impl_project : GCode := .seq (.reg c_impl_project_0) (.seq (.reg c_impl_project_1) (.seq (.seq (.reg c_impl_project_2) (.blk 0 (.loop c_impl_project_l0))) (.seq (.reg c_impl_project_8) (.ret))))
theorem c_impl_project_d : decFn Try.prog Try.f64 = some (27, [.t 6], c_impl_project) := by kernel_rfl
theorem c_impl_project_i {args : List Value} {G : GH} {K : Value → GH → Prop} (hn : args.length ≤ 27) (h : gW Try.prog c_impl_project (RetK [.t 6] K) (T0 args) G) : GC Try.prog 64 args G K := GC_intro mixed Try.func64 c_impl_project_d hn h
abbrev c_impl_sortedRows_0 : List GOp := [oo 2 (.mv (.const (.slice none 0 0)))]
abbrev c_impl_sortedRows_1 : List GOp := [oo 3 (.mv (tt 0)), oo 4 (.call (ff 88) [tt 3, (ff 75)])]
abbrev c_impl_sortedRows_2 : List GOp := [oo 5 (.mv (tt 0)), oo 6 (.call (ff 89) [tt 5, (ff 86)]), oo 2 (.mv (tt 6))]
abbrev c_impl_sortedRows : GCode := .seq (.reg c_impl_sortedRows_0) (.seq (.reg c_impl_sortedRows_1) (.seq (.reg c_impl_sortedRows_2) (.ret)))
theorem c_impl_sortedRows_d : decFn Try.prog Try.f65 = some (7, [.t 2], c_impl_sortedRows) := by kernel_rfl
theorem c_impl_sortedRows_i {args : List Value} {G : GH} {K : Value → GH → Prop} (hn : args.length ≤ 7) (h : gW Try.prog c_impl_sortedRows (RetK [.t 2] K) (T0 args) G) : GC Try.prog 65 args G K := GC_intro mixed Try.func65 c_impl_sortedRows_d hn h
abbrev c_impl_within_0 : List GOp := [oo 6 (.mv (cb  false))]
abbrev c_impl_within_1 : List GOp := [oo 7 (.mv (tt 0)), oo 8 (.mv (tt 1)), oo 9 (.bin .geq (tt 7) (tt 8)), oo 10 (.mv (tt 9)), og 11 10 true (.mv (tt 0)), og 12 10 true (.mv (tt 2)), og 13 10 true (.bin .leq (tt 11) (tt 12)), oo 14 (.pick (tt 10) (tt 13) (cb  false)), oo 6 (.mv (tt 14))]
abbrev c_impl_within : GCode := .seq (.reg c_impl_within_0) (.seq (.reg c_impl_within_1) (.ret))
theorem c_impl_within_d : decFn Try.prog Try.f102 = some (15, [.t 6], c_impl_within) := by kernel_rfl
theorem c_impl_within_i {args : List Value} {G : GH} {K : Value → GH → Prop} (hn : args.length ≤ 15) (h : gW Try.prog c_impl_within (RetK [.t 6] K) (T0 args) G) : GC Try.prog 102 args G K := GC_intro mixed Try.func102 c_impl_within_d hn h
abbrev c_impl_without_0 : List GOp := [oo 3 (.bx (tt 1)), oo 4 (.mv (.const (.slice none 0 0)))]
abbrev c_impl_without_1 : List GOp := [oo 5 (.mv (tt 0)), oo 6 (.call (ff 35) [tt 5]), oo 7 (.mf (.func 105) [] [tt 3]), oo 8 (.call (ff 104) [tt 6, tt 7]), oo 4 (.mv (tt 8))]
abbrev c_impl_without : GCode := .seq (.reg c_impl_without_0) (.seq (.reg c_impl_without_1) (.ret))
theorem c_impl_without_d : decFn Try.prog Try.f96 = some (9, [.t 4], c_impl_without) := by kernel_rfl
theorem c_impl_without_i {args : List Value} {G : GH} {K : Value → GH → Prop} (hn : args.length ≤ 9) (h : gW Try.prog c_impl_without (RetK [.t 4] K) (T0 args) G) : GC Try.prog 96 args G K := GC_intro mixed Try.func96 c_impl_without_d hn h
abbrev c_impl_without_fn1_0 : List GOp := [oo 3 (.mv (cb  false))]
abbrev c_impl_without_fn1_1 : List GOp := [oo 4 (.ld (tt 1)), oo 5 (.mv (tt 0)), oo 6 (.call (ff 80) [tt 4, tt 5]), oo 3 (.mv (tt 6))]
abbrev c_impl_without_fn1 : GCode := .seq (.reg c_impl_without_fn1_0) (.seq (.reg c_impl_without_fn1_1) (.ret))
theorem c_impl_without_fn1_d : decFn Try.prog Try.f105 = some (7, [.t 3], c_impl_without_fn1) := by kernel_rfl
theorem c_impl_without_fn1_i {args : List Value} {G : GH} {K : Value → GH → Prop} (hn : args.length ≤ 7) (h : gW Try.prog c_impl_without_fn1 (RetK [.t 3] K) (T0 args) G) : GC Try.prog 105 args G K := GC_intro mixed Try.func105 c_impl_without_fn1_d hn h
abbrev c_laws_FnExactJoinTables_0 : List GOp := [oo 2 (.bx (tt 0)), oo 3 (.bx (tt 1)), oo 4 (.mv (cb  false))]
abbrev c_laws_FnExactJoinTables_1 : List GOp := [oo 5 (.mv (ci 1048576))]
abbrev c_laws_FnExactJoinTables_2 : List GOp := [oo 17 (.ldn 2 (tt 2)), oo 18 (.mv (tt 5)), oo 19 (.call (ff 15) [tt 17, tt 18]), oo 5 (.mv (tt 19))]
abbrev c_laws_FnExactJoinTables_3 : List GOp := [oo 20 (.mv (tt 5)), oo 21 (.bin .lss (tt 20) (ci 0))]
abbrev c_laws_FnExactJoinTables_4 : List GOp := [oo 4 (.mv (cb  true))]
abbrev c_laws_FnExactJoinTables_5 : List GOp := [oo 22 (.ldn 2 (tt 3)), oo 23 (.mv (tt 5)), oo 24 (.call (ff 15) [tt 22, tt 23]), oo 5 (.mv (tt 24))]
abbrev c_laws_FnExactJoinTables_6 : List GOp := [oo 25 (.mv (tt 5)), oo 26 (.bin .lss (tt 25) (ci 0))]
abbrev c_laws_FnExactJoinTables_7 : List GOp := [oo 4 (.mv (cb  true))]
abbrev c_laws_FnExactJoinTables_8 : DT := (.path [dl 0 (oo 28 (.ldn 2 (tt 2)))] (.path [dl 2 (oo 30 (.ldn 2 (tt 3)))] (.both (.path [dh 1 [2] (oo 29 (.call (ff 17) [tt 28]))] (.both (.path [dh 3 [0] (oo 31 (.call (ff 17) [tt 30]))] (.both (.path [dh 4 [2, 0] (oo 32 (.call (ff 29) [tt 29, tt 31]))] (.path [dl 5 (oo 27 (.mv (tt 32)))] (.path [dl 6 (oo 33 (.ex 0 (tt 27)))] (.path [dl 7 (oo 34 (.ex 1 (tt 27)))] (.path [dh 8 [2, 0] (oo 6 (.al [.slice none 0 0, .slice none 0 0]))] (.path [dh 9 [] (on (.st 2 (tt 6) (tt 33)))] (.path [dl 10 (oo 7 (.mv (tt 34)))] .fin))))))) (.path [dh 8 [2, 0] (oo 6 (.al [.slice none 0 0, .slice none 0 0]))] (.path [dh 4 [2, 0] (oo 32 (.call (ff 29) [tt 29, tt 31]))] (.path [dl 5 (oo 27 (.mv (tt 32)))] (.path [dl 6 (oo 33 (.ex 0 (tt 27)))] (.path [dl 7 (oo 34 (.ex 1 (tt 27)))] (.path [dh 9 [] (on (.st 2 (tt 6) (tt 33)))] (.path [dl 10 (oo 7 (.mv (tt 34)))] .fin))))))))) (.path [dh 8 [2, 0] (oo 6 (.al [.slice none 0 0, .slice none 0 0]))] (.path [dh 3 [0] (oo 31 (.call (ff 17) [tt 30]))] (.path [dh 4 [2, 0] (oo 32 (.call (ff 29) [tt 29, tt 31]))] (.path [dl 5 (oo 27 (.mv (tt 32)))] (.path [dl 6 (oo 33 (.ex 0 (tt 27)))] (.path [dl 7 (oo 34 (.ex 1 (tt 27)))] (.path [dh 9 [] (on (.st 2 (tt 6) (tt 33)))] (.path [dl 10 (oo 7 (.mv (tt 34)))] .fin)))))))))) (.path [dh 8 [2, 0] (oo 6 (.al [.slice none 0 0, .slice none 0 0]))] (.path [dh 1 [2] (oo 29 (.call (ff 17) [tt 28]))] (.path [dh 3 [0] (oo 31 (.call (ff 17) [tt 30]))] (.path [dh 4 [2, 0] (oo 32 (.call (ff 29) [tt 29, tt 31]))] (.path [dl 5 (oo 27 (.mv (tt 32)))] (.path [dl 6 (oo 33 (.ex 0 (tt 27)))] (.path [dl 7 (oo 34 (.ex 1 (tt 27)))] (.path [dh 9 [] (on (.st 2 (tt 6) (tt 33)))] (.path [dl 10 (oo 7 (.mv (tt 34)))] .fin))))))))))))
abbrev c_laws_FnExactJoinTables_9 : List GOp := [oo 35 (.ldn 2 (tt 2)), oo 36 (.call (ff 17) [tt 35]), oo 8 (.al [.slice none 0 0, .slice none 0 0]), on (.st 2 (tt 8) (tt 36))]
abbrev c_laws_FnExactJoinTables_10 : List GOp := [oo 37 (.ldn 2 (tt 3)), oo 38 (.call (ff 17) [tt 37]), oo 9 (.al [.slice none 0 0, .slice none 0 0]), on (.st 2 (tt 9) (tt 38))]
abbrev c_laws_FnExactJoinTables_11 : List GOp := [oo 40 (.ldn 2 (tt 8)), oo 41 (.ldn 2 (tt 9)), oo 42 (.call (ff 30) [tt 40, tt 41]), oo 39 (.mv (tt 42)), oo 43 (.ex 0 (tt 39)), oo 44 (.ex 1 (tt 39)), oo 10 (.al [.slice none 0 0, .slice none 0 0]), on (.st 2 (tt 10) (tt 43)), oo 11 (.mv (tt 44))]
abbrev c_laws_FnExactJoinTables_12 : List GOp := [oo 45 (.ldn 2 (tt 10)), oo 46 (.ldn 2 (tt 6)), oo 47 (.call (ff 19) [tt 45, tt 46]), oo 48 (.un .not (tt 47)), oo 49 (.mv (tt 48)), og 50 49 false (.mv (tt 11)), og 51 49 false (.mv (tt 7)), og 52 49 false (.bin .neq (tt 50) (tt 51)), oo 53 (.pick (tt 49) (cb  true) (tt 52))]
abbrev c_laws_FnExactJoinTables_13 : List GOp := [oo 4 (.mv (cb  false))]
abbrev c_laws_FnExactJoinTables_14 : List DOp := [dl 0 (oo 54 (.ldn 2 (tt 8))), dl 1 (oo 55 (.ldn 2 (tt 2))), dh 2 [0] (oo 56 (.call (ff 17) [tt 55])), dh 3 [1] (oo 57 (.call (ff 19) [tt 54, tt 56])), dl 4 (oo 58 (.un .not (tt 57)))]
abbrev c_laws_FnExactJoinTables_15 : List GOp := [oo 4 (.mv (cb  false))]
abbrev c_laws_FnExactJoinTables_16 : List DOp := [dl 0 (oo 59 (.ldn 2 (tt 9))), dl 1 (oo 60 (.ldn 2 (tt 3))), dh 2 [0] (oo 61 (.call (ff 17) [tt 60])), dh 3 [1] (oo 62 (.call (ff 19) [tt 59, tt 61])), dl 4 (oo 63 (.un .not (tt 62)))]
abbrev c_laws_FnExactJoinTables_17 : List GOp := [oo 4 (.mv (cb  false))]
abbrev c_laws_FnExactJoinTables_18 : List GOp := [oo 12 (.mv (ci 1))]
abbrev c_laws_FnExactJoinTables_19 : List GOp := [oo 64 (.ldn 2 (tt 8)), oo 65 (.mv (tt 12)), oo 66 (.call (ff 24) [tt 64, tt 65]), oo 12 (.mv (tt 66))]
abbrev c_laws_FnExactJoinTables_20 : List GOp := [oo 67 (.ldn 2 (tt 9)), oo 68 (.mv (tt 12)), oo 69 (.call (ff 24) [tt 67, tt 68]), oo 12 (.mv (tt 69))]
abbrev c_laws_FnExactJoinTables_21 : List GOp := [oo 70 (.mv (tt 12)), oo 71 (.bin .lss (tt 70) (ci 0)), oo 72 (.mv (tt 71)), og 73 72 false (.ldn 2 (tt 10)), og 74 72 false (.ldn 2 (tt 6)), og 75 72 false (.call (ff 19) [tt 73, tt 74]), og 76 72 false (.un .not (tt 75)), oo 77 (.pick (tt 72) (cb  true) (tt 76)), oo 78 (.mv (tt 77)), og 79 78 false (.mv (tt 11)), og 80 78 false (.mv (tt 7)), og 81 78 false (.bin .neq (tt 79) (tt 80)), oo 82 (.pick (tt 78) (cb  true) (tt 81))]
abbrev c_laws_FnExactJoinTables_22 : List GOp := [oo 4 (.mv (cb  false))]
abbrev c_laws_FnExactJoinTables_23 : List GOp := [oo 13 (.mv (ci 1))]
abbrev c_laws_FnExactJoinTables_24 : List GOp := [oo 83 (.ldn 2 (tt 10)), oo 84 (.mv (tt 13)), oo 85 (.call (ff 24) [tt 83, tt 84]), oo 13 (.mv (tt 85))]
abbrev c_laws_FnExactJoinTables_25 : List GOp := [oo 14 (.mv (ci 1))]
abbrev c_laws_FnExactJoinTables_26 : List GOp := [oo 86 (.ldn 2 (tt 10)), oo 87 (.mv (tt 14)), oo 88 (.call (ff 26) [tt 86, tt 87]), oo 14 (.mv (tt 88))]
abbrev c_laws_FnExactJoinTables_27 : List GOp := [oo 89 (.mv (tt 14)), oo 90 (.bin .lss (tt 89) (ci 0))]
abbrev c_laws_FnExactJoinTables_28 : List GOp := [oo 4 (.mv (cb  false))]
abbrev c_laws_FnExactJoinTables_29 : List GOp := [oo 91 (.mv (tt 14)), oo 92 (.mv (tt 13)), oo 93 (.bin .neq (tt 91) (tt 92))]
abbrev c_laws_FnExactJoinTables_30 : List GOp := [oo 4 (.mv (cb  false))]
abbrev c_laws_FnExactJoinTables_31 : DT := (.path [dl 0 (oo 95 (.ldn 2 (tt 2)))] (.path [dl 2 (oo 97 (.ldn 2 (tt 3)))] (.both (.path [dh 1 [2] (oo 96 (.call (ff 17) [tt 95]))] (.both (.path [dh 3 [0] (oo 98 (.call (ff 17) [tt 97]))] (.both (.path [dh 4 [2, 0] (oo 99 (.call (ff 30) [tt 96, tt 98]))] (.path [dl 5 (oo 94 (.mv (tt 99)))] (.path [dl 6 (oo 100 (.ex 0 (tt 94)))] (.path [dl 7 (oo 101 (.ex 1 (tt 94)))] (.path [dh 8 [2, 0] (oo 15 (.al [.slice none 0 0, .slice none 0 0]))] (.path [dh 9 [] (on (.st 2 (tt 15) (tt 100)))] (.path [dl 10 (oo 16 (.mv (tt 101)))] .fin))))))) (.path [dh 8 [2, 0] (oo 15 (.al [.slice none 0 0, .slice none 0 0]))] (.path [dh 4 [2, 0] (oo 99 (.call (ff 30) [tt 96, tt 98]))] (.path [dl 5 (oo 94 (.mv (tt 99)))] (.path [dl 6 (oo 100 (.ex 0 (tt 94)))] (.path [dl 7 (oo 101 (.ex 1 (tt 94)))] (.path [dh 9 [] (on (.st 2 (tt 15) (tt 100)))] (.path [dl 10 (oo 16 (.mv (tt 101)))] .fin))))))))) (.path [dh 8 [2, 0] (oo 15 (.al [.slice none 0 0, .slice none 0 0]))] (.path [dh 3 [0] (oo 98 (.call (ff 17) [tt 97]))] (.path [dh 4 [2, 0] (oo 99 (.call (ff 30) [tt 96, tt 98]))] (.path [dl 5 (oo 94 (.mv (tt 99)))] (.path [dl 6 (oo 100 (.ex 0 (tt 94)))] (.path [dl 7 (oo 101 (.ex 1 (tt 94)))] (.path [dh 9 [] (on (.st 2 (tt 15) (tt 100)))] (.path [dl 10 (oo 16 (.mv (tt 101)))] .fin)))))))))) (.path [dh 8 [2, 0] (oo 15 (.al [.slice none 0 0, .slice none 0 0]))] (.path [dh 1 [2] (oo 96 (.call (ff 17) [tt 95]))] (.path [dh 3 [0] (oo 98 (.call (ff 17) [tt 97]))] (.path [dh 4 [2, 0] (oo 99 (.call (ff 30) [tt 96, tt 98]))] (.path [dl 5 (oo 94 (.mv (tt 99)))] (.path [dl 6 (oo 100 (.ex 0 (tt 94)))] (.path [dl 7 (oo 101 (.ex 1 (tt 94)))] (.path [dh 9 [] (on (.st 2 (tt 15) (tt 100)))] (.path [dl 10 (oo 16 (.mv (tt 101)))] .fin))))))))))))
abbrev c_laws_FnExactJoinTables_32 : List GOp := [oo 102 (.ldn 2 (tt 15)), oo 103 (.ldn 2 (tt 6)), oo 104 (.call (ff 19) [tt 102, tt 103]), oo 105 (.un .not (tt 104)), oo 106 (.mv (tt 105)), og 107 106 false (.mv (tt 16)), og 108 106 false (.mv (tt 7)), og 109 106 false (.bin .neq (tt 107) (tt 108)), oo 110 (.pick (tt 106) (cb  true) (tt 109))]
abbrev c_laws_FnExactJoinTables_33 : List GOp := [oo 4 (.mv (cb  false))]
abbrev c_laws_FnExactJoinTables_34 : List GOp := [oo 14 (.mv (ci 1))]
abbrev c_laws_FnExactJoinTables_35 : List GOp := [oo 111 (.ldn 2 (tt 10)), oo 112 (.mv (tt 14)), oo 113 (.call (ff 26) [tt 111, tt 112]), oo 14 (.mv (tt 113))]
abbrev c_laws_FnExactJoinTables_36 : List GOp := [oo 114 (.mv (tt 14)), oo 115 (.bin .lss (tt 114) (ci 0))]
abbrev c_laws_FnExactJoinTables_37 : List GOp := [oo 4 (.mv (cb  false))]
abbrev c_laws_FnExactJoinTables_38 : List GOp := [oo 116 (.mv (tt 14)), oo 117 (.mv (tt 13)), oo 118 (.bin .neq (tt 116) (tt 117))]
abbrev c_laws_FnExactJoinTables_39 : List GOp := [oo 4 (.mv (cb  false))]
abbrev c_laws_FnExactJoinTables_40 : List GOp := [oo 4 (.mv (cb  true))]
abbrev c_laws_FnExactJoinTables : GCode := .seq (.reg c_laws_FnExactJoinTables_0) (.seq (.reg c_laws_FnExactJoinTables_1) (.seq (.reg c_laws_FnExactJoinTables_2) (.seq (.seq (.reg c_laws_FnExactJoinTables_3) (.cond (tt 21) (.seq (.reg c_laws_FnExactJoinTables_4) (.ret)) (.skip))) (.seq (.reg c_laws_FnExactJoinTables_5) (.seq (.seq (.reg c_laws_FnExactJoinTables_6) (.cond (tt 26) (.seq (.reg c_laws_FnExactJoinTables_7) (.ret)) (.skip))) (.seq (.dtree c_laws_FnExactJoinTables_8) (.seq (.reg c_laws_FnExactJoinTables_9) (.seq (.reg c_laws_FnExactJoinTables_10) (.seq (.reg c_laws_FnExactJoinTables_11) (.seq (.seq (.reg c_laws_FnExactJoinTables_12) (.cond (tt 53) (.seq (.reg c_laws_FnExactJoinTables_13) (.ret)) (.skip))) (.seq (.seq (.dreg c_laws_FnExactJoinTables_14) (.cond (tt 58) (.seq (.reg c_laws_FnExactJoinTables_15) (.ret)) (.skip))) (.seq (.seq (.dreg c_laws_FnExactJoinTables_16) (.cond (tt 63) (.seq (.reg c_laws_FnExactJoinTables_17) (.ret)) (.skip))) (.seq (.reg c_laws_FnExactJoinTables_18) (.seq (.reg c_laws_FnExactJoinTables_19) (.seq (.reg c_laws_FnExactJoinTables_20) (.seq (.seq (.reg c_laws_FnExactJoinTables_21) (.cond (tt 82) (.seq (.reg c_laws_FnExactJoinTables_22) (.ret)) (.skip))) (.seq (.reg c_laws_FnExactJoinTables_23) (.seq (.reg c_laws_FnExactJoinTables_24) (.seq (.reg c_laws_FnExactJoinTables_25) (.seq (.reg c_laws_FnExactJoinTables_26) (.seq (.seq (.reg c_laws_FnExactJoinTables_27) (.cond (tt 90) (.seq (.reg c_laws_FnExactJoinTables_28) (.ret)) (.skip))) (.seq (.seq (.reg c_laws_FnExactJoinTables_29) (.cond (tt 93) (.seq (.reg c_laws_FnExactJoinTables_30) (.ret)) (.skip))) (.seq (.dtree c_laws_FnExactJoinTables_31) (.seq (.seq (.reg c_laws_FnExactJoinTables_32) (.cond (tt 110) (.seq (.reg c_laws_FnExactJoinTables_33) (.ret)) (.skip))) (.seq (.reg c_laws_FnExactJoinTables_34) (.seq (.reg c_laws_FnExactJoinTables_35) (.seq (.seq (.reg c_laws_FnExactJoinTables_36) (.cond (tt 115) (.seq (.reg c_laws_FnExactJoinTables_37) (.ret)) (.skip))) (.seq (.seq (.reg c_laws_FnExactJoinTables_38) (.cond (tt 118) (.seq (.reg c_laws_FnExactJoinTables_39) (.ret)) (.skip))) (.seq (.reg c_laws_FnExactJoinTables_40) (.ret))))))))))))))))))))))))))))))
theorem c_laws_FnExactJoinTables_d : decFn Try.prog Try.f7 = some (119, [.t 4], c_laws_FnExactJoinTables) := by kernel_rfl
theorem c_laws_FnExactJoinTables_i {args : List Value} {G : GH} {K : Value → GH → Prop} (hn : args.length ≤ 119) (h : gW Try.prog c_laws_FnExactJoinTables (RetK [.t 4] K) (T0 args) G) : GC Try.prog 7 args G K := GC_intro mixed Try.func7 c_laws_FnExactJoinTables_d hn h
abbrev c_laws_eqInt64S_0 : List GOp := [oo 4 (.mv (cb  false))]
abbrev c_laws_eqInt64S_1 : List GOp := [oo 6 (.mv (tt 0)), oo 7 (.len (tt 6)), oo 8 (.mv (tt 1)), oo 9 (.len (tt 8)), oo 10 (.bin .neq (tt 7) (tt 9))]
abbrev c_laws_eqInt64S_2 : List GOp := [oo 4 (.mv (cb  false))]
abbrev c_laws_eqInt64S_3 : List GOp := [oo 5 (.mv (ci 0))]
abbrev c_laws_eqInt64S_4 : List GOp := [oo 11 (.mv (tt 5)), oo 12 (.mv (tt 0)), oo 13 (.len (tt 12)), oo 14 (.bin .lss (tt 11) (tt 13))]
abbrev c_laws_eqInt64S_5 : List DOp := [dl 0 (oo 17 (.mv (tt 0))), dl 1 (oo 18 (.mv (tt 5))), dl 2 (oo 19 (.ia 1 (tt 17) (tt 18))), dl 3 (oo 20 (.ld (tt 19))), dl 4 (oo 21 (.mv (tt 1))), dl 5 (oo 22 (.mv (tt 5))), dl 6 (oo 23 (.ia 1 (tt 21) (tt 22))), dl 7 (oo 24 (.ld (tt 23))), dl 8 (oo 25 (.bin .neq (tt 20) (tt 24)))]
abbrev c_laws_eqInt64S_6 : List GOp := [oo 4 (.mv (cb  false))]
abbrev c_laws_eqInt64S_7 : List GOp := [oo 15 (.mv (tt 5)), oo 16 (.bin .add (tt 15) (ci 1)), oo 5 (.mv (tt 16))]
abbrev c_laws_eqInt64S_l0 : GCode := .seq (.seq (.reg c_laws_eqInt64S_4) (.cond (tt 14) (.skip) (.exit 0))) (.seq (.blk 1 (.seq (.dreg c_laws_eqInt64S_5) (.cond (tt 25) (.seq (.reg c_laws_eqInt64S_6) (.ret)) (.skip)))) (.reg c_laws_eqInt64S_7))
abbrev c_laws_eqInt64S_9 : List GOp := [oo 4 (.mv (cb  true))]
abbrev c_laws_eqInt64S : GCode := .seq (.reg c_laws_eqInt64S_0) (.seq (.seq (.reg c_laws_eqInt64S_1) (.cond (tt 10) (.seq (.reg c_laws_eqInt64S_2) (.ret)) (.skip))) (.seq (.seq (.reg c_laws_eqInt64S_3) (.blk 0 (.loop c_laws_eqInt64S_l0))) (.seq (.reg c_laws_eqInt64S_9) (.ret))))
theorem c_laws_eqInt64S_d : decFn Try.prog Try.f23 = some (26, [.t 4], c_laws_eqInt64S) := by kernel_rfl
theorem c_laws_eqInt64S_i {args : List Value} {G : GH} {K : Value → GH → Prop} (hn : args.length ≤ 26) (h : gW Try.prog c_laws_eqInt64S (RetK [.t 4] K) (T0 args) G) : GC Try.prog 23 args G K := GC_intro mixed Try.func23 c_laws_eqInt64S_d hn h
abbrev c_laws_eqInt64SS_0 : List GOp := [oo 4 (.mv (cb  false))]
abbrev c_laws_eqInt64SS_1 : List GOp := [oo 6 (.mv (tt 0)), oo 7 (.len (tt 6)), oo 8 (.mv (tt 1)), oo 9 (.len (tt 8)), oo 10 (.bin .neq (tt 7) (tt 9))]
abbrev c_laws_eqInt64SS_2 : List GOp := [oo 4 (.mv (cb  false))]
abbrev c_laws_eqInt64SS_3 : List GOp := [oo 5 (.mv (ci 0))]
abbrev c_laws_eqInt64SS_4 : List GOp := [oo 11 (.mv (tt 5)), oo 12 (.mv (tt 0)), oo 13 (.len (tt 12)), oo 14 (.bin .lss (tt 11) (tt 13))]
abbrev c_laws_eqInt64SS_5 : List DOp := [dl 0 (oo 17 (.mv (tt 0))), dl 1 (oo 18 (.mv (tt 5))), dl 2 (oo 19 (.ia 1 (tt 17) (tt 18))), dl 3 (oo 20 (.ld (tt 19))), dl 4 (oo 21 (.mv (tt 1))), dl 5 (oo 22 (.mv (tt 5))), dl 6 (oo 23 (.ia 1 (tt 21) (tt 22))), dl 7 (oo 24 (.ld (tt 23))), dh 8 [] (oo 25 (.call (ff 23) [tt 20, tt 24])), dl 9 (oo 26 (.un .not (tt 25)))]
abbrev c_laws_eqInt64SS_6 : List GOp := [oo 4 (.mv (cb  false))]
abbrev c_laws_eqInt64SS_7 : List GOp := [oo 15 (.mv (tt 5)), oo 16 (.bin .add (tt 15) (ci 1)), oo 5 (.mv (tt 16))]
abbrev c_laws_eqInt64SS_l0 : GCode := .seq (.seq (.reg c_laws_eqInt64SS_4) (.cond (tt 14) (.skip) (.exit 0))) (.seq (.blk 1 (.seq (.dreg c_laws_eqInt64SS_5) (.cond (tt 26) (.seq (.reg c_laws_eqInt64SS_6) (.ret)) (.skip)))) (.reg c_laws_eqInt64SS_7))
abbrev c_laws_eqInt64SS_9 : List GOp := [oo 4 (.mv (cb  true))]
abbrev c_laws_eqInt64SS : GCode := .seq (.reg c_laws_eqInt64SS_0) (.seq (.seq (.reg c_laws_eqInt64SS_1) (.cond (tt 10) (.seq (.reg c_laws_eqInt64SS_2) (.ret)) (.skip))) (.seq (.seq (.reg c_laws_eqInt64SS_3) (.blk 0 (.loop c_laws_eqInt64SS_l0))) (.seq (.reg c_laws_eqInt64SS_9) (.ret))))
theorem c_laws_eqInt64SS_d : decFn Try.prog Try.f48 = some (27, [.t 4], c_laws_eqInt64SS) := by kernel_rfl
theorem c_laws_eqInt64SS_i {args : List Value} {G : GH} {K : Value → GH → Prop} (hn : args.length ≤ 27) (h : gW Try.prog c_laws_eqInt64SS (RetK [.t 4] K) (T0 args) G) : GC Try.prog 48 args G K := GC_intro mixed Try.func48 c_laws_eqInt64SS_d hn h
abbrev c_laws_eqTable_0 : List GOp := [oo 2 (.bx (tt 0)), oo 3 (.bx (tt 1)), oo 4 (.mv (cb  false))]
abbrev c_laws_eqTable_1 : List GOp := [oo 5 (.fa 0 (tt 2)), oo 6 (.ld (tt 5)), oo 7 (.fa 0 (tt 3)), oo 8 (.ld (tt 7)), oo 9 (.call (ff 23) [tt 6, tt 8]), oo 10 (.un .not (tt 9))]
abbrev c_laws_eqTable_2 : List GOp := [oo 4 (.mv (cb  false))]
abbrev c_laws_eqTable_3 : List GOp := [oo 11 (.fa 1 (tt 2)), oo 12 (.ld (tt 11)), oo 13 (.fa 1 (tt 3)), oo 14 (.ld (tt 13)), oo 15 (.call (ff 48) [tt 12, tt 14]), oo 16 (.un .not (tt 15))]
abbrev c_laws_eqTable_4 : List GOp := [oo 4 (.mv (cb  false))]
abbrev c_laws_eqTable_5 : List GOp := [oo 4 (.mv (cb  true))]
abbrev c_laws_eqTable : GCode := .seq (.reg c_laws_eqTable_0) (.seq (.seq (.reg c_laws_eqTable_1) (.cond (tt 10) (.seq (.reg c_laws_eqTable_2) (.ret)) (.skip))) (.seq (.seq (.reg c_laws_eqTable_3) (.cond (tt 16) (.seq (.reg c_laws_eqTable_4) (.ret)) (.skip))) (.seq (.reg c_laws_eqTable_5) (.ret))))
theorem c_laws_eqTable_d : decFn Try.prog Try.f19 = some (17, [.t 4], c_laws_eqTable) := by kernel_rfl
theorem c_laws_eqTable_i {args : List Value} {G : GH} {K : Value → GH → Prop} (hn : args.length ≤ 17) (h : gW Try.prog c_laws_eqTable (RetK [.t 4] K) (T0 args) G) : GC Try.prog 19 args G K := GC_intro mixed Try.func19 c_laws_eqTable_d hn h
abbrev c_laws_heldInt64S_0 : List GOp := [oo 4 (.mv (ci 0))]
abbrev c_laws_heldInt64S_1 : List GOp := [oo 5 (.mv (ci 0))]
abbrev c_laws_heldInt64S_2 : List GOp := [oo 6 (.mv (tt 5)), oo 7 (.mv (tt 0)), oo 8 (.len (tt 7)), oo 9 (.bin .lss (tt 6) (tt 8))]
abbrev c_laws_heldInt64S_3 : List GOp := [oo 12 (.mv (tt 0)), oo 13 (.mv (tt 5)), oo 14 (.ia 1 (tt 12) (tt 13)), oo 15 (.ld (tt 14)), oo 16 (.mv (tt 1)), oo 17 (.bin .neq (tt 15) (tt 16))]
abbrev c_laws_heldInt64S_4 : List GOp := [oo 4 (.mv (ci (-1)))]
abbrev c_laws_heldInt64S_5 : List GOp := [oo 18 (.mv (tt 1)), oo 19 (.bin .add (tt 18) (ci 1)), oo 1 (.mv (tt 19))]
abbrev c_laws_heldInt64S_6 : List GOp := [oo 10 (.mv (tt 5)), oo 11 (.bin .add (tt 10) (ci 1)), oo 5 (.mv (tt 11))]
abbrev c_laws_heldInt64S_l0 : GCode := .seq (.seq (.reg c_laws_heldInt64S_2) (.cond (tt 9) (.skip) (.exit 0))) (.seq (.blk 1 (.seq (.seq (.reg c_laws_heldInt64S_3) (.cond (tt 17) (.seq (.reg c_laws_heldInt64S_4) (.ret)) (.skip))) (.reg c_laws_heldInt64S_5))) (.reg c_laws_heldInt64S_6))
abbrev c_laws_heldInt64S_8 : List GOp := [oo 20 (.mv (tt 1)), oo 4 (.mv (tt 20))]
abbrev c_laws_heldInt64S : GCode := .seq (.reg c_laws_heldInt64S_0) (.seq (.seq (.reg c_laws_heldInt64S_1) (.blk 0 (.loop c_laws_heldInt64S_l0))) (.seq (.reg c_laws_heldInt64S_8) (.ret)))
theorem c_laws_heldInt64S_d : decFn Try.prog Try.f39 = some (21, [.t 4], c_laws_heldInt64S) := by kernel_rfl
theorem c_laws_heldInt64S_i {args : List Value} {G : GH} {K : Value → GH → Prop} (hn : args.length ≤ 21) (h : gW Try.prog c_laws_heldInt64S (RetK [.t 4] K) (T0 args) G) : GC Try.prog 39 args G K := GC_intro mixed Try.func39 c_laws_heldInt64S_d hn h
abbrev c_laws_heldInt64SS_0 : List GOp := [oo 4 (.mv (ci 0))]
abbrev c_laws_heldInt64SS_1 : List GOp := [oo 5 (.mv (ci 0))]
abbrev c_laws_heldInt64SS_2 : List GOp := [oo 6 (.mv (tt 5)), oo 7 (.mv (tt 0)), oo 8 (.len (tt 7)), oo 9 (.bin .lss (tt 6) (tt 8))]
abbrev c_laws_heldInt64SS_3 : List GOp := [oo 12 (.mv (tt 0)), oo 13 (.mv (tt 5)), oo 14 (.ia 1 (tt 12) (tt 13)), oo 15 (.ld (tt 14)), oo 16 (.mv (tt 1)), oo 17 (.call (ff 39) [tt 15, tt 16]), oo 1 (.mv (tt 17))]
abbrev c_laws_heldInt64SS_4 : List GOp := [oo 18 (.mv (tt 1)), oo 19 (.bin .lss (tt 18) (ci 0))]
abbrev c_laws_heldInt64SS_5 : List GOp := [oo 4 (.mv (ci (-1)))]
abbrev c_laws_heldInt64SS_6 : List GOp := [oo 10 (.mv (tt 5)), oo 11 (.bin .add (tt 10) (ci 1)), oo 5 (.mv (tt 11))]
abbrev c_laws_heldInt64SS_l0 : GCode := .seq (.seq (.reg c_laws_heldInt64SS_2) (.cond (tt 9) (.skip) (.exit 0))) (.seq (.blk 1 (.seq (.reg c_laws_heldInt64SS_3) (.seq (.reg c_laws_heldInt64SS_4) (.cond (tt 19) (.seq (.reg c_laws_heldInt64SS_5) (.ret)) (.skip))))) (.reg c_laws_heldInt64SS_6))
abbrev c_laws_heldInt64SS_8 : List GOp := [oo 20 (.mv (tt 1)), oo 4 (.mv (tt 20))]
abbrev c_laws_heldInt64SS : GCode := .seq (.reg c_laws_heldInt64SS_0) (.seq (.seq (.reg c_laws_heldInt64SS_1) (.blk 0 (.loop c_laws_heldInt64SS_l0))) (.seq (.reg c_laws_heldInt64SS_8) (.ret)))
theorem c_laws_heldInt64SS_d : decFn Try.prog Try.f40 = some (21, [.t 4], c_laws_heldInt64SS) := by kernel_rfl
theorem c_laws_heldInt64SS_i {args : List Value} {G : GH} {K : Value → GH → Prop} (hn : args.length ≤ 21) (h : gW Try.prog c_laws_heldInt64SS (RetK [.t 4] K) (T0 args) G) : GC Try.prog 40 args G K := GC_intro mixed Try.func40 c_laws_heldInt64SS_d hn h
abbrev c_laws_heldTable_0 : List GOp := [oo 2 (.bx (tt 0)), oo 4 (.mv (ci 0))]
abbrev c_laws_heldTable_1 : List GOp := [oo 5 (.fa 0 (tt 2)), oo 6 (.ld (tt 5)), oo 7 (.mv (tt 1)), oo 8 (.call (ff 39) [tt 6, tt 7]), oo 1 (.mv (tt 8))]
abbrev c_laws_heldTable_2 : List GOp := [oo 9 (.mv (tt 1)), oo 10 (.bin .lss (tt 9) (ci 0))]
abbrev c_laws_heldTable_3 : List GOp := [oo 4 (.mv (ci (-1)))]
abbrev c_laws_heldTable_4 : List GOp := [oo 11 (.fa 1 (tt 2)), oo 12 (.ld (tt 11)), oo 13 (.mv (tt 1)), oo 14 (.call (ff 40) [tt 12, tt 13]), oo 1 (.mv (tt 14))]
abbrev c_laws_heldTable_5 : List GOp := [oo 15 (.mv (tt 1)), oo 16 (.bin .lss (tt 15) (ci 0))]
abbrev c_laws_heldTable_6 : List GOp := [oo 4 (.mv (ci (-1)))]
abbrev c_laws_heldTable_7 : List GOp := [oo 17 (.mv (tt 1)), oo 4 (.mv (tt 17))]
abbrev c_laws_heldTable : GCode := .seq (.reg c_laws_heldTable_0) (.seq (.reg c_laws_heldTable_1) (.seq (.seq (.reg c_laws_heldTable_2) (.cond (tt 10) (.seq (.reg c_laws_heldTable_3) (.ret)) (.skip))) (.seq (.reg c_laws_heldTable_4) (.seq (.seq (.reg c_laws_heldTable_5) (.cond (tt 16) (.seq (.reg c_laws_heldTable_6) (.ret)) (.skip))) (.seq (.reg c_laws_heldTable_7) (.ret))))))
theorem c_laws_heldTable_d : decFn Try.prog Try.f26 = some (18, [.t 4], c_laws_heldTable) := by kernel_rfl
theorem c_laws_heldTable_i {args : List Value} {G : GH} {K : Value → GH → Prop} (hn : args.length ≤ 18) (h : gW Try.prog c_laws_heldTable (RetK [.t 4] K) (T0 args) G) : GC Try.prog 26 args G K := GC_intro mixed Try.func26 c_laws_heldTable_d hn h
abbrev c_laws_markInt64S_0 : List GOp := [oo 4 (.mv (ci 0))]
abbrev c_laws_markInt64S_1 : List GOp := [oo 5 (.mv (ci 0))]
abbrev c_laws_markInt64S_2 : List GOp := [oo 6 (.mv (tt 5)), oo 7 (.mv (tt 0)), oo 8 (.len (tt 7)), oo 9 (.bin .lss (tt 6) (tt 8))]
abbrev c_laws_markInt64S_3 : List GOp := [oo 12 (.mv (tt 0)), oo 13 (.mv (tt 5)), oo 14 (.mv (tt 1)), oo 15 (.ia 1 (tt 12) (tt 13)), on (.st 1 (tt 15) (tt 14))]
abbrev c_laws_markInt64S_4 : List GOp := [oo 16 (.mv (tt 1)), oo 17 (.bin .add (tt 16) (ci 1)), oo 1 (.mv (tt 17))]
abbrev c_laws_markInt64S_5 : List GOp := [oo 10 (.mv (tt 5)), oo 11 (.bin .add (tt 10) (ci 1)), oo 5 (.mv (tt 11))]
abbrev c_laws_markInt64S_l0 : GCode := .seq (.seq (.reg c_laws_markInt64S_2) (.cond (tt 9) (.skip) (.exit 0))) (.seq (.blk 1 (.seq (.reg c_laws_markInt64S_3) (.reg c_laws_markInt64S_4))) (.reg c_laws_markInt64S_5))
abbrev c_laws_markInt64S_7 : List GOp := [oo 18 (.mv (tt 1)), oo 4 (.mv (tt 18))]
abbrev c_laws_markInt64S : GCode := .seq (.reg c_laws_markInt64S_0) (.seq (.seq (.reg c_laws_markInt64S_1) (.blk 0 (.loop c_laws_markInt64S_l0))) (.seq (.reg c_laws_markInt64S_7) (.ret)))
theorem c_laws_markInt64S_d : decFn Try.prog Try.f25 = some (19, [.t 4], c_laws_markInt64S) := by kernel_rfl
theorem c_laws_markInt64S_i {args : List Value} {G : GH} {K : Value → GH → Prop} (hn : args.length ≤ 19) (h : gW Try.prog c_laws_markInt64S (RetK [.t 4] K) (T0 args) G) : GC Try.prog 25 args G K := GC_intro mixed Try.func25 c_laws_markInt64S_d hn h
abbrev c_laws_markInt64SS_0 : List GOp := [oo 4 (.mv (ci 0))]
abbrev c_laws_markInt64SS_1 : List GOp := [oo 5 (.mv (ci 0))]
abbrev c_laws_markInt64SS_2 : List GOp := [oo 6 (.mv (tt 5)), oo 7 (.mv (tt 0)), oo 8 (.len (tt 7)), oo 9 (.bin .lss (tt 6) (tt 8))]
abbrev c_laws_markInt64SS_3 : List GOp := [oo 12 (.mv (tt 0)), oo 13 (.mv (tt 5)), oo 14 (.ia 1 (tt 12) (tt 13)), oo 15 (.ld (tt 14)), oo 16 (.mv (tt 1)), oo 17 (.call (ff 25) [tt 15, tt 16]), oo 1 (.mv (tt 17))]
abbrev c_laws_markInt64SS_4 : List GOp := [oo 10 (.mv (tt 5)), oo 11 (.bin .add (tt 10) (ci 1)), oo 5 (.mv (tt 11))]
abbrev c_laws_markInt64SS_l0 : GCode := .seq (.seq (.reg c_laws_markInt64SS_2) (.cond (tt 9) (.skip) (.exit 0))) (.seq (.blk 1 (.reg c_laws_markInt64SS_3)) (.reg c_laws_markInt64SS_4))
abbrev c_laws_markInt64SS_6 : List GOp := [oo 18 (.mv (tt 1)), oo 4 (.mv (tt 18))]
abbrev c_laws_markInt64SS : GCode := .seq (.reg c_laws_markInt64SS_0) (.seq (.seq (.reg c_laws_markInt64SS_1) (.blk 0 (.loop c_laws_markInt64SS_l0))) (.seq (.reg c_laws_markInt64SS_6) (.ret)))
theorem c_laws_markInt64SS_d : decFn Try.prog Try.f38 = some (19, [.t 4], c_laws_markInt64SS) := by kernel_rfl
theorem c_laws_markInt64SS_i {args : List Value} {G : GH} {K : Value → GH → Prop} (hn : args.length ≤ 19) (h : gW Try.prog c_laws_markInt64SS (RetK [.t 4] K) (T0 args) G) : GC Try.prog 38 args G K := GC_intro mixed Try.func38 c_laws_markInt64SS_d hn h
abbrev c_laws_markTable_0 : List GOp := [oo 2 (.bx (tt 0)), oo 4 (.mv (ci 0))]
abbrev c_laws_markTable_1 : List GOp := [oo 5 (.fa 0 (tt 2)), oo 6 (.ld (tt 5)), oo 7 (.mv (tt 1)), oo 8 (.call (ff 25) [tt 6, tt 7]), oo 1 (.mv (tt 8))]
abbrev c_laws_markTable_2 : List GOp := [oo 9 (.fa 1 (tt 2)), oo 10 (.ld (tt 9)), oo 11 (.mv (tt 1)), oo 12 (.call (ff 38) [tt 10, tt 11]), oo 1 (.mv (tt 12))]
abbrev c_laws_markTable_3 : List GOp := [oo 13 (.mv (tt 1)), oo 4 (.mv (tt 13))]
abbrev c_laws_markTable : GCode := .seq (.reg c_laws_markTable_0) (.seq (.reg c_laws_markTable_1) (.seq (.reg c_laws_markTable_2) (.seq (.reg c_laws_markTable_3) (.ret))))
theorem c_laws_markTable_d : decFn Try.prog Try.f24 = some (14, [.t 4], c_laws_markTable) := by kernel_rfl
theorem c_laws_markTable_i {args : List Value} {G : GH} {K : Value → GH → Prop} (hn : args.length ≤ 14) (h : gW Try.prog c_laws_markTable (RetK [.t 4] K) (T0 args) G) : GC Try.prog 24 args G K := GC_intro mixed Try.func24 c_laws_markTable_d hn h
abbrev c_laws_szInt64S_0 : List GOp := [oo 4 (.mv (ci 0))]
abbrev c_laws_szInt64S_1 : List GOp := [oo 5 (.mv (tt 1)), oo 6 (.mv (tt 0)), oo 7 (.len (tt 6)), oo 8 (.bin .sub (tt 5) (tt 7)), oo 1 (.mv (tt 8))]
abbrev c_laws_szInt64S_2 : List GOp := [oo 9 (.mv (tt 1)), oo 10 (.bin .lss (tt 9) (ci 0))]
abbrev c_laws_szInt64S_3 : List GOp := [oo 4 (.mv (ci (-1)))]
abbrev c_laws_szInt64S_4 : List GOp := [oo 11 (.mv (tt 1)), oo 4 (.mv (tt 11))]
abbrev c_laws_szInt64S : GCode := .seq (.reg c_laws_szInt64S_0) (.seq (.reg c_laws_szInt64S_1) (.seq (.seq (.reg c_laws_szInt64S_2) (.cond (tt 10) (.seq (.reg c_laws_szInt64S_3) (.ret)) (.skip))) (.seq (.reg c_laws_szInt64S_4) (.ret))))
theorem c_laws_szInt64S_d : decFn Try.prog Try.f41 = some (12, [.t 4], c_laws_szInt64S) := by kernel_rfl
theorem c_laws_szInt64S_i {args : List Value} {G : GH} {K : Value → GH → Prop} (hn : args.length ≤ 12) (h : gW Try.prog c_laws_szInt64S (RetK [.t 4] K) (T0 args) G) : GC Try.prog 41 args G K := GC_intro mixed Try.func41 c_laws_szInt64S_d hn h
abbrev c_laws_szInt64SS_0 : List GOp := [oo 4 (.mv (ci 0))]
abbrev c_laws_szInt64SS_1 : List GOp := [oo 6 (.mv (tt 1)), oo 7 (.mv (tt 0)), oo 8 (.len (tt 7)), oo 9 (.bin .sub (tt 6) (tt 8)), oo 1 (.mv (tt 9))]
abbrev c_laws_szInt64SS_2 : List GOp := [oo 10 (.mv (tt 1)), oo 11 (.bin .lss (tt 10) (ci 0))]
abbrev c_laws_szInt64SS_3 : List GOp := [oo 4 (.mv (ci (-1)))]
abbrev c_laws_szInt64SS_4 : List GOp := [oo 5 (.mv (ci 0))]
abbrev c_laws_szInt64SS_5 : List GOp := [oo 12 (.mv (tt 5)), oo 13 (.mv (tt 0)), oo 14 (.len (tt 13)), oo 15 (.bin .lss (tt 12) (tt 14))]
abbrev c_laws_szInt64SS_6 : List GOp := [oo 18 (.mv (tt 0)), oo 19 (.mv (tt 5)), oo 20 (.ia 1 (tt 18) (tt 19)), oo 21 (.ld (tt 20)), oo 22 (.mv (tt 1)), oo 23 (.call (ff 41) [tt 21, tt 22]), oo 1 (.mv (tt 23))]
abbrev c_laws_szInt64SS_7 : List GOp := [oo 24 (.mv (tt 1)), oo 25 (.bin .lss (tt 24) (ci 0))]
abbrev c_laws_szInt64SS_8 : List GOp := [oo 4 (.mv (ci (-1)))]
abbrev c_laws_szInt64SS_9 : List GOp := [oo 16 (.mv (tt 5)), oo 17 (.bin .add (tt 16) (ci 1)), oo 5 (.mv (tt 17))]
abbrev c_laws_szInt64SS_l0 : GCode := .seq (.seq (.reg c_laws_szInt64SS_5) (.cond (tt 15) (.skip) (.exit 0))) (.seq (.blk 1 (.seq (.reg c_laws_szInt64SS_6) (.seq (.reg c_laws_szInt64SS_7) (.cond (tt 25) (.seq (.reg c_laws_szInt64SS_8) (.ret)) (.skip))))) (.reg c_laws_szInt64SS_9))
abbrev c_laws_szInt64SS_11 : List GOp := [oo 26 (.mv (tt 1)), oo 4 (.mv (tt 26))]
abbrev c_laws_szInt64SS : GCode := .seq (.reg c_laws_szInt64SS_0) (.seq (.reg c_laws_szInt64SS_1) (.seq (.seq (.reg c_laws_szInt64SS_2) (.cond (tt 11) (.seq (.reg c_laws_szInt64SS_3) (.ret)) (.skip))) (.seq (.seq (.reg c_laws_szInt64SS_4) (.blk 0 (.loop c_laws_szInt64SS_l0))) (.seq (.reg c_laws_szInt64SS_11) (.ret)))))
theorem c_laws_szInt64SS_d : decFn Try.prog Try.f42 = some (27, [.t 4], c_laws_szInt64SS) := by kernel_rfl
theorem c_laws_szInt64SS_i {args : List Value} {G : GH} {K : Value → GH → Prop} (hn : args.length ≤ 27) (h : gW Try.prog c_laws_szInt64SS (RetK [.t 4] K) (T0 args) G) : GC Try.prog 42 args G K := GC_intro mixed Try.func42 c_laws_szInt64SS_d hn h
abbrev c_laws_szTable_0 : List GOp := [oo 2 (.bx (tt 0)), oo 4 (.mv (ci 0))]
abbrev c_laws_szTable_1 : List GOp := [oo 5 (.fa 0 (tt 2)), oo 6 (.ld (tt 5)), oo 7 (.mv (tt 1)), oo 8 (.call (ff 41) [tt 6, tt 7]), oo 1 (.mv (tt 8))]
abbrev c_laws_szTable_2 : List GOp := [oo 9 (.mv (tt 1)), oo 10 (.bin .lss (tt 9) (ci 0))]
abbrev c_laws_szTable_3 : List GOp := [oo 4 (.mv (ci (-1)))]
abbrev c_laws_szTable_4 : List GOp := [oo 11 (.fa 1 (tt 2)), oo 12 (.ld (tt 11)), oo 13 (.mv (tt 1)), oo 14 (.call (ff 42) [tt 12, tt 13]), oo 1 (.mv (tt 14))]
abbrev c_laws_szTable_5 : List GOp := [oo 15 (.mv (tt 1)), oo 16 (.bin .lss (tt 15) (ci 0))]
abbrev c_laws_szTable_6 : List GOp := [oo 4 (.mv (ci (-1)))]
abbrev c_laws_szTable_7 : List GOp := [oo 17 (.mv (tt 1)), oo 4 (.mv (tt 17))]
abbrev c_laws_szTable : GCode := .seq (.reg c_laws_szTable_0) (.seq (.reg c_laws_szTable_1) (.seq (.seq (.reg c_laws_szTable_2) (.cond (tt 10) (.seq (.reg c_laws_szTable_3) (.ret)) (.skip))) (.seq (.reg c_laws_szTable_4) (.seq (.seq (.reg c_laws_szTable_5) (.cond (tt 16) (.seq (.reg c_laws_szTable_6) (.ret)) (.skip))) (.seq (.reg c_laws_szTable_7) (.ret))))))
theorem c_laws_szTable_d : decFn Try.prog Try.f15 = some (18, [.t 4], c_laws_szTable) := by kernel_rfl
theorem c_laws_szTable_i {args : List Value} {G : GH} {K : Value → GH → Prop} (hn : args.length ≤ 18) (h : gW Try.prog c_laws_szTable (RetK [.t 4] K) (T0 args) G) : GC Try.prog 15 args G K := GC_intro mixed Try.func15 c_laws_szTable_d hn h
abbrev c_laws_toInt64S_0 : List GOp := [oo 2 (.mv (.const (.slice none 0 0)))]
abbrev c_laws_toInt64S_1 : List GOp := [oo 5 (.mv (tt 0)), oo 6 (.len (tt 5)), oo 7 (.mk 1 8 [.int .i64 0] (tt 6) (tt 6)), oo 3 (.mv (tt 7))]
abbrev c_laws_toInt64S_2 : List GOp := [oo 4 (.mv (ci 0))]
abbrev c_laws_toInt64S_3 : List GOp := [oo 8 (.mv (tt 4)), oo 9 (.mv (tt 0)), oo 10 (.len (tt 9)), oo 11 (.bin .lss (tt 8) (tt 10))]
abbrev c_laws_toInt64S_4 : List GOp := [oo 14 (.mv (tt 3)), oo 15 (.mv (tt 4)), oo 16 (.mv (tt 0)), oo 17 (.mv (tt 4)), oo 18 (.ia 1 (tt 16) (tt 17)), oo 19 (.ld (tt 18)), oo 20 (.ia 1 (tt 14) (tt 15)), on (.st 1 (tt 20) (tt 19))]
abbrev c_laws_toInt64S_5 : List GOp := [oo 12 (.mv (tt 4)), oo 13 (.bin .add (tt 12) (ci 1)), oo 4 (.mv (tt 13))]
abbrev c_laws_toInt64S_l0 : GCode := .seq (.seq (.reg c_laws_toInt64S_3) (.cond (tt 11) (.skip) (.exit 0))) (.seq (.blk 1 (.reg c_laws_toInt64S_4)) (.reg c_laws_toInt64S_5))
abbrev c_laws_toInt64S_7 : List GOp := [oo 21 (.mv (tt 3)), oo 2 (.mv (tt 21))]
abbrev c_laws_toInt64S : GCode := .seq (.reg c_laws_toInt64S_0) (.seq (.reg c_laws_toInt64S_1) (.seq (.seq (.reg c_laws_toInt64S_2) (.blk 0 (.loop c_laws_toInt64S_l0))) (.seq (.reg c_laws_toInt64S_7) (.ret))))
theorem c_laws_toInt64S_d : decFn Try.prog Try.f21 = some (22, [.t 2], c_laws_toInt64S) := by kernel_rfl
theorem c_laws_toInt64S_i {args : List Value} {G : GH} {K : Value → GH → Prop} (hn : args.length ≤ 22) (h : gW Try.prog c_laws_toInt64S (RetK [.t 2] K) (T0 args) G) : GC Try.prog 21 args G K := GC_intro mixed Try.func21 c_laws_toInt64S_d hn h
abbrev c_laws_toInt64SS_0 : List GOp := [oo 2 (.mv (.const (.slice none 0 0)))]
abbrev c_laws_toInt64SS_1 : List GOp := [oo 5 (.mv (tt 0)), oo 6 (.len (tt 5)), oo 7 (.mk 1 24 [.slice none 0 0] (tt 6) (tt 6)), oo 3 (.mv (tt 7))]
abbrev c_laws_toInt64SS_2 : List GOp := [oo 4 (.mv (ci 0))]
abbrev c_laws_toInt64SS_3 : List GOp := [oo 8 (.mv (tt 4)), oo 9 (.mv (tt 0)), oo 10 (.len (tt 9)), oo 11 (.bin .lss (tt 8) (tt 10))]
abbrev c_laws_toInt64SS_4 : List GOp := [oo 14 (.mv (tt 3)), oo 15 (.mv (tt 4)), oo 16 (.mv (tt 0)), oo 17 (.mv (tt 4)), oo 18 (.ia 1 (tt 16) (tt 17)), oo 19 (.ld (tt 18)), oo 20 (.call (ff 21) [tt 19]), oo 21 (.ia 1 (tt 14) (tt 15)), on (.st 1 (tt 21) (tt 20))]
abbrev c_laws_toInt64SS_5 : List GOp := [oo 12 (.mv (tt 4)), oo 13 (.bin .add (tt 12) (ci 1)), oo 4 (.mv (tt 13))]
abbrev c_laws_toInt64SS_l0 : GCode := .seq (.seq (.reg c_laws_toInt64SS_3) (.cond (tt 11) (.skip) (.exit 0))) (.seq (.blk 1 (.reg c_laws_toInt64SS_4)) (.reg c_laws_toInt64SS_5))
abbrev c_laws_toInt64SS_7 : List GOp := [oo 22 (.mv (tt 3)), oo 2 (.mv (tt 22))]
abbrev c_laws_toInt64SS : GCode := .seq (.reg c_laws_toInt64SS_0) (.seq (.reg c_laws_toInt64SS_1) (.seq (.seq (.reg c_laws_toInt64SS_2) (.blk 0 (.loop c_laws_toInt64SS_l0))) (.seq (.reg c_laws_toInt64SS_7) (.ret))))
theorem c_laws_toInt64SS_d : decFn Try.prog Try.f45 = some (23, [.t 2], c_laws_toInt64SS) := by kernel_rfl
theorem c_laws_toInt64SS_i {args : List Value} {G : GH} {K : Value → GH → Prop} (hn : args.length ≤ 23) (h : gW Try.prog c_laws_toInt64SS (RetK [.t 2] K) (T0 args) G) : GC Try.prog 45 args G K := GC_intro mixed Try.func45 c_laws_toInt64SS_d hn h
abbrev c_laws_toTable_0 : List GOp := [oo 1 (.bx (tt 0)), oo 2 (.al [.slice none 0 0, .slice none 0 0])]
abbrev c_laws_toTable_1 : List GOp := [oo 3 (.al [.slice none 0 0, .slice none 0 0])]
abbrev c_laws_toTable_2 : List GOp := [oo 4 (.fa 0 (tt 1)), oo 5 (.ld (tt 4)), oo 6 (.call (ff 21) [tt 5]), oo 7 (.fa 0 (tt 3)), on (.st 1 (tt 7) (tt 6))]
abbrev c_laws_toTable_3 : List GOp := [oo 8 (.fa 1 (tt 1)), oo 9 (.ld (tt 8)), oo 10 (.call (ff 45) [tt 9]), oo 11 (.fa 1 (tt 3)), on (.st 1 (tt 11) (tt 10))]
abbrev c_laws_toTable_4 : List GOp := [oo 12 (.ldn 2 (tt 3)), on (.st 2 (tt 2) (tt 12))]
abbrev c_laws_toTable : GCode := .seq (.reg c_laws_toTable_0) (.seq (.reg c_laws_toTable_1) (.seq (.reg c_laws_toTable_2) (.seq (.reg c_laws_toTable_3) (.seq (.reg c_laws_toTable_4) (.ret)))))
theorem c_laws_toTable_d : decFn Try.prog Try.f17 = some (13, [.cn 2 2], c_laws_toTable) := by kernel_rfl
theorem c_laws_toTable_i {args : List Value} {G : GH} {K : Value → GH → Prop} (hn : args.length ≤ 13) (h : gW Try.prog c_laws_toTable (RetK [.cn 2 2] K) (T0 args) G) : GC Try.prog 17 args G K := GC_intro mixed Try.func17 c_laws_toTable_d hn h
abbrev c_slices_Clone_int64_int64_0 : List GOp := [oo 2 (.mv (.const (.slice none 0 0)))]
abbrev c_slices_Clone_int64_int64_1 : List GOp := [oo 3 (.mv (tt 0)), oo 4 (.eqs false (tt 3) (.const (.slice none 0 0)))]
abbrev c_slices_Clone_int64_int64_2 : List GOp := [oo 2 (.mv (.const (.slice none 0 0)))]
abbrev c_slices_Clone_int64_int64_3 : List GOp := [oo 5 (.bs 1 []), oo 6 (.mv (tt 0)), oo 7 (.ap 1 8 [.int .i64 0] (tt 5) (tt 6)), oo 2 (.mv (tt 7))]
abbrev c_slices_Clone_int64_int64 : GCode := .seq (.reg c_slices_Clone_int64_int64_0) (.seq (.seq (.reg c_slices_Clone_int64_int64_1) (.cond (tt 4) (.seq (.reg c_slices_Clone_int64_int64_2) (.ret)) (.skip))) (.seq (.reg c_slices_Clone_int64_int64_3) (.ret)))
theorem c_slices_Clone_int64_int64_d : decFn Try.prog Try.f35 = some (8, [.t 2], c_slices_Clone_int64_int64) := by kernel_rfl
theorem c_slices_Clone_int64_int64_i {args : List Value} {G : GH} {K : Value → GH → Prop} (hn : args.length ≤ 8) (h : gW Try.prog c_slices_Clone_int64_int64 (RetK [.t 2] K) (T0 args) G) : GC Try.prog 35 args G K := GC_intro mixed Try.func35 c_slices_Clone_int64_int64_d hn h
abbrev c_slices_CompactFunc_SS_int64_int64_0 : List GOp := [oo 4 (.mv (.const (.slice none 0 0)))]
abbrev c_slices_CompactFunc_SS_int64_int64_1 : List GOp := [oo 8 (.mv (tt 0)), oo 9 (.len (tt 8)), oo 10 (.bin .lss (tt 9) (ci 2))]
abbrev c_slices_CompactFunc_SS_int64_int64_2 : List GOp := [oo 11 (.mv (tt 0)), oo 4 (.mv (tt 11))]
abbrev c_slices_CompactFunc_SS_int64_int64_3 : List GOp := [oo 5 (.mv (ci 1))]
abbrev c_slices_CompactFunc_SS_int64_int64_4 : List GOp := [oo 12 (.mv (tt 5)), oo 13 (.mv (tt 0)), oo 14 (.len (tt 13)), oo 15 (.bin .lss (tt 12) (tt 14))]
abbrev c_slices_CompactFunc_SS_int64_int64_5 : List DOp := [dl 0 (oo 18 (.mv (tt 1))), dl 1 (oo 19 (.mv (tt 0))), dl 2 (oo 20 (.mv (tt 5))), dl 3 (oo 21 (.ia 1 (tt 19) (tt 20))), dl 4 (oo 22 (.ld (tt 21))), dl 5 (oo 23 (.mv (tt 0))), dl 6 (oo 24 (.mv (tt 5))), dl 7 (oo 25 (.bin .sub (tt 24) (ci 1))), dl 8 (oo 26 (.ia 1 (tt 23) (tt 25))), dl 9 (oo 27 (.ld (tt 26))), dh 10 [] (oo 28 (.call (tt 18) [tt 22, tt 27]))]
abbrev c_slices_CompactFunc_SS_int64_int64_6 : List GOp := [oo 29 (.mv (tt 0)), oo 30 (.mv (tt 5)), oo 31 (.sl 1 (tt 29) (some (tt 30)) none), oo 6 (.mv (tt 31))]
abbrev c_slices_CompactFunc_SS_int64_int64_7 : List GOp := [oo 7 (.mv (ci 1))]
abbrev c_slices_CompactFunc_SS_int64_int64_8 : List GOp := [oo 32 (.mv (tt 7)), oo 33 (.mv (tt 6)), oo 34 (.len (tt 33)), oo 35 (.bin .lss (tt 32) (tt 34))]
abbrev c_slices_CompactFunc_SS_int64_int64_9 : List DOp := [dl 0 (oo 38 (.mv (tt 1))), dl 1 (oo 39 (.mv (tt 6))), dl 2 (oo 40 (.mv (tt 7))), dl 3 (oo 41 (.ia 1 (tt 39) (tt 40))), dl 4 (oo 42 (.ld (tt 41))), dl 5 (oo 43 (.mv (tt 6))), dl 6 (oo 44 (.mv (tt 7))), dl 7 (oo 45 (.bin .sub (tt 44) (ci 1))), dl 8 (oo 46 (.ia 1 (tt 43) (tt 45))), dl 9 (oo 47 (.ld (tt 46))), dh 10 [] (oo 48 (.call (tt 38) [tt 42, tt 47])), dl 11 (oo 49 (.un .not (tt 48)))]
abbrev c_slices_CompactFunc_SS_int64_int64_10 : List GOp := [oo 50 (.mv (tt 0)), oo 51 (.mv (tt 5)), oo 52 (.mv (tt 6)), oo 53 (.mv (tt 7)), oo 54 (.ia 1 (tt 52) (tt 53)), oo 55 (.ld (tt 54)), oo 56 (.ia 1 (tt 50) (tt 51)), on (.st 1 (tt 56) (tt 55))]
abbrev c_slices_CompactFunc_SS_int64_int64_11 : List GOp := [oo 57 (.mv (tt 5)), oo 58 (.bin .add (tt 57) (ci 1)), oo 5 (.mv (tt 58))]
abbrev c_slices_CompactFunc_SS_int64_int64_12 : List GOp := [oo 36 (.mv (tt 7)), oo 37 (.bin .add (tt 36) (ci 1)), oo 7 (.mv (tt 37))]
abbrev c_slices_CompactFunc_SS_int64_int64_l0 : GCode := .seq (.seq (.reg c_slices_CompactFunc_SS_int64_int64_8) (.cond (tt 35) (.skip) (.exit 2))) (.seq (.blk 3 (.seq (.dreg c_slices_CompactFunc_SS_int64_int64_9) (.cond (tt 49) (.seq (.reg c_slices_CompactFunc_SS_int64_int64_10) (.reg c_slices_CompactFunc_SS_int64_int64_11)) (.skip)))) (.reg c_slices_CompactFunc_SS_int64_int64_12))
abbrev c_slices_CompactFunc_SS_int64_int64_14 : List GOp := [oo 59 (.mv (tt 0)), oo 60 (.mv (tt 5)), oo 61 (.sl 1 (tt 59) (some (tt 60)) none), on (.clr 1 [.slice none 0 0] (tt 61))]
abbrev c_slices_CompactFunc_SS_int64_int64_15 : List GOp := [oo 62 (.mv (tt 0)), oo 63 (.mv (tt 5)), oo 64 (.sl 1 (tt 62) none (some (tt 63))), oo 4 (.mv (tt 64))]
abbrev c_slices_CompactFunc_SS_int64_int64_16 : List GOp := [oo 16 (.mv (tt 5)), oo 17 (.bin .add (tt 16) (ci 1)), oo 5 (.mv (tt 17))]
abbrev c_slices_CompactFunc_SS_int64_int64_l1 : GCode := .seq (.seq (.reg c_slices_CompactFunc_SS_int64_int64_4) (.cond (tt 15) (.skip) (.exit 0))) (.seq (.blk 1 (.seq (.dreg c_slices_CompactFunc_SS_int64_int64_5) (.cond (tt 28) (.seq (.reg c_slices_CompactFunc_SS_int64_int64_6) (.seq (.seq (.reg c_slices_CompactFunc_SS_int64_int64_7) (.blk 2 (.loop c_slices_CompactFunc_SS_int64_int64_l0))) (.seq (.reg c_slices_CompactFunc_SS_int64_int64_14) (.seq (.reg c_slices_CompactFunc_SS_int64_int64_15) (.ret))))) (.skip)))) (.reg c_slices_CompactFunc_SS_int64_int64_16))
abbrev c_slices_CompactFunc_SS_int64_int64_18 : List GOp := [oo 65 (.mv (tt 0)), oo 4 (.mv (tt 65))]
abbrev c_slices_CompactFunc_SS_int64_int64 : GCode := .seq (.reg c_slices_CompactFunc_SS_int64_int64_0) (.seq (.seq (.reg c_slices_CompactFunc_SS_int64_int64_1) (.cond (tt 10) (.seq (.reg c_slices_CompactFunc_SS_int64_int64_2) (.ret)) (.skip))) (.seq (.seq (.reg c_slices_CompactFunc_SS_int64_int64_3) (.blk 0 (.loop c_slices_CompactFunc_SS_int64_int64_l1))) (.seq (.reg c_slices_CompactFunc_SS_int64_int64_18) (.ret))))
theorem c_slices_CompactFunc_SS_int64_int64_d : decFn Try.prog Try.f89 = some (66, [.t 4], c_slices_CompactFunc_SS_int64_int64) := by kernel_rfl
theorem c_slices_CompactFunc_SS_int64_int64_i {args : List Value} {G : GH} {K : Value → GH → Prop} (hn : args.length ≤ 66) (h : gW Try.prog c_slices_CompactFunc_SS_int64_int64 (RetK [.t 4] K) (T0 args) G) : GC Try.prog 89 args G K := GC_intro mixed Try.func89 c_slices_CompactFunc_SS_int64_int64_d hn h
abbrev c_slices_Compact_int64_int64_0 : List GOp := [oo 2 (.mv (.const (.slice none 0 0)))]
abbrev c_slices_Compact_int64_int64_1 : List GOp := [oo 6 (.mv (tt 0)), oo 7 (.len (tt 6)), oo 8 (.bin .lss (tt 7) (ci 2))]
abbrev c_slices_Compact_int64_int64_2 : List GOp := [oo 9 (.mv (tt 0)), oo 2 (.mv (tt 9))]
abbrev c_slices_Compact_int64_int64_3 : List GOp := [oo 3 (.mv (ci 1))]
abbrev c_slices_Compact_int64_int64_4 : List GOp := [oo 10 (.mv (tt 3)), oo 11 (.mv (tt 0)), oo 12 (.len (tt 11)), oo 13 (.bin .lss (tt 10) (tt 12))]
abbrev c_slices_Compact_int64_int64_5 : List DOp := [dl 0 (oo 16 (.mv (tt 0))), dl 1 (oo 17 (.mv (tt 3))), dl 2 (oo 18 (.ia 1 (tt 16) (tt 17))), dl 3 (oo 19 (.ld (tt 18))), dl 4 (oo 20 (.mv (tt 0))), dl 5 (oo 21 (.mv (tt 3))), dl 6 (oo 22 (.bin .sub (tt 21) (ci 1))), dl 7 (oo 23 (.ia 1 (tt 20) (tt 22))), dl 8 (oo 24 (.ld (tt 23))), dl 9 (oo 25 (.bin .eql (tt 19) (tt 24)))]
abbrev c_slices_Compact_int64_int64_6 : List GOp := [oo 26 (.mv (tt 0)), oo 27 (.mv (tt 3)), oo 28 (.sl 1 (tt 26) (some (tt 27)) none), oo 4 (.mv (tt 28))]
abbrev c_slices_Compact_int64_int64_7 : List GOp := [oo 5 (.mv (ci 1))]
abbrev c_slices_Compact_int64_int64_8 : List GOp := [oo 29 (.mv (tt 5)), oo 30 (.mv (tt 4)), oo 31 (.len (tt 30)), oo 32 (.bin .lss (tt 29) (tt 31))]
abbrev c_slices_Compact_int64_int64_9 : List DOp := [dl 0 (oo 35 (.mv (tt 4))), dl 1 (oo 36 (.mv (tt 5))), dl 2 (oo 37 (.ia 1 (tt 35) (tt 36))), dl 3 (oo 38 (.ld (tt 37))), dl 4 (oo 39 (.mv (tt 4))), dl 5 (oo 40 (.mv (tt 5))), dl 6 (oo 41 (.bin .sub (tt 40) (ci 1))), dl 7 (oo 42 (.ia 1 (tt 39) (tt 41))), dl 8 (oo 43 (.ld (tt 42))), dl 9 (oo 44 (.bin .neq (tt 38) (tt 43)))]
abbrev c_slices_Compact_int64_int64_10 : List GOp := [oo 45 (.mv (tt 0)), oo 46 (.mv (tt 3)), oo 47 (.mv (tt 4)), oo 48 (.mv (tt 5)), oo 49 (.ia 1 (tt 47) (tt 48)), oo 50 (.ld (tt 49)), oo 51 (.ia 1 (tt 45) (tt 46)), on (.st 1 (tt 51) (tt 50))]
abbrev c_slices_Compact_int64_int64_11 : List GOp := [oo 52 (.mv (tt 3)), oo 53 (.bin .add (tt 52) (ci 1)), oo 3 (.mv (tt 53))]
abbrev c_slices_Compact_int64_int64_12 : List GOp := [oo 33 (.mv (tt 5)), oo 34 (.bin .add (tt 33) (ci 1)), oo 5 (.mv (tt 34))]
abbrev c_slices_Compact_int64_int64_l0 : GCode := .seq (.seq (.reg c_slices_Compact_int64_int64_8) (.cond (tt 32) (.skip) (.exit 2))) (.seq (.blk 3 (.seq (.dreg c_slices_Compact_int64_int64_9) (.cond (tt 44) (.seq (.reg c_slices_Compact_int64_int64_10) (.reg c_slices_Compact_int64_int64_11)) (.skip)))) (.reg c_slices_Compact_int64_int64_12))
abbrev c_slices_Compact_int64_int64_14 : List GOp := [oo 54 (.mv (tt 0)), oo 55 (.mv (tt 3)), oo 56 (.sl 1 (tt 54) (some (tt 55)) none), on (.clr 1 [.int .i64 0] (tt 56))]
abbrev c_slices_Compact_int64_int64_15 : List GOp := [oo 57 (.mv (tt 0)), oo 58 (.mv (tt 3)), oo 59 (.sl 1 (tt 57) none (some (tt 58))), oo 2 (.mv (tt 59))]
abbrev c_slices_Compact_int64_int64_16 : List GOp := [oo 14 (.mv (tt 3)), oo 15 (.bin .add (tt 14) (ci 1)), oo 3 (.mv (tt 15))]
abbrev c_slices_Compact_int64_int64_l1 : GCode := .seq (.seq (.reg c_slices_Compact_int64_int64_4) (.cond (tt 13) (.skip) (.exit 0))) (.seq (.blk 1 (.seq (.dreg c_slices_Compact_int64_int64_5) (.cond (tt 25) (.seq (.reg c_slices_Compact_int64_int64_6) (.seq (.seq (.reg c_slices_Compact_int64_int64_7) (.blk 2 (.loop c_slices_Compact_int64_int64_l0))) (.seq (.reg c_slices_Compact_int64_int64_14) (.seq (.reg c_slices_Compact_int64_int64_15) (.ret))))) (.skip)))) (.reg c_slices_Compact_int64_int64_16))
abbrev c_slices_Compact_int64_int64_18 : List GOp := [oo 60 (.mv (tt 0)), oo 2 (.mv (tt 60))]
abbrev c_slices_Compact_int64_int64 : GCode := .seq (.reg c_slices_Compact_int64_int64_0) (.seq (.seq (.reg c_slices_Compact_int64_int64_1) (.cond (tt 8) (.seq (.reg c_slices_Compact_int64_int64_2) (.ret)) (.skip))) (.seq (.seq (.reg c_slices_Compact_int64_int64_3) (.blk 0 (.loop c_slices_Compact_int64_int64_l1))) (.seq (.reg c_slices_Compact_int64_int64_18) (.ret))))
theorem c_slices_Compact_int64_int64_d : decFn Try.prog Try.f84 = some (61, [.t 2], c_slices_Compact_int64_int64) := by kernel_rfl
theorem c_slices_Compact_int64_int64_i {args : List Value} {G : GH} {K : Value → GH → Prop} (hn : args.length ≤ 61) (h : gW Try.prog c_slices_Compact_int64_int64 (RetK [.t 2] K) (T0 args) G) : GC Try.prog 84 args G K := GC_intro mixed Try.func84 c_slices_Compact_int64_int64_d hn h
abbrev c_slices_Compare_int64_int64_0 : List GOp := [oo 4 (.mv (ci 0))]
abbrev c_slices_Compare_int64_int64_1 : List GOp := [oo 9 (.mv (tt 0)), oo 10 (.len (tt 9)), oo 11 (.mv (ci 0))]
abbrev c_slices_Compare_int64_int64_2 : List GOp := [oo 12 (.bin .lss (tt 11) (tt 10))]
abbrev c_slices_Compare_int64_int64_3 : List GOp := [oo 13 (.mv (tt 11)), oo 14 (.ia 1 (tt 9) (tt 11)), oo 15 (.ld (tt 14)), oo 5 (.mv (tt 13)), oo 6 (.mv (tt 15))]
abbrev c_slices_Compare_int64_int64_4 : List GOp := [oo 16 (.mv (tt 5)), oo 17 (.mv (tt 1)), oo 18 (.len (tt 17)), oo 19 (.bin .geq (tt 16) (tt 18))]
abbrev c_slices_Compare_int64_int64_5 : List GOp := [oo 4 (.mv (ci 1))]
abbrev c_slices_Compare_int64_int64_6 : List GOp := [oo 20 (.mv (tt 1)), oo 21 (.mv (tt 5)), oo 22 (.ia 1 (tt 20) (tt 21)), oo 23 (.ld (tt 22)), oo 7 (.mv (tt 23))]
abbrev c_slices_Compare_int64_int64_7 : List GOp := [oo 24 (.mv (tt 6)), oo 25 (.mv (tt 7)), oo 26 (.call (ff 95) [tt 24, tt 25]), oo 8 (.mv (tt 26))]
abbrev c_slices_Compare_int64_int64_8 : List GOp := [oo 27 (.mv (tt 8)), oo 28 (.bin .neq (tt 27) (ci 0))]
abbrev c_slices_Compare_int64_int64_9 : List GOp := [oo 29 (.mv (tt 8)), oo 4 (.mv (tt 29))]
abbrev c_slices_Compare_int64_int64_10 : List GOp := [oo 30 (.bin .add (tt 11) (ci 1)), oo 11 (.mv (tt 30))]
abbrev c_slices_Compare_int64_int64_l0 : GCode := .seq (.reg c_slices_Compare_int64_int64_2) (.seq (.cond (tt 12) (.skip) (.exit 0)) (.seq (.blk 1 (.seq (.reg c_slices_Compare_int64_int64_3) (.seq (.seq (.reg c_slices_Compare_int64_int64_4) (.cond (tt 19) (.seq (.reg c_slices_Compare_int64_int64_5) (.ret)) (.skip))) (.seq (.reg c_slices_Compare_int64_int64_6) (.seq (.reg c_slices_Compare_int64_int64_7) (.seq (.reg c_slices_Compare_int64_int64_8) (.cond (tt 28) (.seq (.reg c_slices_Compare_int64_int64_9) (.ret)) (.skip)))))))) (.reg c_slices_Compare_int64_int64_10)))
abbrev c_slices_Compare_int64_int64_12 : List GOp := [oo 31 (.mv (tt 0)), oo 32 (.len (tt 31)), oo 33 (.mv (tt 1)), oo 34 (.len (tt 33)), oo 35 (.bin .lss (tt 32) (tt 34))]
abbrev c_slices_Compare_int64_int64_13 : List GOp := [oo 4 (.mv (ci (-1)))]
abbrev c_slices_Compare_int64_int64_14 : List GOp := [oo 4 (.mv (ci 0))]
abbrev c_slices_Compare_int64_int64 : GCode := .seq (.reg c_slices_Compare_int64_int64_0) (.seq (.seq (.reg c_slices_Compare_int64_int64_1) (.blk 0 (.loop c_slices_Compare_int64_int64_l0))) (.seq (.seq (.reg c_slices_Compare_int64_int64_12) (.cond (tt 35) (.seq (.reg c_slices_Compare_int64_int64_13) (.ret)) (.skip))) (.seq (.reg c_slices_Compare_int64_int64_14) (.ret))))
theorem c_slices_Compare_int64_int64_d : decFn Try.prog Try.f75 = some (36, [.t 4], c_slices_Compare_int64_int64) := by kernel_rfl
theorem c_slices_Compare_int64_int64_i {args : List Value} {G : GH} {K : Value → GH → Prop} (hn : args.length ≤ 36) (h : gW Try.prog c_slices_Compare_int64_int64 (RetK [.t 4] K) (T0 args) G) : GC Try.prog 75 args G K := GC_intro mixed Try.func75 c_slices_Compare_int64_int64_d hn h
abbrev c_slices_Concat_int64_int64_0 : List GOp := [oo 2 (.mv (.const (.slice none 0 0)))]
abbrev c_slices_Concat_int64_int64_1 : List GOp := [oo 3 (.mv (ci 0))]
abbrev c_slices_Concat_int64_int64_2 : List GOp := [oo 9 (.mv (tt 0)), oo 10 (.len (tt 9)), oo 11 (.mv (ci 0))]
abbrev c_slices_Concat_int64_int64_3 : List GOp := [oo 12 (.bin .lss (tt 11) (tt 10))]
abbrev c_slices_Concat_int64_int64_4 : List GOp := [oo 13 (.ia 1 (tt 9) (tt 11)), oo 14 (.ld (tt 13)), oo 5 (.mv (tt 14))]
abbrev c_slices_Concat_int64_int64_5 : List GOp := [oo 15 (.mv (tt 3)), oo 16 (.mv (tt 5)), oo 17 (.len (tt 16)), oo 18 (.bin .add (tt 15) (tt 17)), oo 3 (.mv (tt 18))]
abbrev c_slices_Concat_int64_int64_6 : List GOp := [oo 19 (.mv (tt 3)), oo 20 (.bin .lss (tt 19) (ci 0))]
abbrev c_slices_Concat_int64_int64_7 : List GOp := [oo 21 (.mi 9 (.const (.string ⟨#[108, 101, 110, 32, 111, 117, 116, 32, 111, 102, 32, 114, 97, 110, 103, 101]⟩))), on (.bad)]
abbrev c_slices_Concat_int64_int64_8 : List GOp := [oo 22 (.bin .add (tt 11) (ci 1)), oo 11 (.mv (tt 22))]
abbrev c_slices_Concat_int64_int64_l0 : GCode := .seq (.reg c_slices_Concat_int64_int64_3) (.seq (.cond (tt 12) (.skip) (.exit 0)) (.seq (.blk 1 (.seq (.reg c_slices_Concat_int64_int64_4) (.seq (.reg c_slices_Concat_int64_int64_5) (.seq (.reg c_slices_Concat_int64_int64_6) (.cond (tt 20) (.reg c_slices_Concat_int64_int64_7) (.skip)))))) (.reg c_slices_Concat_int64_int64_8)))
abbrev c_slices_Concat_int64_int64_10 : List GOp := [oo 23 (.mv (tt 3)), oo 24 (.call (ff 85) [(.const (.slice none 0 0)), tt 23]), oo 6 (.mv (tt 24))]
abbrev c_slices_Concat_int64_int64_11 : List GOp := [oo 25 (.mv (tt 0)), oo 26 (.len (tt 25)), oo 27 (.mv (ci 0))]
abbrev c_slices_Concat_int64_int64_12 : List GOp := [oo 28 (.bin .lss (tt 27) (tt 26))]
abbrev c_slices_Concat_int64_int64_13 : List GOp := [oo 29 (.ia 1 (tt 25) (tt 27)), oo 30 (.ld (tt 29)), oo 8 (.mv (tt 30))]
abbrev c_slices_Concat_int64_int64_14 : List GOp := [oo 31 (.mv (tt 6)), oo 32 (.mv (tt 8)), oo 33 (.ap 1 8 [.int .i64 0] (tt 31) (tt 32)), oo 6 (.mv (tt 33))]
abbrev c_slices_Concat_int64_int64_15 : List GOp := [oo 34 (.bin .add (tt 27) (ci 1)), oo 27 (.mv (tt 34))]
abbrev c_slices_Concat_int64_int64_l1 : GCode := .seq (.reg c_slices_Concat_int64_int64_12) (.seq (.cond (tt 28) (.skip) (.exit 2)) (.seq (.blk 3 (.seq (.reg c_slices_Concat_int64_int64_13) (.reg c_slices_Concat_int64_int64_14))) (.reg c_slices_Concat_int64_int64_15)))
abbrev c_slices_Concat_int64_int64_17 : List GOp := [oo 35 (.mv (tt 6)), oo 2 (.mv (tt 35))]
abbrev c_slices_Concat_int64_int64 : GCode := .seq (.reg c_slices_Concat_int64_int64_0) (.seq (.reg c_slices_Concat_int64_int64_1) (.seq (.seq (.reg c_slices_Concat_int64_int64_2) (.blk 0 (.loop c_slices_Concat_int64_int64_l0))) (.seq (.reg c_slices_Concat_int64_int64_10) (.seq (.seq (.reg c_slices_Concat_int64_int64_11) (.blk 2 (.loop c_slices_Concat_int64_int64_l1))) (.seq (.reg c_slices_Concat_int64_int64_17) (.ret))))))
theorem c_slices_Concat_int64_int64_d : decFn Try.prog Try.f62 = some (36, [.t 2], c_slices_Concat_int64_int64) := by kernel_rfl
theorem c_slices_Concat_int64_int64_i {args : List Value} {G : GH} {K : Value → GH → Prop} (hn : args.length ≤ 36) (h : gW Try.prog c_slices_Concat_int64_int64 (RetK [.t 2] K) (T0 args) G) : GC Try.prog 62 args G K := GC_intro mixed Try.func62 c_slices_Concat_int64_int64_d hn h
abbrev c_slices_ContainsFunc_int64_int64_0 : List GOp := [oo 4 (.mv (cb  false))]
abbrev c_slices_ContainsFunc_int64_int64_1 : List GOp := [oo 5 (.mv (tt 0)), oo 6 (.mv (tt 1)), oo 7 (.call (ff 98) [tt 5, tt 6]), oo 8 (.bin .geq (tt 7) (ci 0)), oo 4 (.mv (tt 8))]
abbrev c_slices_ContainsFunc_int64_int64 : GCode := .seq (.reg c_slices_ContainsFunc_int64_int64_0) (.seq (.reg c_slices_ContainsFunc_int64_int64_1) (.ret))
theorem c_slices_ContainsFunc_int64_int64_d : decFn Try.prog Try.f78 = some (9, [.t 4], c_slices_ContainsFunc_int64_int64) := by kernel_rfl
theorem c_slices_ContainsFunc_int64_int64_i {args : List Value} {G : GH} {K : Value → GH → Prop} (hn : args.length ≤ 9) (h : gW Try.prog c_slices_ContainsFunc_int64_int64 (RetK [.t 4] K) (T0 args) G) : GC Try.prog 78 args G K := GC_intro mixed Try.func78 c_slices_ContainsFunc_int64_int64_d hn h
abbrev c_slices_Contains_int64_int64_0 : List GOp := [oo 4 (.mv (cb  false))]
abbrev c_slices_Contains_int64_int64_1 : List GOp := [oo 5 (.mv (tt 0)), oo 6 (.mv (tt 1)), oo 7 (.call (ff 87) [tt 5, tt 6]), oo 8 (.bin .geq (tt 7) (ci 0)), oo 4 (.mv (tt 8))]
abbrev c_slices_Contains_int64_int64 : GCode := .seq (.reg c_slices_Contains_int64_int64_0) (.seq (.reg c_slices_Contains_int64_int64_1) (.ret))
theorem c_slices_Contains_int64_int64_d : decFn Try.prog Try.f80 = some (9, [.t 4], c_slices_Contains_int64_int64) := by kernel_rfl
theorem c_slices_Contains_int64_int64_i {args : List Value} {G : GH} {K : Value → GH → Prop} (hn : args.length ≤ 9) (h : gW Try.prog c_slices_Contains_int64_int64 (RetK [.t 4] K) (T0 args) G) : GC Try.prog 80 args G K := GC_intro mixed Try.func80 c_slices_Contains_int64_int64_d hn h
abbrev c_slices_DeleteFunc_int64_int64_0 : List GOp := [oo 4 (.mv (.const (.slice none 0 0)))]
abbrev c_slices_DeleteFunc_int64_int64_1 : List GOp := [oo 8 (.mv (tt 0)), oo 9 (.mv (tt 1)), oo 10 (.call (ff 98) [tt 8, tt 9]), oo 5 (.mv (tt 10))]
abbrev c_slices_DeleteFunc_int64_int64_2 : List GOp := [oo 11 (.mv (tt 5)), oo 12 (.bin .eql (tt 11) (ci (-1)))]
abbrev c_slices_DeleteFunc_int64_int64_3 : List GOp := [oo 13 (.mv (tt 0)), oo 4 (.mv (tt 13))]
abbrev c_slices_DeleteFunc_int64_int64_4 : List GOp := [oo 14 (.mv (tt 5)), oo 15 (.bin .add (tt 14) (ci 1)), oo 6 (.mv (tt 15))]
abbrev c_slices_DeleteFunc_int64_int64_5 : List GOp := [oo 16 (.mv (tt 6)), oo 17 (.mv (tt 0)), oo 18 (.len (tt 17)), oo 19 (.bin .lss (tt 16) (tt 18))]
abbrev c_slices_DeleteFunc_int64_int64_6 : List GOp := [oo 22 (.mv (tt 0)), oo 23 (.mv (tt 6)), oo 24 (.ia 1 (tt 22) (tt 23)), oo 25 (.ld (tt 24)), oo 7 (.mv (tt 25))]
abbrev c_slices_DeleteFunc_int64_int64_7 : List GOp := [oo 26 (.mv (tt 1)), oo 27 (.mv (tt 7)), oo 28 (.call (tt 26) [tt 27]), oo 29 (.un .not (tt 28))]
abbrev c_slices_DeleteFunc_int64_int64_8 : List GOp := [oo 30 (.mv (tt 0)), oo 31 (.mv (tt 5)), oo 32 (.mv (tt 7)), oo 33 (.ia 1 (tt 30) (tt 31)), on (.st 1 (tt 33) (tt 32))]
abbrev c_slices_DeleteFunc_int64_int64_9 : List GOp := [oo 34 (.mv (tt 5)), oo 35 (.bin .add (tt 34) (ci 1)), oo 5 (.mv (tt 35))]
abbrev c_slices_DeleteFunc_int64_int64_10 : List GOp := [oo 20 (.mv (tt 6)), oo 21 (.bin .add (tt 20) (ci 1)), oo 6 (.mv (tt 21))]
abbrev c_slices_DeleteFunc_int64_int64_l0 : GCode := .seq (.seq (.reg c_slices_DeleteFunc_int64_int64_5) (.cond (tt 19) (.skip) (.exit 0))) (.seq (.blk 1 (.seq (.reg c_slices_DeleteFunc_int64_int64_6) (.seq (.reg c_slices_DeleteFunc_int64_int64_7) (.cond (tt 29) (.seq (.reg c_slices_DeleteFunc_int64_int64_8) (.reg c_slices_DeleteFunc_int64_int64_9)) (.skip))))) (.reg c_slices_DeleteFunc_int64_int64_10))
abbrev c_slices_DeleteFunc_int64_int64_12 : List GOp := [oo 36 (.mv (tt 0)), oo 37 (.mv (tt 5)), oo 38 (.sl 1 (tt 36) (some (tt 37)) none), on (.clr 1 [.int .i64 0] (tt 38))]
abbrev c_slices_DeleteFunc_int64_int64_13 : List GOp := [oo 39 (.mv (tt 0)), oo 40 (.mv (tt 5)), oo 41 (.sl 1 (tt 39) none (some (tt 40))), oo 4 (.mv (tt 41))]
abbrev c_slices_DeleteFunc_int64_int64 : GCode := .seq (.reg c_slices_DeleteFunc_int64_int64_0) (.seq (.reg c_slices_DeleteFunc_int64_int64_1) (.seq (.seq (.reg c_slices_DeleteFunc_int64_int64_2) (.cond (tt 12) (.seq (.reg c_slices_DeleteFunc_int64_int64_3) (.ret)) (.skip))) (.seq (.seq (.reg c_slices_DeleteFunc_int64_int64_4) (.blk 0 (.loop c_slices_DeleteFunc_int64_int64_l0))) (.seq (.reg c_slices_DeleteFunc_int64_int64_12) (.seq (.reg c_slices_DeleteFunc_int64_int64_13) (.ret))))))
theorem c_slices_DeleteFunc_int64_int64_d : decFn Try.prog Try.f104 = some (42, [.t 4], c_slices_DeleteFunc_int64_int64) := by kernel_rfl
theorem c_slices_DeleteFunc_int64_int64_i {args : List Value} {G : GH} {K : Value → GH → Prop} (hn : args.length ≤ 42) (h : gW Try.prog c_slices_DeleteFunc_int64_int64 (RetK [.t 4] K) (T0 args) G) : GC Try.prog 104 args G K := GC_intro mixed Try.func104 c_slices_DeleteFunc_int64_int64_d hn h
abbrev c_slices_Equal_int64_int64_0 : List GOp := [oo 4 (.mv (cb  false))]
abbrev c_slices_Equal_int64_int64_1 : List GOp := [oo 6 (.mv (tt 0)), oo 7 (.len (tt 6)), oo 8 (.mv (tt 1)), oo 9 (.len (tt 8)), oo 10 (.bin .neq (tt 7) (tt 9))]
abbrev c_slices_Equal_int64_int64_2 : List GOp := [oo 4 (.mv (cb  false))]
abbrev c_slices_Equal_int64_int64_3 : List GOp := [oo 11 (.mv (tt 0)), oo 12 (.len (tt 11)), oo 13 (.mv (ci 0))]
abbrev c_slices_Equal_int64_int64_4 : List GOp := [oo 14 (.bin .lss (tt 13) (tt 12))]
abbrev c_slices_Equal_int64_int64_5 : List GOp := [oo 15 (.mv (tt 13)), oo 5 (.mv (tt 15))]
abbrev c_slices_Equal_int64_int64_6 : List DOp := [dl 0 (oo 16 (.mv (tt 0))), dl 1 (oo 17 (.mv (tt 5))), dl 2 (oo 18 (.ia 1 (tt 16) (tt 17))), dl 3 (oo 19 (.ld (tt 18))), dl 4 (oo 20 (.mv (tt 1))), dl 5 (oo 21 (.mv (tt 5))), dl 6 (oo 22 (.ia 1 (tt 20) (tt 21))), dl 7 (oo 23 (.ld (tt 22))), dl 8 (oo 24 (.bin .neq (tt 19) (tt 23)))]
abbrev c_slices_Equal_int64_int64_7 : List GOp := [oo 4 (.mv (cb  false))]
abbrev c_slices_Equal_int64_int64_8 : List GOp := [oo 25 (.bin .add (tt 13) (ci 1)), oo 13 (.mv (tt 25))]
abbrev c_slices_Equal_int64_int64_l0 : GCode := .seq (.reg c_slices_Equal_int64_int64_4) (.seq (.cond (tt 14) (.skip) (.exit 0)) (.seq (.blk 1 (.seq (.reg c_slices_Equal_int64_int64_5) (.seq (.dreg c_slices_Equal_int64_int64_6) (.cond (tt 24) (.seq (.reg c_slices_Equal_int64_int64_7) (.ret)) (.skip))))) (.reg c_slices_Equal_int64_int64_8)))
abbrev c_slices_Equal_int64_int64_10 : List GOp := [oo 4 (.mv (cb  true))]
abbrev c_slices_Equal_int64_int64 : GCode := .seq (.reg c_slices_Equal_int64_int64_0) (.seq (.seq (.reg c_slices_Equal_int64_int64_1) (.cond (tt 10) (.seq (.reg c_slices_Equal_int64_int64_2) (.ret)) (.skip))) (.seq (.seq (.reg c_slices_Equal_int64_int64_3) (.blk 0 (.loop c_slices_Equal_int64_int64_l0))) (.seq (.reg c_slices_Equal_int64_int64_10) (.ret))))
theorem c_slices_Equal_int64_int64_d : decFn Try.prog Try.f86 = some (26, [.t 4], c_slices_Equal_int64_int64) := by kernel_rfl
theorem c_slices_Equal_int64_int64_i {args : List Value} {G : GH} {K : Value → GH → Prop} (hn : args.length ≤ 26) (h : gW Try.prog c_slices_Equal_int64_int64 (RetK [.t 4] K) (T0 args) G) : GC Try.prog 86 args G K := GC_intro mixed Try.func86 c_slices_Equal_int64_int64_d hn h
abbrev c_slices_Grow_int64_int64_0 : List GOp := [oo 4 (.mv (.const (.slice none 0 0)))]
abbrev c_slices_Grow_int64_int64_1 : List GOp := [oo 5 (.mv (tt 1)), oo 6 (.bin .lss (tt 5) (ci 0))]
abbrev c_slices_Grow_int64_int64_2 : List GOp := [oo 7 (.mi 9 (.const (.string ⟨#[99, 97, 110, 110, 111, 116, 32, 98, 101, 32, 110, 101, 103, 97, 116, 105, 118, 101]⟩))), on (.bad)]
abbrev c_slices_Grow_int64_int64_3 : List GOp := [oo 8 (.mv (tt 1)), oo 9 (.mv (tt 0)), oo 10 (.cap (tt 9)), oo 11 (.mv (tt 0)), oo 12 (.len (tt 11)), oo 13 (.bin .sub (tt 10) (tt 12)), oo 14 (.bin .sub (tt 8) (tt 13)), oo 1 (.mv (tt 14))]
abbrev c_slices_Grow_int64_int64_4 : List GOp := [oo 15 (.mv (tt 1)), oo 16 (.bin .gtr (tt 15) (ci 0))]
abbrev c_slices_Grow_int64_int64_5 : List GOp := [oo 17 (.mv (tt 0)), oo 18 (.mv (tt 0)), oo 19 (.cap (tt 18)), oo 20 (.sl 1 (tt 17) none (some (tt 19))), oo 21 (.mv (tt 1)), oo 22 (.apz 1 8 [.int .i64 0] (tt 20) (tt 21)), oo 23 (.mv (tt 0)), oo 24 (.len (tt 23)), oo 25 (.sl 1 (tt 22) none (some (tt 24))), oo 0 (.mv (tt 25))]
abbrev c_slices_Grow_int64_int64_6 : List GOp := [oo 26 (.mv (tt 0)), oo 4 (.mv (tt 26))]
abbrev c_slices_Grow_int64_int64 : GCode := .seq (.reg c_slices_Grow_int64_int64_0) (.seq (.seq (.reg c_slices_Grow_int64_int64_1) (.cond (tt 6) (.reg c_slices_Grow_int64_int64_2) (.skip))) (.seq (.seq (.reg c_slices_Grow_int64_int64_3) (.seq (.reg c_slices_Grow_int64_int64_4) (.cond (tt 16) (.reg c_slices_Grow_int64_int64_5) (.skip)))) (.seq (.reg c_slices_Grow_int64_int64_6) (.ret))))
theorem c_slices_Grow_int64_int64_d : decFn Try.prog Try.f85 = some (27, [.t 4], c_slices_Grow_int64_int64) := by kernel_rfl
theorem c_slices_Grow_int64_int64_i {args : List Value} {G : GH} {K : Value → GH → Prop} (hn : args.length ≤ 27) (h : gW Try.prog c_slices_Grow_int64_int64 (RetK [.t 4] K) (T0 args) G) : GC Try.prog 85 args G K := GC_intro mixed Try.func85 c_slices_Grow_int64_int64_d hn h
abbrev c_slices_IndexFunc_int64_int64_0 : List GOp := [oo 4 (.mv (ci 0))]
abbrev c_slices_IndexFunc_int64_int64_1 : List GOp := [oo 6 (.mv (tt 0)), oo 7 (.len (tt 6)), oo 8 (.mv (ci 0))]
abbrev c_slices_IndexFunc_int64_int64_2 : List GOp := [oo 9 (.bin .lss (tt 8) (tt 7))]
abbrev c_slices_IndexFunc_int64_int64_3 : List GOp := [oo 10 (.mv (tt 8)), oo 5 (.mv (tt 10))]
abbrev c_slices_IndexFunc_int64_int64_4 : List GOp := [oo 11 (.mv (tt 1)), oo 12 (.mv (tt 0)), oo 13 (.mv (tt 5)), oo 14 (.ia 1 (tt 12) (tt 13)), oo 15 (.ld (tt 14)), oo 16 (.call (tt 11) [tt 15])]
abbrev c_slices_IndexFunc_int64_int64_5 : List GOp := [oo 17 (.mv (tt 5)), oo 4 (.mv (tt 17))]
abbrev c_slices_IndexFunc_int64_int64_6 : List GOp := [oo 18 (.bin .add (tt 8) (ci 1)), oo 8 (.mv (tt 18))]
abbrev c_slices_IndexFunc_int64_int64_l0 : GCode := .seq (.reg c_slices_IndexFunc_int64_int64_2) (.seq (.cond (tt 9) (.skip) (.exit 0)) (.seq (.blk 1 (.seq (.reg c_slices_IndexFunc_int64_int64_3) (.seq (.reg c_slices_IndexFunc_int64_int64_4) (.cond (tt 16) (.seq (.reg c_slices_IndexFunc_int64_int64_5) (.ret)) (.skip))))) (.reg c_slices_IndexFunc_int64_int64_6)))
abbrev c_slices_IndexFunc_int64_int64_8 : List GOp := [oo 4 (.mv (ci (-1)))]
abbrev c_slices_IndexFunc_int64_int64 : GCode := .seq (.reg c_slices_IndexFunc_int64_int64_0) (.seq (.seq (.reg c_slices_IndexFunc_int64_int64_1) (.blk 0 (.loop c_slices_IndexFunc_int64_int64_l0))) (.seq (.reg c_slices_IndexFunc_int64_int64_8) (.ret)))
theorem c_slices_IndexFunc_int64_int64_d : decFn Try.prog Try.f98 = some (19, [.t 4], c_slices_IndexFunc_int64_int64) := by kernel_rfl
theorem c_slices_IndexFunc_int64_int64_i {args : List Value} {G : GH} {K : Value → GH → Prop} (hn : args.length ≤ 19) (h : gW Try.prog c_slices_IndexFunc_int64_int64 (RetK [.t 4] K) (T0 args) G) : GC Try.prog 98 args G K := GC_intro mixed Try.func98 c_slices_IndexFunc_int64_int64_d hn h
abbrev c_slices_Index_int64_int64_0 : List GOp := [oo 4 (.mv (ci 0))]
abbrev c_slices_Index_int64_int64_1 : List GOp := [oo 6 (.mv (tt 0)), oo 7 (.len (tt 6)), oo 8 (.mv (ci 0))]
abbrev c_slices_Index_int64_int64_2 : List GOp := [oo 9 (.bin .lss (tt 8) (tt 7))]
abbrev c_slices_Index_int64_int64_3 : List GOp := [oo 10 (.mv (tt 8)), oo 5 (.mv (tt 10))]
abbrev c_slices_Index_int64_int64_4 : List GOp := [oo 11 (.mv (tt 1)), oo 12 (.mv (tt 0)), oo 13 (.mv (tt 5)), oo 14 (.ia 1 (tt 12) (tt 13)), oo 15 (.ld (tt 14)), oo 16 (.bin .eql (tt 11) (tt 15))]
abbrev c_slices_Index_int64_int64_5 : List GOp := [oo 17 (.mv (tt 5)), oo 4 (.mv (tt 17))]
abbrev c_slices_Index_int64_int64_6 : List GOp := [oo 18 (.bin .add (tt 8) (ci 1)), oo 8 (.mv (tt 18))]
abbrev c_slices_Index_int64_int64_l0 : GCode := .seq (.reg c_slices_Index_int64_int64_2) (.seq (.cond (tt 9) (.skip) (.exit 0)) (.seq (.blk 1 (.seq (.reg c_slices_Index_int64_int64_3) (.seq (.reg c_slices_Index_int64_int64_4) (.cond (tt 16) (.seq (.reg c_slices_Index_int64_int64_5) (.ret)) (.skip))))) (.reg c_slices_Index_int64_int64_6)))
abbrev c_slices_Index_int64_int64_8 : List GOp := [oo 4 (.mv (ci (-1)))]
abbrev c_slices_Index_int64_int64 : GCode := .seq (.reg c_slices_Index_int64_int64_0) (.seq (.seq (.reg c_slices_Index_int64_int64_1) (.blk 0 (.loop c_slices_Index_int64_int64_l0))) (.seq (.reg c_slices_Index_int64_int64_8) (.ret)))
theorem c_slices_Index_int64_int64_d : decFn Try.prog Try.f87 = some (19, [.t 4], c_slices_Index_int64_int64) := by kernel_rfl
theorem c_slices_Index_int64_int64_i {args : List Value} {G : GH} {K : Value → GH → Prop} (hn : args.length ≤ 19) (h : gW Try.prog c_slices_Index_int64_int64 (RetK [.t 4] K) (T0 args) G) : GC Try.prog 87 args G K := GC_intro mixed Try.func87 c_slices_Index_int64_int64_d hn h
abbrev c_spec_JoinTables_0 : List GOp := [oo 2 (.bx (tt 0)), oo 3 (.bx (tt 1)), oo 4 (.al [.slice none 0 0, .slice none 0 0]), oo 5 (.mv (ci 0))]
abbrev c_spec_JoinTables_1 : List GOp := [oo 11 (.call (ff 43) [tt 2]), oo 12 (.un .not (tt 11)), oo 13 (.mv (tt 12)), og 14 13 false (.call (ff 43) [tt 3]), og 15 13 false (.un .not (tt 14)), oo 16 (.pick (tt 13) (cb  true) (tt 15))]
abbrev c_spec_JoinTables_2 : List GOp := [oo 17 (.bld [.slice none 0 0, .slice none 0 0] []), on (.st 2 (tt 4) (tt 17)), oo 5 (.mv (ci 1))]
abbrev c_spec_JoinTables_3 : List GOp := [oo 18 (.fa 0 (tt 2)), oo 19 (.ld (tt 18)), oo 20 (.fa 0 (tt 3)), oo 21 (.ld (tt 20)), oo 22 (.call (ff 56) [tt 19, tt 21]), oo 23 (.bs 1 []), oo 24 (.bld [.slice none 0 0, .slice none 0 0] [(0, 1, (tt 22)), (1, 1, (tt 23))]), oo 6 (.al [.slice none 0 0, .slice none 0 0]), on (.st 2 (tt 6) (tt 24))]
abbrev c_spec_JoinTables_4 : List GOp := [oo 7 (.mv (ci 0))]
abbrev c_spec_JoinTables_5 : List GOp := [oo 25 (.mv (tt 7)), oo 26 (.fa 1 (tt 2)), oo 27 (.ld (tt 26)), oo 28 (.len (tt 27)), oo 29 (.bin .lss (tt 25) (tt 28))]
abbrev c_spec_JoinTables_6 : List GOp := [oo 8 (.mv (ci 0))]
abbrev c_spec_JoinTables_7 : List GOp := [oo 32 (.mv (tt 8)), oo 33 (.fa 1 (tt 3)), oo 34 (.ld (tt 33)), oo 35 (.len (tt 34)), oo 36 (.bin .lss (tt 32) (tt 35))]
abbrev c_spec_JoinTables_8 : List DOp := [dl 0 (oo 39 (.fa 1 (tt 2))), dl 1 (oo 40 (.ld (tt 39))), dl 2 (oo 41 (.mv (tt 7))), dl 3 (oo 42 (.ia 1 (tt 40) (tt 41))), dl 4 (oo 43 (.ld (tt 42))), dl 5 (oo 44 (.fa 1 (tt 3))), dl 6 (oo 45 (.ld (tt 44))), dl 7 (oo 46 (.mv (tt 8))), dl 8 (oo 47 (.ia 1 (tt 45) (tt 46))), dl 9 (oo 48 (.ld (tt 47))), dh 10 [6, 1] (oo 49 (.call (ff 57) [tt 2, tt 3, tt 43, tt 48])), dl 11 (oo 50 (.un .not (tt 49)))]
abbrev c_spec_JoinTables_9 : List GOp := [oo 51 (.bs 1 []), oo 9 (.mv (tt 51))]
abbrev c_spec_JoinTables_10 : List GOp := [oo 10 (.mv (ci 0))]
abbrev c_spec_JoinTables_11 : List GOp := [oo 52 (.mv (tt 10)), oo 53 (.fa 0 (tt 6)), oo 54 (.ld (tt 53)), oo 55 (.len (tt 54)), oo 56 (.bin .lss (tt 52) (tt 55))]
abbrev c_spec_JoinTables_12 : List DOp := [dl 0 (oo 59 (.mv (tt 9))), dl 1 (oo 60 (.fa 0 (tt 2))), dl 2 (oo 61 (.ld (tt 60))), dl 3 (oo 62 (.fa 1 (tt 2))), dl 4 (oo 63 (.ld (tt 62))), dl 5 (oo 64 (.mv (tt 7))), dl 6 (oo 65 (.ia 1 (tt 63) (tt 64))), dl 7 (oo 66 (.ld (tt 65))), dl 8 (oo 67 (.fa 0 (tt 6))), dl 9 (oo 68 (.ld (tt 67))), dl 10 (oo 69 (.mv (tt 10))), dl 11 (oo 70 (.ia 1 (tt 68) (tt 69))), dl 12 (oo 71 (.ld (tt 70))), dl 14 (oo 73 (.fa 0 (tt 3))), dl 15 (oo 74 (.ld (tt 73))), dl 16 (oo 75 (.fa 1 (tt 3))), dl 17 (oo 76 (.ld (tt 75))), dl 18 (oo 77 (.mv (tt 8))), dl 19 (oo 78 (.ia 1 (tt 76) (tt 77))), dl 20 (oo 79 (.ld (tt 78))), dl 21 (oo 80 (.fa 0 (tt 6))), dl 22 (oo 81 (.ld (tt 80))), dl 23 (oo 82 (.mv (tt 10))), dl 24 (oo 83 (.ia 1 (tt 81) (tt 82))), dl 25 (oo 84 (.ld (tt 83))), dh 13 [25, 22, 20, 17, 15, 9, 4] (oo 72 (.call (ff 59) [tt 61, tt 66, tt 71])), dh 26 [22, 17, 12, 9, 7, 4, 2] (oo 85 (.call (ff 59) [tt 74, tt 79, tt 84])), dh 27 [25, 22, 20, 17, 15, 12, 9, 7, 4, 2] (oo 86 (.call (ff 58) [tt 72, tt 85])), dh 28 [25, 22, 20, 17, 15, 12, 9, 7, 4, 2] (oo 87 (.bs 1 [tt 86])), dh 29 [25, 22, 20, 17, 15, 12, 9, 7, 4, 2] (oo 88 (.ap 1 8 [.int .i64 0] (tt 59) (tt 87))), dl 30 (oo 9 (.mv (tt 88)))]
abbrev c_spec_JoinTables_13 : List GOp := [oo 57 (.mv (tt 10)), oo 58 (.bin .add (tt 57) (ci 1)), oo 10 (.mv (tt 58))]
abbrev c_spec_JoinTables_l0 : GCode := .seq (.seq (.reg c_spec_JoinTables_11) (.cond (tt 56) (.skip) (.exit 4))) (.seq (.blk 5 (.dreg c_spec_JoinTables_12)) (.reg c_spec_JoinTables_13))
abbrev c_spec_JoinTables_15 : List GOp := [oo 89 (.fa 1 (tt 6)), oo 90 (.ld (tt 89)), oo 91 (.mv (tt 9)), oo 92 (.call (ff 60) [tt 90, tt 91]), oo 93 (.fa 1 (tt 6)), on (.st 1 (tt 93) (tt 92))]
abbrev c_spec_JoinTables_16 : List GOp := [oo 37 (.mv (tt 8)), oo 38 (.bin .add (tt 37) (ci 1)), oo 8 (.mv (tt 38))]
abbrev c_spec_JoinTables_l1 : GCode := .seq (.seq (.reg c_spec_JoinTables_7) (.cond (tt 36) (.skip) (.exit 2))) (.seq (.blk 3 (.seq (.seq (.dreg c_spec_JoinTables_8) (.cond (tt 50) (.exit 3) (.skip))) (.seq (.reg c_spec_JoinTables_9) (.seq (.seq (.reg c_spec_JoinTables_10) (.blk 4 (.loop c_spec_JoinTables_l0))) (.reg c_spec_JoinTables_15))))) (.reg c_spec_JoinTables_16))
abbrev c_spec_JoinTables_18 : List GOp := [oo 30 (.mv (tt 7)), oo 31 (.bin .add (tt 30) (ci 1)), oo 7 (.mv (tt 31))]
abbrev c_spec_JoinTables_l2 : GCode := .seq (.seq (.reg c_spec_JoinTables_5) (.cond (tt 29) (.skip) (.exit 0))) (.seq (.blk 1 (.seq (.reg c_spec_JoinTables_6) (.blk 2 (.loop c_spec_JoinTables_l1)))) (.reg c_spec_JoinTables_18))
abbrev c_spec_JoinTables_20 : List GOp := [oo 94 (.fa 1 (tt 6)), oo 95 (.ld (tt 94)), oo 96 (.len (tt 95)), oo 97 (.bin .gtr (tt 96) (ci 24))]
abbrev c_spec_JoinTables_21 : List GOp := [oo 98 (.bld [.slice none 0 0, .slice none 0 0] []), on (.st 2 (tt 4) (tt 98)), oo 5 (.mv (ci 5))]
abbrev c_spec_JoinTables_22 : List GOp := [oo 99 (.ldn 2 (tt 6)), on (.st 2 (tt 4) (tt 99)), oo 5 (.mv (ci 0))]
abbrev c_spec_JoinTables : GCode := .seq (.reg c_spec_JoinTables_0) (.seq (.seq (.reg c_spec_JoinTables_1) (.cond (tt 16) (.seq (.reg c_spec_JoinTables_2) (.ret)) (.skip))) (.seq (.reg c_spec_JoinTables_3) (.seq (.seq (.reg c_spec_JoinTables_4) (.blk 0 (.loop c_spec_JoinTables_l2))) (.seq (.seq (.reg c_spec_JoinTables_20) (.cond (tt 97) (.seq (.reg c_spec_JoinTables_21) (.ret)) (.skip))) (.seq (.reg c_spec_JoinTables_22) (.ret))))))
theorem c_spec_JoinTables_d : decFn Try.prog Try.f29 = some (100, [.cn 4 2, .t 5], c_spec_JoinTables) := by kernel_rfl
theorem c_spec_JoinTables_i {args : List Value} {G : GH} {K : Value → GH → Prop} (hn : args.length ≤ 100) (h : gW Try.prog c_spec_JoinTables (RetK [.cn 4 2, .t 5] K) (T0 args) G) : GC Try.prog 29 args G K := GC_intro mixed Try.func29 c_spec_JoinTables_d hn h
abbrev c_spec_l00In_0 : List GOp := [oo 6 (.mv (cb  false))]
abbrev c_spec_l00In_1 : List GOp := [oo 7 (.mv (tt 0)), oo 8 (.mv (tt 1)), oo 9 (.bin .geq (tt 7) (tt 8)), oo 10 (.mv (tt 9)), og 11 10 true (.mv (tt 0)), og 12 10 true (.mv (tt 2)), og 13 10 true (.bin .leq (tt 11) (tt 12)), oo 14 (.pick (tt 10) (tt 13) (cb  false)), oo 6 (.mv (tt 14))]
abbrev c_spec_l00In : GCode := .seq (.reg c_spec_l00In_0) (.seq (.reg c_spec_l00In_1) (.ret))
theorem c_spec_l00In_d : decFn Try.prog Try.f72 = some (15, [.t 6], c_spec_l00In) := by kernel_rfl
theorem c_spec_l00In_i {args : List Value} {G : GH} {K : Value → GH → Prop} (hn : args.length ≤ 15) (h : gW Try.prog c_spec_l00In (RetK [.t 6] K) (T0 args) G) : GC Try.prog 72 args G K := GC_intro mixed Try.func72 c_spec_l00In_d hn h
abbrev c_spec_l00Max_0 : List GOp := [oo 4 (.mv (ci 0))]
abbrev c_spec_l00Max_1 : List GOp := [oo 5 (.mv (tt 0)), oo 6 (.mv (tt 1)), oo 7 (.bin .gtr (tt 5) (tt 6))]
abbrev c_spec_l00Max_2 : List GOp := [oo 8 (.mv (tt 0)), oo 4 (.mv (tt 8))]
abbrev c_spec_l00Max_3 : List GOp := [oo 9 (.mv (tt 1)), oo 4 (.mv (tt 9))]
abbrev c_spec_l00Max : GCode := .seq (.reg c_spec_l00Max_0) (.seq (.seq (.reg c_spec_l00Max_1) (.cond (tt 7) (.seq (.reg c_spec_l00Max_2) (.ret)) (.skip))) (.seq (.reg c_spec_l00Max_3) (.ret)))
theorem c_spec_l00Max_d : decFn Try.prog Try.f58 = some (10, [.t 4], c_spec_l00Max) := by kernel_rfl
theorem c_spec_l00Max_i {args : List Value} {G : GH} {K : Value → GH → Prop} (hn : args.length ≤ 10) (h : gW Try.prog c_spec_l00Max (RetK [.t 4] K) (T0 args) G) : GC Try.prog 58 args G K := GC_intro mixed Try.func58 c_spec_l00Max_d hn h
abbrev c_spec_l00Own_0 : List GOp := [oo 2 (.mv (.const (.slice none 0 0)))]
abbrev c_spec_l00Own_1 : List GOp := [oo 3 (.bs 1 []), oo 4 (.mv (tt 0)), oo 5 (.ap 1 8 [.int .i64 0] (tt 3) (tt 4)), oo 2 (.mv (tt 5))]
abbrev c_spec_l00Own : GCode := .seq (.reg c_spec_l00Own_0) (.seq (.reg c_spec_l00Own_1) (.ret))
theorem c_spec_l00Own_d : decFn Try.prog Try.f66 = some (6, [.t 2], c_spec_l00Own) := by kernel_rfl
theorem c_spec_l00Own_i {args : List Value} {G : GH} {K : Value → GH → Prop} (hn : args.length ≤ 6) (h : gW Try.prog c_spec_l00Own (RetK [.t 2] K) (T0 args) G) : GC Try.prog 66 args G K := GC_intro mixed Try.func66 c_spec_l00Own_d hn h
abbrev c_spec_l00Put_0 : List GOp := [oo 4 (.mv (.const (.slice none 0 0)))]
abbrev c_spec_l00Put_1 : List GOp := [oo 8 (.bs 1 []), oo 5 (.mv (tt 8))]
abbrev c_spec_l00Put_2 : List GOp := [oo 6 (.mv (cb  false))]
abbrev c_spec_l00Put_3 : List GOp := [oo 7 (.mv (ci 0))]
abbrev c_spec_l00Put_4 : List GOp := [oo 9 (.mv (tt 7)), oo 10 (.mv (tt 0)), oo 11 (.len (tt 10)), oo 12 (.bin .lss (tt 9) (tt 11))]
abbrev c_spec_l00Put_5 : List GOp := [oo 15 (.mv (tt 6)), oo 16 (.un .not (tt 15)), oo 17 (.mv (tt 16)), og 18 17 true (.mv (tt 0)), og 19 17 true (.mv (tt 7)), og 20 17 true (.ia 1 (tt 18) (tt 19)), og 21 17 true (.ld (tt 20)), og 22 17 true (.mv (tt 1)), og 23 17 true (.bin .geq (tt 21) (tt 22)), oo 24 (.pick (tt 17) (tt 23) (cb  false))]
abbrev c_spec_l00Put_6 : List GOp := [oo 6 (.mv (cb  true))]
abbrev c_spec_l00Put_7 : List GOp := [oo 25 (.mv (tt 0)), oo 26 (.mv (tt 7)), oo 27 (.ia 1 (tt 25) (tt 26)), oo 28 (.ld (tt 27)), oo 29 (.mv (tt 1)), oo 30 (.bin .gtr (tt 28) (tt 29))]
abbrev c_spec_l00Put_8 : List GOp := [oo 31 (.mv (tt 5)), oo 32 (.mv (tt 1)), oo 33 (.bs 1 [tt 32]), oo 34 (.ap 1 8 [.int .i64 0] (tt 31) (tt 33)), oo 5 (.mv (tt 34))]
abbrev c_spec_l00Put_9 : List GOp := [oo 35 (.mv (tt 5)), oo 36 (.mv (tt 0)), oo 37 (.mv (tt 7)), oo 38 (.ia 1 (tt 36) (tt 37)), oo 39 (.ld (tt 38)), oo 40 (.bs 1 [tt 39]), oo 41 (.ap 1 8 [.int .i64 0] (tt 35) (tt 40)), oo 5 (.mv (tt 41))]
abbrev c_spec_l00Put_10 : List GOp := [oo 13 (.mv (tt 7)), oo 14 (.bin .add (tt 13) (ci 1)), oo 7 (.mv (tt 14))]
abbrev c_spec_l00Put_l0 : GCode := .seq (.seq (.reg c_spec_l00Put_4) (.cond (tt 12) (.skip) (.exit 0))) (.seq (.blk 1 (.seq (.seq (.reg c_spec_l00Put_5) (.cond (tt 24) (.seq (.reg c_spec_l00Put_6) (.seq (.reg c_spec_l00Put_7) (.cond (tt 30) (.reg c_spec_l00Put_8) (.skip)))) (.skip))) (.reg c_spec_l00Put_9))) (.reg c_spec_l00Put_10))
abbrev c_spec_l00Put_12 : List GOp := [oo 42 (.mv (tt 6)), oo 43 (.un .not (tt 42))]
abbrev c_spec_l00Put_13 : List GOp := [oo 44 (.mv (tt 5)), oo 45 (.mv (tt 1)), oo 46 (.bs 1 [tt 45]), oo 47 (.ap 1 8 [.int .i64 0] (tt 44) (tt 46)), oo 5 (.mv (tt 47))]
abbrev c_spec_l00Put_14 : List GOp := [oo 48 (.mv (tt 5)), oo 4 (.mv (tt 48))]
abbrev c_spec_l00Put : GCode := .seq (.reg c_spec_l00Put_0) (.seq (.reg c_spec_l00Put_1) (.seq (.reg c_spec_l00Put_2) (.seq (.seq (.reg c_spec_l00Put_3) (.blk 0 (.loop c_spec_l00Put_l0))) (.seq (.seq (.reg c_spec_l00Put_12) (.cond (tt 43) (.reg c_spec_l00Put_13) (.skip))) (.seq (.reg c_spec_l00Put_14) (.ret))))))
theorem c_spec_l00Put_d : decFn Try.prog Try.f81 = some (49, [.t 4], c_spec_l00Put) := by kernel_rfl
theorem c_spec_l00Put_i {args : List Value} {G : GH} {K : Value → GH → Prop} (hn : args.length ≤ 49) (h : gW Try.prog c_spec_l00Put (RetK [.t 4] K) (T0 args) G) : GC Try.prog 81 args G K := GC_intro mixed Try.func81 c_spec_l00Put_d hn h
abbrev c_spec_l00Rises_0 : List GOp := [oo 6 (.mv (cb  false))]
abbrev c_spec_l00Rises_1 : List GOp := [oo 7 (.mv (ci 0))]
abbrev c_spec_l00Rises_2 : List GOp := [oo 8 (.mv (tt 7)), oo 9 (.mv (tt 0)), oo 10 (.len (tt 9)), oo 11 (.bin .lss (tt 8) (tt 10))]
abbrev c_spec_l00Rises_3 : List DOp := [dl 0 (oo 14 (.mv (tt 0))), dl 1 (oo 15 (.mv (tt 7))), dl 2 (oo 16 (.ia 1 (tt 14) (tt 15))), dl 3 (oo 17 (.ld (tt 16))), dl 4 (oo 18 (.mv (tt 1))), dl 5 (oo 19 (.mv (tt 2))), dh 6 [] (oo 20 (.call (ff 72) [tt 17, tt 18, tt 19])), dl 7 (oo 21 (.un .not (tt 20))), dl 8 (oo 22 (.mv (tt 21))), dl 9 (og 23 22 false (.mv (tt 7))), dl 10 (og 24 22 false (.bin .gtr (tt 23) (ci 0))), dl 11 (og 25 22 false (.mv (tt 24))), dl 12 (og 26 25 true (.mv (tt 0))), dl 13 (og 27 25 true (.mv (tt 7))), dl 14 (og 28 25 true (.bin .sub (tt 27) (ci 1))), dl 15 (og 29 25 true (.ia 1 (tt 26) (tt 28))), dl 16 (og 30 25 true (.ld (tt 29))), dl 17 (og 31 25 true (.mv (tt 0))), dl 18 (og 32 25 true (.mv (tt 7))), dl 19 (og 33 25 true (.ia 1 (tt 31) (tt 32))), dl 20 (og 34 25 true (.ld (tt 33))), dl 21 (og 35 25 true (.bin .geq (tt 30) (tt 34))), dl 22 (og 36 22 false (.pick (tt 25) (tt 35) (cb  false))), dl 23 (oo 37 (.pick (tt 22) (cb  true) (tt 36)))]
abbrev c_spec_l00Rises_4 : List GOp := [oo 6 (.mv (cb  false))]
abbrev c_spec_l00Rises_5 : List GOp := [oo 12 (.mv (tt 7)), oo 13 (.bin .add (tt 12) (ci 1)), oo 7 (.mv (tt 13))]
abbrev c_spec_l00Rises_l0 : GCode := .seq (.seq (.reg c_spec_l00Rises_2) (.cond (tt 11) (.skip) (.exit 0))) (.seq (.blk 1 (.seq (.dreg c_spec_l00Rises_3) (.cond (tt 37) (.seq (.reg c_spec_l00Rises_4) (.ret)) (.skip)))) (.reg c_spec_l00Rises_5))
abbrev c_spec_l00Rises_7 : List GOp := [oo 6 (.mv (cb  true))]
abbrev c_spec_l00Rises : GCode := .seq (.reg c_spec_l00Rises_0) (.seq (.seq (.reg c_spec_l00Rises_1) (.blk 0 (.loop c_spec_l00Rises_l0))) (.seq (.reg c_spec_l00Rises_7) (.ret)))
theorem c_spec_l00Rises_d : decFn Try.prog Try.f49 = some (38, [.t 6], c_spec_l00Rises) := by kernel_rfl
theorem c_spec_l00Rises_i {args : List Value} {G : GH} {K : Value → GH → Prop} (hn : args.length ≤ 38) (h : gW Try.prog c_spec_l00Rises (RetK [.t 6] K) (T0 args) G) : GC Try.prog 49 args G K := GC_intro mixed Try.func49 c_spec_l00Rises_d hn h
abbrev c_spec_l00Same_0 : List GOp := [oo 4 (.mv (cb  false))]
abbrev c_spec_l00Same_1 : List GOp := [oo 6 (.mv (tt 0)), oo 7 (.len (tt 6)), oo 8 (.mv (tt 1)), oo 9 (.len (tt 8)), oo 10 (.bin .neq (tt 7) (tt 9))]
abbrev c_spec_l00Same_2 : List GOp := [oo 4 (.mv (cb  false))]
abbrev c_spec_l00Same_3 : List GOp := [oo 5 (.mv (ci 0))]
abbrev c_spec_l00Same_4 : List GOp := [oo 11 (.mv (tt 5)), oo 12 (.mv (tt 0)), oo 13 (.len (tt 12)), oo 14 (.bin .lss (tt 11) (tt 13))]
abbrev c_spec_l00Same_5 : List DOp := [dl 0 (oo 17 (.mv (tt 0))), dl 1 (oo 18 (.mv (tt 5))), dl 2 (oo 19 (.ia 1 (tt 17) (tt 18))), dl 3 (oo 20 (.ld (tt 19))), dl 4 (oo 21 (.mv (tt 1))), dl 5 (oo 22 (.mv (tt 5))), dl 6 (oo 23 (.ia 1 (tt 21) (tt 22))), dl 7 (oo 24 (.ld (tt 23))), dl 8 (oo 25 (.bin .neq (tt 20) (tt 24)))]
abbrev c_spec_l00Same_6 : List GOp := [oo 4 (.mv (cb  false))]
abbrev c_spec_l00Same_7 : List GOp := [oo 15 (.mv (tt 5)), oo 16 (.bin .add (tt 15) (ci 1)), oo 5 (.mv (tt 16))]
abbrev c_spec_l00Same_l0 : GCode := .seq (.seq (.reg c_spec_l00Same_4) (.cond (tt 14) (.skip) (.exit 0))) (.seq (.blk 1 (.seq (.dreg c_spec_l00Same_5) (.cond (tt 25) (.seq (.reg c_spec_l00Same_6) (.ret)) (.skip)))) (.reg c_spec_l00Same_7))
abbrev c_spec_l00Same_9 : List GOp := [oo 4 (.mv (cb  true))]
abbrev c_spec_l00Same : GCode := .seq (.reg c_spec_l00Same_0) (.seq (.seq (.reg c_spec_l00Same_1) (.cond (tt 10) (.seq (.reg c_spec_l00Same_2) (.ret)) (.skip))) (.seq (.seq (.reg c_spec_l00Same_3) (.blk 0 (.loop c_spec_l00Same_l0))) (.seq (.reg c_spec_l00Same_9) (.ret))))
theorem c_spec_l00Same_d : decFn Try.prog Try.f82 = some (26, [.t 4], c_spec_l00Same) := by kernel_rfl
theorem c_spec_l00Same_i {args : List Value} {G : GH} {K : Value → GH → Prop} (hn : args.length ≤ 26) (h : gW Try.prog c_spec_l00Same (RetK [.t 4] K) (T0 args) G) : GC Try.prog 82 args G K := GC_intro mixed Try.func82 c_spec_l00Same_d hn h
abbrev c_spec_l16Before_0 : List GOp := [oo 4 (.mv (cb  false))]
abbrev c_spec_l16Before_1 : List GOp := [oo 5 (.mv (ci 0))]
abbrev c_spec_l16Before_2 : List GOp := [oo 6 (.mv (tt 5)), oo 7 (.mv (tt 0)), oo 8 (.len (tt 7)), oo 9 (.bin .lss (tt 6) (tt 8)), oo 10 (.mv (tt 9)), og 11 10 true (.mv (tt 5)), og 12 10 true (.mv (tt 1)), og 13 10 true (.len (tt 12)), og 14 10 true (.bin .lss (tt 11) (tt 13)), oo 15 (.pick (tt 10) (tt 14) (cb  false))]
abbrev c_spec_l16Before_3 : List DOp := [dl 0 (oo 18 (.mv (tt 0))), dl 1 (oo 19 (.mv (tt 5))), dl 2 (oo 20 (.ia 1 (tt 18) (tt 19))), dl 3 (oo 21 (.ld (tt 20))), dl 4 (oo 22 (.mv (tt 1))), dl 5 (oo 23 (.mv (tt 5))), dl 6 (oo 24 (.ia 1 (tt 22) (tt 23))), dl 7 (oo 25 (.ld (tt 24))), dl 8 (oo 26 (.bin .neq (tt 21) (tt 25)))]
abbrev c_spec_l16Before_4 : List DOp := [dl 0 (oo 27 (.mv (tt 0))), dl 1 (oo 28 (.mv (tt 5))), dl 2 (oo 29 (.ia 1 (tt 27) (tt 28))), dl 3 (oo 30 (.ld (tt 29))), dl 4 (oo 31 (.mv (tt 1))), dl 5 (oo 32 (.mv (tt 5))), dl 6 (oo 33 (.ia 1 (tt 31) (tt 32))), dl 7 (oo 34 (.ld (tt 33))), dl 8 (oo 35 (.bin .lss (tt 30) (tt 34))), dl 9 (oo 4 (.mv (tt 35)))]
abbrev c_spec_l16Before_5 : List GOp := [oo 16 (.mv (tt 5)), oo 17 (.bin .add (tt 16) (ci 1)), oo 5 (.mv (tt 17))]
abbrev c_spec_l16Before_l0 : GCode := .seq (.seq (.reg c_spec_l16Before_2) (.cond (tt 15) (.skip) (.exit 0))) (.seq (.blk 1 (.seq (.dreg c_spec_l16Before_3) (.cond (tt 26) (.seq (.dreg c_spec_l16Before_4) (.ret)) (.skip)))) (.reg c_spec_l16Before_5))
abbrev c_spec_l16Before_7 : List GOp := [oo 36 (.mv (tt 0)), oo 37 (.len (tt 36)), oo 38 (.mv (tt 1)), oo 39 (.len (tt 38)), oo 40 (.bin .lss (tt 37) (tt 39)), oo 4 (.mv (tt 40))]
abbrev c_spec_l16Before : GCode := .seq (.reg c_spec_l16Before_0) (.seq (.seq (.reg c_spec_l16Before_1) (.blk 0 (.loop c_spec_l16Before_l0))) (.seq (.reg c_spec_l16Before_7) (.ret)))
theorem c_spec_l16Before_d : decFn Try.prog Try.f71 = some (41, [.t 4], c_spec_l16Before) := by kernel_rfl
theorem c_spec_l16Before_i {args : List Value} {G : GH} {K : Value → GH → Prop} (hn : args.length ≤ 41) (h : gW Try.prog c_spec_l16Before (RetK [.t 4] K) (T0 args) G) : GC Try.prog 71 args G K := GC_intro mixed Try.func71 c_spec_l16Before_d hn h
abbrev c_spec_l20Cell_0 : List GOp := [oo 6 (.mv (ci 0))]
abbrev c_spec_l20Cell_1 : List GOp := [oo 7 (.mv (ci 0))]
abbrev c_spec_l20Cell_2 : List GOp := [oo 8 (.mv (tt 7)), oo 9 (.mv (tt 0)), oo 10 (.len (tt 9)), oo 11 (.bin .lss (tt 8) (tt 10))]
abbrev c_spec_l20Cell_3 : List GOp := [oo 14 (.mv (tt 0)), oo 15 (.mv (tt 7)), oo 16 (.ia 1 (tt 14) (tt 15)), oo 17 (.ld (tt 16)), oo 18 (.mv (tt 2)), oo 19 (.bin .eql (tt 17) (tt 18))]
abbrev c_spec_l20Cell_4 : List GOp := [oo 20 (.mv (tt 1)), oo 21 (.mv (tt 7)), oo 22 (.ia 1 (tt 20) (tt 21)), oo 23 (.ld (tt 22)), oo 6 (.mv (tt 23))]
abbrev c_spec_l20Cell_5 : List GOp := [oo 12 (.mv (tt 7)), oo 13 (.bin .add (tt 12) (ci 1)), oo 7 (.mv (tt 13))]
abbrev c_spec_l20Cell_l0 : GCode := .seq (.seq (.reg c_spec_l20Cell_2) (.cond (tt 11) (.skip) (.exit 0))) (.seq (.blk 1 (.seq (.reg c_spec_l20Cell_3) (.cond (tt 19) (.seq (.reg c_spec_l20Cell_4) (.ret)) (.skip)))) (.reg c_spec_l20Cell_5))
abbrev c_spec_l20Cell_7 : List GOp := [oo 6 (.mv (ci (-1)))]
abbrev c_spec_l20Cell : GCode := .seq (.reg c_spec_l20Cell_0) (.seq (.seq (.reg c_spec_l20Cell_1) (.blk 0 (.loop c_spec_l20Cell_l0))) (.seq (.reg c_spec_l20Cell_7) (.ret)))
theorem c_spec_l20Cell_d : decFn Try.prog Try.f59 = some (24, [.t 6], c_spec_l20Cell) := by kernel_rfl
theorem c_spec_l20Cell_i {args : List Value} {G : GH} {K : Value → GH → Prop} (hn : args.length ≤ 24) (h : gW Try.prog c_spec_l20Cell (RetK [.t 6] K) (T0 args) G) : GC Try.prog 59 args G K := GC_intro mixed Try.func59 c_spec_l20Cell_d hn h
abbrev c_spec_l20Columns_0 : List GOp := [oo 4 (.mv (.const (.slice none 0 0)))]
abbrev c_spec_l20Columns_1 : List GOp := [oo 7 (.mv (tt 0)), oo 8 (.call (ff 66) [tt 7]), oo 5 (.mv (tt 8))]
abbrev c_spec_l20Columns_2 : List GOp := [oo 6 (.mv (ci 0))]
abbrev c_spec_l20Columns_3 : List GOp := [oo 9 (.mv (tt 6)), oo 10 (.mv (tt 1)), oo 11 (.len (tt 10)), oo 12 (.bin .lss (tt 9) (tt 11))]
abbrev c_spec_l20Columns_4 : List GOp := [oo 15 (.mv (tt 5)), oo 16 (.mv (tt 1)), oo 17 (.mv (tt 6)), oo 18 (.ia 1 (tt 16) (tt 17)), oo 19 (.ld (tt 18)), oo 20 (.call (ff 81) [tt 15, tt 19]), oo 5 (.mv (tt 20))]
abbrev c_spec_l20Columns_5 : List GOp := [oo 13 (.mv (tt 6)), oo 14 (.bin .add (tt 13) (ci 1)), oo 6 (.mv (tt 14))]
abbrev c_spec_l20Columns_l0 : GCode := .seq (.seq (.reg c_spec_l20Columns_3) (.cond (tt 12) (.skip) (.exit 0))) (.seq (.blk 1 (.reg c_spec_l20Columns_4)) (.reg c_spec_l20Columns_5))
abbrev c_spec_l20Columns_7 : List GOp := [oo 21 (.mv (tt 5)), oo 4 (.mv (tt 21))]
abbrev c_spec_l20Columns : GCode := .seq (.reg c_spec_l20Columns_0) (.seq (.reg c_spec_l20Columns_1) (.seq (.seq (.reg c_spec_l20Columns_2) (.blk 0 (.loop c_spec_l20Columns_l0))) (.seq (.reg c_spec_l20Columns_7) (.ret))))
theorem c_spec_l20Columns_d : decFn Try.prog Try.f56 = some (22, [.t 4], c_spec_l20Columns) := by kernel_rfl
theorem c_spec_l20Columns_i {args : List Value} {G : GH} {K : Value → GH → Prop} (hn : args.length ≤ 22) (h : gW Try.prog c_spec_l20Columns (RetK [.t 4] K) (T0 args) G) : GC Try.prog 56 args G K := GC_intro mixed Try.func56 c_spec_l20Columns_d hn h
abbrev c_spec_l20Fit_0 : List GOp := [oo 8 (.mv (cb  false))]
abbrev c_spec_l20Fit_1 : List GOp := [oo 9 (.mv (ci 0))]
abbrev c_spec_l20Fit_2 : List GOp := [oo 11 (.mv (tt 9)), oo 12 (.mv (tt 0)), oo 13 (.nc (tt 12)), oo 14 (.fa 0 (tt 13)), oo 15 (.ld (tt 14)), oo 16 (.len (tt 15)), oo 17 (.bin .lss (tt 11) (tt 16))]
abbrev c_spec_l20Fit_3 : List DOp := [dl 0 (oo 20 (.mv (tt 1))), dl 1 (oo 21 (.nc (tt 20))), dl 2 (oo 22 (.fa 0 (tt 21))), dl 3 (oo 23 (.ld (tt 22))), dl 4 (oo 24 (.mv (tt 3))), dl 5 (oo 25 (.mv (tt 0))), dl 6 (oo 26 (.nc (tt 25))), dl 7 (oo 27 (.fa 0 (tt 26))), dl 8 (oo 28 (.ld (tt 27))), dl 9 (oo 29 (.mv (tt 9))), dl 10 (oo 30 (.ia 1 (tt 28) (tt 29))), dl 11 (oo 31 (.ld (tt 30))), dh 12 [8] (oo 32 (.call (ff 59) [tt 23, tt 24, tt 31])), dl 13 (oo 10 (.mv (tt 32)))]
abbrev c_spec_l20Fit_4 : List GOp := [oo 33 (.mv (tt 10)), oo 34 (.bin .geq (tt 33) (ci 0)), oo 35 (.mv (tt 34)), og 36 35 true (.mv (tt 10)), og 37 35 true (.mv (tt 2)), og 38 35 true (.mv (tt 9)), og 39 35 true (.ia 1 (tt 37) (tt 38)), og 40 35 true (.ld (tt 39)), og 41 35 true (.bin .neq (tt 36) (tt 40)), oo 42 (.pick (tt 35) (tt 41) (cb  false))]
abbrev c_spec_l20Fit_5 : List GOp := [oo 8 (.mv (cb  false))]
abbrev c_spec_l20Fit_6 : List GOp := [oo 18 (.mv (tt 9)), oo 19 (.bin .add (tt 18) (ci 1)), oo 9 (.mv (tt 19))]
abbrev c_spec_l20Fit_l0 : GCode := .seq (.seq (.reg c_spec_l20Fit_2) (.cond (tt 17) (.skip) (.exit 0))) (.seq (.blk 1 (.seq (.dreg c_spec_l20Fit_3) (.seq (.reg c_spec_l20Fit_4) (.cond (tt 42) (.seq (.reg c_spec_l20Fit_5) (.ret)) (.skip))))) (.reg c_spec_l20Fit_6))
abbrev c_spec_l20Fit_8 : List GOp := [oo 8 (.mv (cb  true))]
abbrev c_spec_l20Fit : GCode := .seq (.reg c_spec_l20Fit_0) (.seq (.seq (.reg c_spec_l20Fit_1) (.blk 0 (.loop c_spec_l20Fit_l0))) (.seq (.reg c_spec_l20Fit_8) (.ret)))
theorem c_spec_l20Fit_d : decFn Try.prog Try.f57 = some (43, [.t 8], c_spec_l20Fit) := by kernel_rfl
theorem c_spec_l20Fit_i {args : List Value} {G : GH} {K : Value → GH → Prop} (hn : args.length ≤ 43) (h : gW Try.prog c_spec_l20Fit (RetK [.t 8] K) (T0 args) G) : GC Try.prog 57 args G K := GC_intro mixed Try.func57 c_spec_l20Fit_d hn h
abbrev c_spec_l20Ok_0 : List GOp := [oo 2 (.mv (cb  false))]
abbrev c_spec_l20Ok_1 : List GOp := [oo 5 (.mv (tt 0)), oo 6 (.nc (tt 5)), oo 7 (.fa 0 (tt 6)), oo 8 (.ld (tt 7)), oo 9 (.call (ff 49) [tt 8, (ci 0), (ci 7)]), oo 10 (.un .not (tt 9)), oo 11 (.mv (tt 10)), og 12 11 false (.mv (tt 0)), og 13 11 false (.nc (tt 12)), og 14 11 false (.fa 1 (tt 13)), og 15 11 false (.ld (tt 14)), og 16 11 false (.len (tt 15)), og 17 11 false (.bin .gtr (tt 16) (ci 24)), oo 18 (.pick (tt 11) (cb  true) (tt 17))]
abbrev c_spec_l20Ok_2 : List GOp := [oo 2 (.mv (cb  false))]
abbrev c_spec_l20Ok_3 : List GOp := [oo 3 (.mv (ci 0))]
abbrev c_spec_l20Ok_4 : List GOp := [oo 19 (.mv (tt 3)), oo 20 (.mv (tt 0)), oo 21 (.nc (tt 20)), oo 22 (.fa 1 (tt 21)), oo 23 (.ld (tt 22)), oo 24 (.len (tt 23)), oo 25 (.bin .lss (tt 19) (tt 24))]
abbrev c_spec_l20Ok_5 : List DOp := [dl 0 (oo 28 (.mv (tt 0))), dl 1 (oo 29 (.nc (tt 28))), dl 2 (oo 30 (.fa 1 (tt 29))), dl 3 (oo 31 (.ld (tt 30))), dl 4 (oo 32 (.mv (tt 3))), dl 5 (oo 33 (.ia 1 (tt 31) (tt 32))), dl 6 (oo 34 (.ld (tt 33))), dl 7 (oo 35 (.len (tt 34))), dl 8 (oo 36 (.mv (tt 0))), dl 9 (oo 37 (.nc (tt 36))), dl 10 (oo 38 (.fa 0 (tt 37))), dl 11 (oo 39 (.ld (tt 38))), dl 12 (oo 40 (.len (tt 39))), dl 13 (oo 41 (.bin .neq (tt 35) (tt 40))), dl 14 (oo 42 (.mv (tt 41))), dl 15 (og 43 42 false (.mv (tt 3))), dl 16 (og 44 42 false (.bin .gtr (tt 43) (ci 0))), dl 17 (og 45 42 false (.mv (tt 44))), dl 18 (og 46 45 true (.mv (tt 0))), dl 19 (og 47 45 true (.nc (tt 46))), dl 20 (og 48 45 true (.fa 1 (tt 47))), dl 21 (og 49 45 true (.ld (tt 48))), dl 22 (og 50 45 true (.mv (tt 3))), dl 23 (og 51 45 true (.bin .sub (tt 50) (ci 1))), dl 24 (og 52 45 true (.ia 1 (tt 49) (tt 51))), dl 25 (og 53 45 true (.ld (tt 52))), dl 26 (og 54 45 true (.mv (tt 0))), dl 27 (og 55 45 true (.nc (tt 54))), dl 28 (og 56 45 true (.fa 1 (tt 55))), dl 29 (og 57 45 true (.ld (tt 56))), dl 30 (og 58 45 true (.mv (tt 3))), dl 31 (og 59 45 true (.ia 1 (tt 57) (tt 58))), dl 32 (og 60 45 true (.ld (tt 59))), dh 33 [29, 21, 11, 6, 3] (og 61 45 true (.call (ff 71) [tt 53, tt 60])), dl 34 (og 62 45 true (.un .not (tt 61))), dl 35 (og 63 42 false (.pick (tt 45) (tt 62) (cb  false))), dl 36 (oo 64 (.pick (tt 42) (cb  true) (tt 63)))]
abbrev c_spec_l20Ok_6 : List GOp := [oo 2 (.mv (cb  false))]
abbrev c_spec_l20Ok_7 : List GOp := [oo 4 (.mv (ci 0))]
abbrev c_spec_l20Ok_8 : List GOp := [oo 65 (.mv (tt 4)), oo 66 (.mv (tt 0)), oo 67 (.nc (tt 66)), oo 68 (.fa 1 (tt 67)), oo 69 (.ld (tt 68)), oo 70 (.mv (tt 3)), oo 71 (.ia 1 (tt 69) (tt 70)), oo 72 (.ld (tt 71)), oo 73 (.len (tt 72)), oo 74 (.bin .lss (tt 65) (tt 73))]
abbrev c_spec_l20Ok_9 : List GOp := [oo 77 (.mv (tt 0)), oo 78 (.nc (tt 77)), oo 79 (.fa 1 (tt 78)), oo 80 (.ld (tt 79)), oo 81 (.mv (tt 3)), oo 82 (.ia 1 (tt 80) (tt 81)), oo 83 (.ld (tt 82)), oo 84 (.mv (tt 4)), oo 85 (.ia 1 (tt 83) (tt 84)), oo 86 (.ld (tt 85)), oo 87 (.call (ff 72) [tt 86, (ci 0), (ci 3)]), oo 88 (.un .not (tt 87))]
abbrev c_spec_l20Ok_10 : List GOp := [oo 2 (.mv (cb  false))]
abbrev c_spec_l20Ok_11 : List GOp := [oo 75 (.mv (tt 4)), oo 76 (.bin .add (tt 75) (ci 1)), oo 4 (.mv (tt 76))]
abbrev c_spec_l20Ok_l0 : GCode := .seq (.seq (.reg c_spec_l20Ok_8) (.cond (tt 74) (.skip) (.exit 2))) (.seq (.blk 3 (.seq (.reg c_spec_l20Ok_9) (.cond (tt 88) (.seq (.reg c_spec_l20Ok_10) (.ret)) (.skip)))) (.reg c_spec_l20Ok_11))
abbrev c_spec_l20Ok_13 : List GOp := [oo 26 (.mv (tt 3)), oo 27 (.bin .add (tt 26) (ci 1)), oo 3 (.mv (tt 27))]
abbrev c_spec_l20Ok_l1 : GCode := .seq (.seq (.reg c_spec_l20Ok_4) (.cond (tt 25) (.skip) (.exit 0))) (.seq (.blk 1 (.seq (.seq (.dreg c_spec_l20Ok_5) (.cond (tt 64) (.seq (.reg c_spec_l20Ok_6) (.ret)) (.skip))) (.seq (.reg c_spec_l20Ok_7) (.blk 2 (.loop c_spec_l20Ok_l0))))) (.reg c_spec_l20Ok_13))
abbrev c_spec_l20Ok_15 : List GOp := [oo 2 (.mv (cb  true))]
abbrev c_spec_l20Ok : GCode := .seq (.reg c_spec_l20Ok_0) (.seq (.seq (.reg c_spec_l20Ok_1) (.cond (tt 18) (.seq (.reg c_spec_l20Ok_2) (.ret)) (.skip))) (.seq (.seq (.reg c_spec_l20Ok_3) (.blk 0 (.loop c_spec_l20Ok_l1))) (.seq (.reg c_spec_l20Ok_15) (.ret))))
theorem c_spec_l20Ok_d : decFn Try.prog Try.f43 = some (89, [.t 2], c_spec_l20Ok) := by kernel_rfl
theorem c_spec_l20Ok_i {args : List Value} {G : GH} {K : Value → GH → Prop} (hn : args.length ≤ 89) (h : gW Try.prog c_spec_l20Ok (RetK [.t 2] K) (T0 args) G) : GC Try.prog 43 args G K := GC_intro mixed Try.func43 c_spec_l20Ok_d hn h
abbrev c_spec_l20Put_0 : List GOp := [oo 4 (.mv (.const (.slice none 0 0)))]
abbrev c_spec_l20Put_1 : List GOp := [oo 8 (.bs 1 []), oo 5 (.mv (tt 8))]
abbrev c_spec_l20Put_2 : List GOp := [oo 6 (.mv (cb  false))]
abbrev c_spec_l20Put_3 : List GOp := [oo 7 (.mv (ci 0))]
abbrev c_spec_l20Put_4 : List GOp := [oo 9 (.mv (tt 7)), oo 10 (.mv (tt 0)), oo 11 (.len (tt 10)), oo 12 (.bin .lss (tt 9) (tt 11))]
abbrev c_spec_l20Put_5 : List GOp := [oo 15 (.mv (tt 0)), oo 16 (.mv (tt 7)), oo 17 (.ia 1 (tt 15) (tt 16)), oo 18 (.ld (tt 17)), oo 19 (.mv (tt 1)), oo 20 (.call (ff 82) [tt 18, tt 19])]
abbrev c_spec_l20Put_6 : List GOp := [oo 6 (.mv (cb  true))]
abbrev c_spec_l20Put_7 : List GOp := [oo 21 (.mv (tt 6)), oo 22 (.un .not (tt 21)), oo 23 (.mv (tt 22)), og 24 23 true (.mv (tt 1)), og 25 23 true (.mv (tt 0)), og 26 23 true (.mv (tt 7)), og 27 23 true (.ia 1 (tt 25) (tt 26)), og 28 23 true (.ld (tt 27)), og 29 23 true (.call (ff 71) [tt 24, tt 28]), oo 30 (.pick (tt 23) (tt 29) (cb  false))]
abbrev c_spec_l20Put_8 : List GOp := [oo 31 (.mv (tt 5)), oo 32 (.mv (tt 1)), oo 33 (.call (ff 66) [tt 32]), oo 34 (.bs 1 [tt 33]), oo 35 (.ap 1 24 [.slice none 0 0] (tt 31) (tt 34)), oo 5 (.mv (tt 35))]
abbrev c_spec_l20Put_9 : List GOp := [oo 6 (.mv (cb  true))]
abbrev c_spec_l20Put_10 : List GOp := [oo 36 (.mv (tt 5)), oo 37 (.mv (tt 0)), oo 38 (.mv (tt 7)), oo 39 (.ia 1 (tt 37) (tt 38)), oo 40 (.ld (tt 39)), oo 41 (.bs 1 [tt 40]), oo 42 (.ap 1 24 [.slice none 0 0] (tt 36) (tt 41)), oo 5 (.mv (tt 42))]
abbrev c_spec_l20Put_11 : List GOp := [oo 13 (.mv (tt 7)), oo 14 (.bin .add (tt 13) (ci 1)), oo 7 (.mv (tt 14))]
abbrev c_spec_l20Put_l0 : GCode := .seq (.seq (.reg c_spec_l20Put_4) (.cond (tt 12) (.skip) (.exit 0))) (.seq (.blk 1 (.seq (.seq (.reg c_spec_l20Put_5) (.cond (tt 20) (.reg c_spec_l20Put_6) (.skip))) (.seq (.seq (.reg c_spec_l20Put_7) (.cond (tt 30) (.seq (.reg c_spec_l20Put_8) (.reg c_spec_l20Put_9)) (.skip))) (.reg c_spec_l20Put_10)))) (.reg c_spec_l20Put_11))
abbrev c_spec_l20Put_13 : List GOp := [oo 43 (.mv (tt 6)), oo 44 (.un .not (tt 43))]
abbrev c_spec_l20Put_14 : List GOp := [oo 45 (.mv (tt 5)), oo 46 (.mv (tt 1)), oo 47 (.call (ff 66) [tt 46]), oo 48 (.bs 1 [tt 47]), oo 49 (.ap 1 24 [.slice none 0 0] (tt 45) (tt 48)), oo 5 (.mv (tt 49))]
abbrev c_spec_l20Put_15 : List GOp := [oo 50 (.mv (tt 5)), oo 4 (.mv (tt 50))]
abbrev c_spec_l20Put : GCode := .seq (.reg c_spec_l20Put_0) (.seq (.reg c_spec_l20Put_1) (.seq (.reg c_spec_l20Put_2) (.seq (.seq (.reg c_spec_l20Put_3) (.blk 0 (.loop c_spec_l20Put_l0))) (.seq (.seq (.reg c_spec_l20Put_13) (.cond (tt 44) (.reg c_spec_l20Put_14) (.skip))) (.seq (.reg c_spec_l20Put_15) (.ret))))))
theorem c_spec_l20Put_d : decFn Try.prog Try.f60 = some (51, [.t 4], c_spec_l20Put) := by kernel_rfl
theorem c_spec_l20Put_i {args : List Value} {G : GH} {K : Value → GH → Prop} (hn : args.length ≤ 51) (h : gW Try.prog c_spec_l20Put (RetK [.t 4] K) (T0 args) G) : GC Try.prog 60 args G K := GC_intro mixed Try.func60 c_spec_l20Put_d hn h

end Go.Proofs.Ytanpmilodaejpaa.Gh
