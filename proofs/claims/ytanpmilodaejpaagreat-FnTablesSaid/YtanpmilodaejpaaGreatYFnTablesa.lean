/- Code trees that the law FnTables reaches: each is what the decoding gives (checked by the kernel). -/
import Derived.Test.YtanpmilodaejpaaGreatC0
import Derived.Test.YtanpmilodaejpaaGreatFm
import Derived.Test.YtanpmilodaejpaaGreatFn
import Derived.Test.YtanpmilodaejpaaGreatFz
namespace Go.Proofs.YtanpmilodaejpaaGreat.Gh
open Go Go.RowKit Go.Proofs
set_option linter.unusedVariables false
set_option linter.unusedSimpArgs false
set_option maxHeartbeats 4000000

abbrev c_cmp_Compare_int64_0 : List GOp := [oo 4 (.mv (ci 0))]
abbrev c_cmp_Compare_int64_1 : List GOp := [oo 7 (.mv (tt 0)), oo 8 (.call (ff 253) [tt 7]), oo 5 (.mv (tt 8))]
abbrev c_cmp_Compare_int64_2 : List GOp := [oo 9 (.mv (tt 1)), oo 10 (.call (ff 253) [tt 9]), oo 6 (.mv (tt 10))]
abbrev c_cmp_Compare_int64_3 : List GOp := [oo 11 (.mv (tt 5))]
abbrev c_cmp_Compare_int64_4 : List GOp := [oo 12 (.mv (tt 6))]
abbrev c_cmp_Compare_int64_5 : List GOp := [oo 4 (.mv (ci 0))]
abbrev c_cmp_Compare_int64_6 : List GOp := [oo 4 (.mv (ci (-1)))]
abbrev c_cmp_Compare_int64_7 : List GOp := [oo 13 (.mv (tt 6))]
abbrev c_cmp_Compare_int64_8 : List GOp := [oo 4 (.mv (ci 1))]
abbrev c_cmp_Compare_int64_9 : List GOp := [oo 14 (.mv (tt 0)), oo 15 (.mv (tt 1)), oo 16 (.bin .lss (tt 14) (tt 15))]
abbrev c_cmp_Compare_int64_10 : List GOp := [oo 4 (.mv (ci (-1)))]
abbrev c_cmp_Compare_int64_11 : List GOp := [oo 17 (.mv (tt 0)), oo 18 (.mv (tt 1)), oo 19 (.bin .gtr (tt 17) (tt 18))]
abbrev c_cmp_Compare_int64_12 : List GOp := [oo 4 (.mv (ci 1))]
abbrev c_cmp_Compare_int64_13 : List GOp := [oo 4 (.mv (ci 0))]
abbrev c_cmp_Compare_int64 : GCode := .seq (.reg c_cmp_Compare_int64_0) (.seq (.reg c_cmp_Compare_int64_1) (.seq (.reg c_cmp_Compare_int64_2) (.seq (.seq (.reg c_cmp_Compare_int64_3) (.cond (tt 11) (.seq (.seq (.reg c_cmp_Compare_int64_4) (.cond (tt 12) (.seq (.reg c_cmp_Compare_int64_5) (.ret)) (.skip))) (.seq (.reg c_cmp_Compare_int64_6) (.ret))) (.skip))) (.seq (.seq (.reg c_cmp_Compare_int64_7) (.cond (tt 13) (.seq (.reg c_cmp_Compare_int64_8) (.ret)) (.skip))) (.seq (.seq (.reg c_cmp_Compare_int64_9) (.cond (tt 16) (.seq (.reg c_cmp_Compare_int64_10) (.ret)) (.skip))) (.seq (.seq (.reg c_cmp_Compare_int64_11) (.cond (tt 19) (.seq (.reg c_cmp_Compare_int64_12) (.ret)) (.skip))) (.seq (.reg c_cmp_Compare_int64_13) (.ret))))))))
theorem c_cmp_Compare_int64_d : decFn Tryz.prog Tryz.f226 = some (20, [.t 4], c_cmp_Compare_int64) := by kernel_rfl
theorem c_cmp_Compare_int64_i {args : List Value} {G : GH} {K : Value → GH → Prop} (hn : args.length ≤ 20) (h : gW Tryz.prog c_cmp_Compare_int64 (RetK [.t 4] K) (T0 args) G) : GC Tryz.prog 226 args G K := GC_intro mixed Tryz.func226 c_cmp_Compare_int64_d hn h
abbrev c_cmp_isNaN_int64_0 : List GOp := [oo 2 (.mv (cb  false))]
abbrev c_cmp_isNaN_int64_1 : List GOp := [oo 3 (.mv (tt 0)), oo 4 (.mv (tt 0)), oo 5 (.bin .neq (tt 3) (tt 4)), oo 2 (.mv (tt 5))]
abbrev c_cmp_isNaN_int64 : GCode := .seq (.reg c_cmp_isNaN_int64_0) (.seq (.reg c_cmp_isNaN_int64_1) (.ret))
theorem c_cmp_isNaN_int64_d : decFn Tryz.prog Tryz.f253 = some (6, [.t 2], c_cmp_isNaN_int64) := by kernel_rfl
theorem c_cmp_isNaN_int64_i {args : List Value} {G : GH} {K : Value → GH → Prop} (hn : args.length ≤ 6) (h : gW Tryz.prog c_cmp_isNaN_int64 (RetK [.t 2] K) (T0 args) G) : GC Tryz.prog 253 args G K := GC_intro mixed Tryz.func253 c_cmp_isNaN_int64_d hn h
abbrev c_impl_FirstDisagreement_0 : List GOp := [oo 2 (.mv (ci 0)), oo 3 (.mv (ci 0)), oo 4 (.mv (ci 0))]
abbrev c_impl_FirstDisagreement_1 : List GOp := [oo 8 (.mv (tt 0)), oo 9 (.call (ff 116) [tt 8]), oo 10 (.un .not (tt 9))]
abbrev c_impl_FirstDisagreement_2 : List GOp := [oo 2 (.mv (ci 0)), oo 3 (.mv (ci 0)), oo 4 (.mv (ci 1))]
abbrev c_impl_FirstDisagreement_3 : List GOp := [oo 12 (.mv (tt 0)), oo 13 (.call (ff 120) [tt 12]), oo 11 (.mv (tt 13)), oo 14 (.ex 0 (tt 11)), oo 15 (.ex 1 (tt 11)), oo 16 (.ex 2 (tt 11)), oo 5 (.mv (tt 14)), oo 6 (.mv (tt 15)), oo 7 (.mv (tt 16))]
abbrev c_impl_FirstDisagreement_4 : List GOp := [oo 17 (.mv (tt 7)), oo 18 (.un .not (tt 17))]
abbrev c_impl_FirstDisagreement_5 : List GOp := [oo 2 (.mv (ci 0)), oo 3 (.mv (ci 0)), oo 4 (.mv (ci 3))]
abbrev c_impl_FirstDisagreement_6 : List GOp := [oo 19 (.mv (tt 5)), oo 20 (.mv (tt 6)), oo 2 (.mv (tt 19)), oo 3 (.mv (tt 20)), oo 4 (.mv (ci 0))]
abbrev c_impl_FirstDisagreement : GCode := .seq (.reg c_impl_FirstDisagreement_0) (.seq (.seq (.reg c_impl_FirstDisagreement_1) (.cond (tt 10) (.seq (.reg c_impl_FirstDisagreement_2) (.ret)) (.skip))) (.seq (.reg c_impl_FirstDisagreement_3) (.seq (.seq (.reg c_impl_FirstDisagreement_4) (.cond (tt 18) (.seq (.reg c_impl_FirstDisagreement_5) (.ret)) (.skip))) (.seq (.reg c_impl_FirstDisagreement_6) (.ret)))))
theorem c_impl_FirstDisagreement_d : decFn Tryz.prog Tryz.f53 = some (21, [.t 2, .t 3, .t 4], c_impl_FirstDisagreement) := by kernel_rfl
theorem c_impl_FirstDisagreement_i {args : List Value} {G : GH} {K : Value → GH → Prop} (hn : args.length ≤ 21) (h : gW Tryz.prog c_impl_FirstDisagreement (RetK [.t 2, .t 3, .t 4] K) (T0 args) G) : GC Tryz.prog 53 args G K := GC_intro mixed Tryz.func53 c_impl_FirstDisagreement_d hn h
abbrev c_impl_JoinTables_0 : List GOp := [oo 2 (.bx (tt 0)), oo 3 (.bx (tt 1)), oo 4 (.al [.slice none 0 0, .slice none 0 0]), oo 5 (.mv (ci 0))]
abbrev c_impl_JoinTables_1 : List GOp := [oo 12 (.ldn 2 (tt 2)), oo 13 (.call (ff 103) [tt 12]), oo 14 (.un .not (tt 13)), oo 15 (.mv (tt 14)), og 16 15 false (.ldn 2 (tt 3)), og 17 15 false (.call (ff 103) [tt 16]), og 18 15 false (.un .not (tt 17)), oo 19 (.pick (tt 15) (cb  true) (tt 18))]
abbrev c_impl_JoinTables_2 : List GOp := [oo 20 (.bld [.slice none 0 0, .slice none 0 0] []), on (.st 2 (tt 4) (tt 20)), oo 5 (.mv (ci 1))]
abbrev c_impl_JoinTables_3 : List GOp := [oo 21 (.ldn 2 (tt 2)), oo 22 (.ldn 2 (tt 3)), oo 23 (.bs 2 [tt 21, tt 22]), oo 24 (.call (ff 104) [tt 23]), oo 25 (.bld [.slice none 0 0, .slice none 0 0] [(0, 1, (tt 24))]), oo 6 (.al [.slice none 0 0, .slice none 0 0]), on (.st 2 (tt 6) (tt 25))]
abbrev c_impl_JoinTables_4 : List GOp := [oo 26 (.fa 0 (tt 2)), oo 27 (.ld (tt 26)), oo 28 (.fa 0 (tt 3)), oo 29 (.ld (tt 28)), oo 30 (.bs 1 [tt 27, tt 29]), oo 31 (.call (ff 105) [tt 30]), oo 7 (.mv (tt 31))]
abbrev c_impl_JoinTables_5 : List GOp := [oo 32 (.fa 1 (tt 2)), oo 33 (.ld (tt 32)), oo 34 (.len (tt 33)), oo 35 (.mv (ci 0))]
abbrev c_impl_JoinTables_6 : List GOp := [oo 36 (.bin .lss (tt 35) (tt 34))]
abbrev c_impl_JoinTables_7 : List GOp := [oo 37 (.ia 1 (tt 33) (tt 35)), oo 38 (.ld (tt 37)), oo 9 (.mv (tt 38))]
abbrev c_impl_JoinTables_8 : List GOp := [oo 39 (.fa 1 (tt 3)), oo 40 (.ld (tt 39)), oo 41 (.len (tt 40)), oo 42 (.mv (ci 0))]
abbrev c_impl_JoinTables_9 : List GOp := [oo 43 (.bin .lss (tt 42) (tt 41))]
abbrev c_impl_JoinTables_10 : List GOp := [oo 44 (.ia 1 (tt 40) (tt 42)), oo 45 (.ld (tt 44)), oo 11 (.mv (tt 45))]
abbrev c_impl_JoinTables_11 : List GOp := [oo 46 (.ldn 2 (tt 2)), oo 47 (.ldn 2 (tt 3)), oo 48 (.mv (tt 9)), oo 49 (.mv (tt 11)), oo 50 (.call (ff 106) [tt 46, tt 47, tt 48, tt 49])]
abbrev c_impl_JoinTables_12 : List DOp := [dl 0 (oo 51 (.fa 1 (tt 6))), dl 1 (oo 52 (.ld (tt 51))), dl 2 (oo 53 (.mv (tt 7))), dl 3 (oo 54 (.mv (tt 9))), dl 4 (oo 55 (.mv (tt 11))), dl 7 (oo 58 (.fa 0 (tt 6))), dl 8 (oo 59 (.ld (tt 58))), dh 5 [8, 1] (oo 56 (.bs 1 [tt 54, tt 55])), dh 6 [8, 1] (oo 57 (.call (ff 105) [tt 56])), dh 9 [1] (oo 60 (.call (ff 107) [tt 53, tt 57, tt 59])), dh 10 [8, 1] (oo 61 (.bs 1 [tt 60])), dh 11 [8] (oo 62 (.ap 1 24 [.slice none 0 0] (tt 52) (tt 61))), dl 12 (oo 63 (.fa 1 (tt 6))), dh 13 [] (on (.st 1 (tt 63) (tt 62)))]
abbrev c_impl_JoinTables_13 : List GOp := [oo 64 (.bin .add (tt 42) (ci 1)), oo 42 (.mv (tt 64))]
abbrev c_impl_JoinTables_l0 : GCode := .seq (.reg c_impl_JoinTables_9) (.seq (.cond (tt 43) (.skip) (.exit 2)) (.seq (.blk 3 (.seq (.reg c_impl_JoinTables_10) (.seq (.reg c_impl_JoinTables_11) (.cond (tt 50) (.dreg c_impl_JoinTables_12) (.skip))))) (.reg c_impl_JoinTables_13)))
abbrev c_impl_JoinTables_15 : List GOp := [oo 65 (.bin .add (tt 35) (ci 1)), oo 35 (.mv (tt 65))]
abbrev c_impl_JoinTables_l1 : GCode := .seq (.reg c_impl_JoinTables_6) (.seq (.cond (tt 36) (.skip) (.exit 0)) (.seq (.blk 1 (.seq (.reg c_impl_JoinTables_7) (.seq (.reg c_impl_JoinTables_8) (.blk 2 (.loop c_impl_JoinTables_l0))))) (.reg c_impl_JoinTables_15)))
abbrev c_impl_JoinTables_17 : List GOp := [oo 66 (.fa 1 (tt 6)), oo 67 (.ld (tt 66)), oo 68 (.len (tt 67)), oo 69 (.bin .gtr (tt 68) (ci 24))]
abbrev c_impl_JoinTables_18 : List GOp := [oo 70 (.bld [.slice none 0 0, .slice none 0 0] []), on (.st 2 (tt 4) (tt 70)), oo 5 (.mv (ci 5))]
abbrev c_impl_JoinTables_19 : List GOp := [oo 71 (.fa 1 (tt 6)), oo 72 (.ld (tt 71)), oo 73 (.call (ff 108) [tt 72]), oo 74 (.fa 1 (tt 6)), on (.st 1 (tt 74) (tt 73))]
abbrev c_impl_JoinTables_20 : List GOp := [oo 75 (.ldn 2 (tt 6)), on (.st 2 (tt 4) (tt 75)), oo 5 (.mv (ci 0))]
abbrev c_impl_JoinTables : GCode := .seq (.reg c_impl_JoinTables_0) (.seq (.seq (.reg c_impl_JoinTables_1) (.cond (tt 19) (.seq (.reg c_impl_JoinTables_2) (.ret)) (.skip))) (.seq (.reg c_impl_JoinTables_3) (.seq (.reg c_impl_JoinTables_4) (.seq (.seq (.reg c_impl_JoinTables_5) (.blk 0 (.loop c_impl_JoinTables_l1))) (.seq (.seq (.reg c_impl_JoinTables_17) (.cond (tt 69) (.seq (.reg c_impl_JoinTables_18) (.ret)) (.skip))) (.seq (.reg c_impl_JoinTables_19) (.seq (.reg c_impl_JoinTables_20) (.ret))))))))
theorem c_impl_JoinTables_d : decFn Tryz.prog Tryz.f45 = some (76, [.cn 4 2, .t 5], c_impl_JoinTables) := by kernel_rfl
theorem c_impl_JoinTables_i {args : List Value} {G : GH} {K : Value → GH → Prop} (hn : args.length ≤ 76) (h : gW Tryz.prog c_impl_JoinTables (RetK [.cn 4 2, .t 5] K) (T0 args) G) : GC Tryz.prog 45 args G K := GC_intro mixed Tryz.func45 c_impl_JoinTables_d hn h
abbrev c_impl_ProjectTable_0 : List GOp := [oo 2 (.bx (tt 0)), oo 4 (.al [.slice none 0 0, .slice none 0 0]), oo 5 (.mv (ci 0))]
abbrev c_impl_ProjectTable_1 : List GOp := [oo 6 (.ldn 2 (tt 2)), oo 7 (.call (ff 103) [tt 6]), oo 8 (.un .not (tt 7))]
abbrev c_impl_ProjectTable_2 : List GOp := [oo 9 (.bld [.slice none 0 0, .slice none 0 0] []), on (.st 2 (tt 4) (tt 9)), oo 5 (.mv (ci 1))]
abbrev c_impl_ProjectTable_3 : List GOp := [oo 10 (.mv (tt 1)), oo 11 (.call (ff 110) [tt 10]), oo 12 (.un .not (tt 11)), oo 13 (.mv (tt 12)), og 14 13 false (.ldn 2 (tt 2)), og 15 13 false (.mv (tt 1)), og 16 13 false (.call (ff 111) [tt 14, tt 15]), og 17 13 false (.un .not (tt 16)), oo 18 (.pick (tt 13) (cb  true) (tt 17))]
abbrev c_impl_ProjectTable_4 : List GOp := [oo 19 (.bld [.slice none 0 0, .slice none 0 0] []), on (.st 2 (tt 4) (tt 19)), oo 5 (.mv (ci 2))]
abbrev c_impl_ProjectTable_5 : List GOp := [oo 20 (.ldn 2 (tt 2)), oo 21 (.mv (tt 1)), oo 22 (.call (ff 112) [tt 20, tt 21]), on (.st 2 (tt 4) (tt 22)), oo 5 (.mv (ci 0))]
abbrev c_impl_ProjectTable : GCode := .seq (.reg c_impl_ProjectTable_0) (.seq (.seq (.reg c_impl_ProjectTable_1) (.cond (tt 8) (.seq (.reg c_impl_ProjectTable_2) (.ret)) (.skip))) (.seq (.seq (.reg c_impl_ProjectTable_3) (.cond (tt 18) (.seq (.reg c_impl_ProjectTable_4) (.ret)) (.skip))) (.seq (.reg c_impl_ProjectTable_5) (.ret))))
theorem c_impl_ProjectTable_d : decFn Tryz.prog Tryz.f47 = some (23, [.cn 4 2, .t 5], c_impl_ProjectTable) := by kernel_rfl
theorem c_impl_ProjectTable_i {args : List Value} {G : GH} {K : Value → GH → Prop} (hn : args.length ≤ 23) (h : gW Tryz.prog c_impl_ProjectTable (RetK [.cn 4 2, .t 5] K) (T0 args) G) : GC Tryz.prog 47 args G K := GC_intro mixed Tryz.func47 c_impl_ProjectTable_d hn h
abbrev c_impl_ReduceTables_0 : List GOp := [oo 2 (.mv (.const (.slice none 0 0))), oo 3 (.mv (ci 0))]
abbrev c_impl_ReduceTables_1 : List GOp := [oo 11 (.mv (tt 0)), oo 12 (.call (ff 116) [tt 11]), oo 13 (.un .not (tt 12))]
abbrev c_impl_ReduceTables_2 : List GOp := [oo 2 (.mv (.const (.slice none 0 0))), oo 3 (.mv (ci 1))]
abbrev c_impl_ReduceTables_3 : List GOp := [oo 4 (.mv (.const (.slice none 0 0)))]
abbrev c_impl_ReduceTables_4 : List GOp := [oo 14 (.mv (tt 0)), oo 15 (.len (tt 14)), oo 16 (.mv (ci 0))]
abbrev c_impl_ReduceTables_5 : List GOp := [oo 17 (.bin .lss (tt 16) (tt 15))]
abbrev c_impl_ReduceTables_6 : List GOp := [oo 18 (.ia 2 (tt 14) (tt 16)), oo 19 (.ldn 2 (tt 18)), oo 6 (.al [.slice none 0 0, .slice none 0 0]), on (.st 2 (tt 6) (tt 19))]
abbrev c_impl_ReduceTables_7 : List DOp := [dl 0 (oo 20 (.mv (tt 4))), dl 1 (oo 21 (.fa 0 (tt 6))), dl 2 (oo 22 (.ld (tt 21))), dl 4 (oo 24 (.fa 1 (tt 6))), dl 5 (oo 25 (.ld (tt 24))), dh 3 [5] (oo 23 (.call (ff 117) [tt 22])), dh 6 [2] (oo 26 (.call (ff 118) [tt 25])), dl 7 (oo 27 (.bld [.slice none 0 0, .slice none 0 0] [(0, 1, (tt 23)), (1, 1, (tt 26))])), dh 8 [5, 2] (oo 28 (.bs 2 [tt 27])), dh 9 [5, 2] (oo 29 (.ap 2 48 [.slice none 0 0, .slice none 0 0] (tt 20) (tt 28))), dl 10 (oo 4 (.mv (tt 29)))]
abbrev c_impl_ReduceTables_8 : List GOp := [oo 30 (.bin .add (tt 16) (ci 1)), oo 16 (.mv (tt 30))]
abbrev c_impl_ReduceTables_l0 : GCode := .seq (.reg c_impl_ReduceTables_5) (.seq (.cond (tt 17) (.skip) (.exit 0)) (.seq (.blk 1 (.seq (.reg c_impl_ReduceTables_6) (.dreg c_impl_ReduceTables_7))) (.reg c_impl_ReduceTables_8)))
abbrev c_impl_ReduceTables_10 : List GOp := [oo 7 (.mv (cb  true))]
abbrev c_impl_ReduceTables_11 : List GOp := [oo 31 (.mv (tt 7))]
abbrev c_impl_ReduceTables_12 : List GOp := [oo 7 (.mv (cb  false))]
abbrev c_impl_ReduceTables_13 : List GOp := [oo 32 (.mv (tt 4)), oo 33 (.len (tt 32)), oo 34 (.mv (ci 0))]
abbrev c_impl_ReduceTables_14 : List GOp := [oo 35 (.bin .lss (tt 34) (tt 33))]
abbrev c_impl_ReduceTables_15 : List GOp := [oo 36 (.mv (tt 34)), oo 8 (.mv (tt 36))]
abbrev c_impl_ReduceTables_16 : List GOp := [oo 37 (.mv (tt 4)), oo 38 (.len (tt 37)), oo 39 (.mv (ci 0))]
abbrev c_impl_ReduceTables_17 : List GOp := [oo 40 (.bin .lss (tt 39) (tt 38))]
abbrev c_impl_ReduceTables_18 : List GOp := [oo 41 (.mv (tt 39)), oo 9 (.mv (tt 41))]
abbrev c_impl_ReduceTables_19 : DT := (.path [dl 0 (oo 42 (.mv (tt 4)))] (.path [dl 1 (oo 43 (.mv (tt 8)))] (.path [dl 2 (oo 44 (.ia 2 (tt 42) (tt 43)))] (.path [dl 3 (oo 45 (.ldn 2 (tt 44)))] (.path [dl 4 (oo 46 (.mv (tt 4)))] (.path [dl 5 (oo 47 (.mv (tt 9)))] (.path [dl 6 (oo 48 (.ia 2 (tt 46) (tt 47)))] (.path [dl 7 (oo 49 (.ldn 2 (tt 48)))] (.both (.path [dh 8 [] (oo 50 (.call (ff 109) [tt 45, tt 49]))] (.path [dh 9 [7, 3] (oo 10 (.al [.slice none 0 0, .slice none 0 0]))] (.path [dh 10 [] (on (.st 2 (tt 10) (tt 50)))] .fin))) (.path [dh 9 [7, 3] (oo 10 (.al [.slice none 0 0, .slice none 0 0]))] (.path [dh 8 [] (oo 50 (.call (ff 109) [tt 45, tt 49]))] (.path [dh 10 [] (on (.st 2 (tt 10) (tt 50)))] .fin))))))))))))
abbrev c_impl_ReduceTables_20 : List DOp := [dl 0 (oo 51 (.fa 1 (tt 10))), dl 1 (oo 52 (.ld (tt 51))), dl 2 (oo 53 (.len (tt 52))), dl 3 (oo 54 (.mv (tt 4))), dl 4 (oo 55 (.mv (tt 8))), dl 5 (oo 56 (.ia 2 (tt 54) (tt 55))), dl 6 (oo 57 (.fa 1 (tt 56))), dl 7 (oo 58 (.ld (tt 57))), dl 8 (oo 59 (.len (tt 58))), dl 9 (oo 60 (.bin .lss (tt 53) (tt 59)))]
abbrev c_impl_ReduceTables_21 : List GOp := [oo 61 (.mv (tt 4)), oo 62 (.mv (tt 8)), oo 63 (.ldn 2 (tt 10)), oo 64 (.ia 2 (tt 61) (tt 62)), on (.st 2 (tt 64) (tt 63))]
abbrev c_impl_ReduceTables_22 : List GOp := [oo 7 (.mv (cb  true))]
abbrev c_impl_ReduceTables_23 : List GOp := [oo 65 (.bin .add (tt 39) (ci 1)), oo 39 (.mv (tt 65))]
abbrev c_impl_ReduceTables_l1 : GCode := .seq (.reg c_impl_ReduceTables_17) (.seq (.cond (tt 40) (.skip) (.exit 6)) (.seq (.blk 7 (.seq (.reg c_impl_ReduceTables_18) (.seq (.dtree c_impl_ReduceTables_19) (.seq (.dreg c_impl_ReduceTables_20) (.cond (tt 60) (.seq (.reg c_impl_ReduceTables_21) (.reg c_impl_ReduceTables_22)) (.skip)))))) (.reg c_impl_ReduceTables_23)))
abbrev c_impl_ReduceTables_25 : List GOp := [oo 66 (.bin .add (tt 34) (ci 1)), oo 34 (.mv (tt 66))]
abbrev c_impl_ReduceTables_l2 : GCode := .seq (.reg c_impl_ReduceTables_14) (.seq (.cond (tt 35) (.skip) (.exit 4)) (.seq (.blk 5 (.seq (.reg c_impl_ReduceTables_15) (.seq (.reg c_impl_ReduceTables_16) (.blk 6 (.loop c_impl_ReduceTables_l1))))) (.reg c_impl_ReduceTables_25)))
abbrev c_impl_ReduceTables_l3 : GCode := .seq (.seq (.reg c_impl_ReduceTables_11) (.cond (tt 31) (.skip) (.exit 2))) (.blk 3 (.seq (.reg c_impl_ReduceTables_12) (.seq (.reg c_impl_ReduceTables_13) (.blk 4 (.loop c_impl_ReduceTables_l2)))))
abbrev c_impl_ReduceTables_28 : List GOp := [oo 67 (.mv (tt 4)), oo 2 (.mv (tt 67)), oo 3 (.mv (ci 0))]
abbrev c_impl_ReduceTables : GCode := .seq (.reg c_impl_ReduceTables_0) (.seq (.seq (.reg c_impl_ReduceTables_1) (.cond (tt 13) (.seq (.reg c_impl_ReduceTables_2) (.ret)) (.skip))) (.seq (.reg c_impl_ReduceTables_3) (.seq (.seq (.reg c_impl_ReduceTables_4) (.blk 0 (.loop c_impl_ReduceTables_l0))) (.seq (.seq (.reg c_impl_ReduceTables_10) (.blk 2 (.loop c_impl_ReduceTables_l3))) (.seq (.reg c_impl_ReduceTables_28) (.ret))))))
theorem c_impl_ReduceTables_d : decFn Tryz.prog Tryz.f51 = some (68, [.t 2, .t 3], c_impl_ReduceTables) := by kernel_rfl
theorem c_impl_ReduceTables_i {args : List Value} {G : GH} {K : Value → GH → Prop} (hn : args.length ≤ 68) (h : gW Tryz.prog c_impl_ReduceTables (RetK [.t 2, .t 3] K) (T0 args) G) : GC Tryz.prog 51 args G K := GC_intro mixed Tryz.func51 c_impl_ReduceTables_d hn h
abbrev c_impl_SameTable_0 : List GOp := [oo 2 (.bx (tt 0)), oo 3 (.bx (tt 1)), oo 4 (.mv (cb  false))]
abbrev c_impl_SameTable_1 : List GOp := [oo 5 (.fa 0 (tt 2)), oo 6 (.ld (tt 5)), oo 7 (.fa 0 (tt 3)), oo 8 (.ld (tt 7)), oo 9 (.call (ff 185) [tt 6, tt 8]), oo 10 (.mv (tt 9)), og 11 10 true (.fa 1 (tt 2)), og 12 10 true (.ld (tt 11)), og 13 10 true (.fa 1 (tt 3)), og 14 10 true (.ld (tt 13)), og 15 10 true (.call (ff 273) [tt 12, tt 14]), oo 16 (.pick (tt 10) (tt 15) (cb  false)), oo 4 (.mv (tt 16))]
abbrev c_impl_SameTable : GCode := .seq (.reg c_impl_SameTable_0) (.seq (.reg c_impl_SameTable_1) (.ret))
theorem c_impl_SameTable_d : decFn Tryz.prog Tryz.f233 = some (17, [.t 4], c_impl_SameTable) := by kernel_rfl
theorem c_impl_SameTable_i {args : List Value} {G : GH} {K : Value → GH → Prop} (hn : args.length ≤ 17) (h : gW Tryz.prog c_impl_SameTable (RetK [.t 4] K) (T0 args) G) : GC Tryz.prog 233 args G K := GC_intro mixed Tryz.func233 c_impl_SameTable_d hn h
abbrev c_impl_SemiJoin_0 : List GOp := [oo 2 (.bx (tt 0)), oo 3 (.bx (tt 1)), oo 4 (.al [.slice none 0 0, .slice none 0 0]), oo 5 (.mv (ci 0))]
abbrev c_impl_SemiJoin_1 : List GOp := [oo 6 (.ldn 2 (tt 2)), oo 7 (.call (ff 103) [tt 6]), oo 8 (.un .not (tt 7)), oo 9 (.mv (tt 8)), og 10 9 false (.ldn 2 (tt 3)), og 11 9 false (.call (ff 103) [tt 10]), og 12 9 false (.un .not (tt 11)), oo 13 (.pick (tt 9) (cb  true) (tt 12))]
abbrev c_impl_SemiJoin_2 : List GOp := [oo 14 (.bld [.slice none 0 0, .slice none 0 0] []), on (.st 2 (tt 4) (tt 14)), oo 5 (.mv (ci 1))]
abbrev c_impl_SemiJoin_3 : List GOp := [oo 15 (.ldn 2 (tt 2)), oo 16 (.ldn 2 (tt 3)), oo 17 (.call (ff 109) [tt 15, tt 16]), on (.st 2 (tt 4) (tt 17)), oo 5 (.mv (ci 0))]
abbrev c_impl_SemiJoin : GCode := .seq (.reg c_impl_SemiJoin_0) (.seq (.seq (.reg c_impl_SemiJoin_1) (.cond (tt 13) (.seq (.reg c_impl_SemiJoin_2) (.ret)) (.skip))) (.seq (.reg c_impl_SemiJoin_3) (.ret)))
theorem c_impl_SemiJoin_d : decFn Tryz.prog Tryz.f46 = some (18, [.cn 4 2, .t 5], c_impl_SemiJoin) := by kernel_rfl
theorem c_impl_SemiJoin_i {args : List Value} {G : GH} {K : Value → GH → Prop} (hn : args.length ≤ 18) (h : gW Tryz.prog c_impl_SemiJoin (RetK [.cn 4 2, .t 5] K) (T0 args) G) : GC Tryz.prog 46 args G K := GC_intro mixed Tryz.func46 c_impl_SemiJoin_d hn h
abbrev c_impl_ValidTable_0 : List GOp := [oo 1 (.bx (tt 0)), oo 2 (.mv (cb  false))]
abbrev c_impl_ValidTable_1 : List GOp := [oo 5 (.fa 0 (tt 1)), oo 6 (.ld (tt 5)), oo 7 (.call (ff 110) [tt 6]), oo 8 (.un .not (tt 7)), oo 9 (.mv (tt 8)), og 10 9 false (.fa 0 (tt 1)), og 11 9 false (.ld (tt 10)), og 12 9 false (.call (ff 156) [tt 11, (ci 8)]), og 13 9 false (.un .not (tt 12)), oo 14 (.pick (tt 9) (cb  true) (tt 13)), oo 15 (.mv (tt 14)), og 16 15 false (.fa 1 (tt 1)), og 17 15 false (.ld (tt 16)), og 18 15 false (.len (tt 17)), og 19 15 false (.bin .gtr (tt 18) (ci 24)), oo 20 (.pick (tt 15) (cb  true) (tt 19))]
abbrev c_impl_ValidTable_2 : List GOp := [oo 2 (.mv (cb  false))]
abbrev c_impl_ValidTable_3 : List GOp := [oo 21 (.fa 1 (tt 1)), oo 22 (.ld (tt 21)), oo 23 (.len (tt 22)), oo 24 (.mv (ci 0))]
abbrev c_impl_ValidTable_4 : List GOp := [oo 25 (.bin .lss (tt 24) (tt 23))]
abbrev c_impl_ValidTable_5 : List GOp := [oo 26 (.mv (tt 24)), oo 27 (.ia 1 (tt 22) (tt 24)), oo 28 (.ld (tt 27)), oo 3 (.mv (tt 26)), oo 4 (.mv (tt 28))]
abbrev c_impl_ValidTable_6 : List GOp := [oo 29 (.mv (tt 4)), oo 30 (.len (tt 29)), oo 31 (.fa 0 (tt 1)), oo 32 (.ld (tt 31)), oo 33 (.len (tt 32)), oo 34 (.bin .neq (tt 30) (tt 33)), oo 35 (.mv (tt 34)), og 36 35 false (.mv (tt 4)), og 37 35 false (.call (ff 156) [tt 36, (ci 4)]), og 38 35 false (.un .not (tt 37)), oo 39 (.pick (tt 35) (cb  true) (tt 38)), oo 40 (.mv (tt 39)), og 41 40 false (.mv (tt 3)), og 42 40 false (.bin .gtr (tt 41) (ci 0)), og 43 40 false (.mv (tt 42)), og 44 43 true (.fa 1 (tt 1)), og 45 43 true (.ld (tt 44)), og 46 43 true (.mv (tt 3)), og 47 43 true (.bin .sub (tt 46) (ci 1)), og 48 43 true (.ia 1 (tt 45) (tt 47)), og 49 43 true (.ld (tt 48)), og 50 43 true (.mv (tt 4)), og 51 43 true (.call (ff 180) [tt 49, tt 50]), og 52 43 true (.bin .geq (tt 51) (ci 0)), og 53 40 false (.pick (tt 43) (tt 52) (cb  false)), oo 54 (.pick (tt 40) (cb  true) (tt 53))]
abbrev c_impl_ValidTable_7 : List GOp := [oo 2 (.mv (cb  false))]
abbrev c_impl_ValidTable_8 : List GOp := [oo 55 (.bin .add (tt 24) (ci 1)), oo 24 (.mv (tt 55))]
abbrev c_impl_ValidTable_l0 : GCode := .seq (.reg c_impl_ValidTable_4) (.seq (.cond (tt 25) (.skip) (.exit 0)) (.seq (.blk 1 (.seq (.reg c_impl_ValidTable_5) (.seq (.reg c_impl_ValidTable_6) (.cond (tt 54) (.seq (.reg c_impl_ValidTable_7) (.ret)) (.skip))))) (.reg c_impl_ValidTable_8)))
abbrev c_impl_ValidTable_10 : List GOp := [oo 2 (.mv (cb  true))]
abbrev c_impl_ValidTable : GCode := .seq (.reg c_impl_ValidTable_0) (.seq (.seq (.reg c_impl_ValidTable_1) (.cond (tt 20) (.seq (.reg c_impl_ValidTable_2) (.ret)) (.skip))) (.seq (.seq (.reg c_impl_ValidTable_3) (.blk 0 (.loop c_impl_ValidTable_l0))) (.seq (.reg c_impl_ValidTable_10) (.ret))))
theorem c_impl_ValidTable_d : decFn Tryz.prog Tryz.f103 = some (56, [.t 2], c_impl_ValidTable) := by kernel_rfl
theorem c_impl_ValidTable_i {args : List Value} {G : GH} {K : Value → GH → Prop} (hn : args.length ≤ 56) (h : gW Tryz.prog c_impl_ValidTable (RetK [.t 2] K) (T0 args) G) : GC Tryz.prog 103 args G K := GC_intro mixed Tryz.func103 c_impl_ValidTable_d hn h
abbrev c_impl_ValidTables_0 : List GOp := [oo 2 (.mv (cb  false))]
abbrev c_impl_ValidTables_1 : List GOp := [oo 3 (.mv (tt 0)), oo 4 (.len (tt 3)), oo 5 (.bin .leq (tt 4) (ci 6)), oo 6 (.mv (tt 5)), og 7 6 true (.mv (tt 0)), og 8 6 true (.call (ff 195) [tt 7, (ff 196)]), og 9 6 true (.un .not (tt 8)), oo 10 (.pick (tt 6) (tt 9) (cb  false)), oo 2 (.mv (tt 10))]
abbrev c_impl_ValidTables : GCode := .seq (.reg c_impl_ValidTables_0) (.seq (.reg c_impl_ValidTables_1) (.ret))
theorem c_impl_ValidTables_d : decFn Tryz.prog Tryz.f116 = some (11, [.t 2], c_impl_ValidTables) := by kernel_rfl
theorem c_impl_ValidTables_i {args : List Value} {G : GH} {K : Value → GH → Prop} (hn : args.length ≤ 11) (h : gW Tryz.prog c_impl_ValidTables (RetK [.t 2] K) (T0 args) G) : GC Tryz.prog 116 args G K := GC_intro mixed Tryz.func116 c_impl_ValidTables_d hn h
abbrev c_impl_ValidTables_fn1_0 : List GOp := [oo 1 (.bx (tt 0)), oo 2 (.mv (cb  false))]
abbrev c_impl_ValidTables_fn1_1 : List GOp := [oo 3 (.ldn 2 (tt 1)), oo 4 (.call (ff 103) [tt 3]), oo 5 (.un .not (tt 4)), oo 2 (.mv (tt 5))]
abbrev c_impl_ValidTables_fn1 : GCode := .seq (.reg c_impl_ValidTables_fn1_0) (.seq (.reg c_impl_ValidTables_fn1_1) (.ret))
theorem c_impl_ValidTables_fn1_d : decFn Tryz.prog Tryz.f196 = some (6, [.t 2], c_impl_ValidTables_fn1) := by kernel_rfl
theorem c_impl_ValidTables_fn1_i {args : List Value} {G : GH} {K : Value → GH → Prop} (hn : args.length ≤ 6) (h : gW Tryz.prog c_impl_ValidTables_fn1 (RetK [.t 2] K) (T0 args) G) : GC Tryz.prog 196 args G K := GC_intro mixed Tryz.func196 c_impl_ValidTables_fn1_d hn h
abbrev c_impl_agree_0 : List GOp := [oo 2 (.bx (tt 0)), oo 3 (.bx (tt 1)), oo 4 (.mv (cb  false))]
abbrev c_impl_agree_1 : List GOp := [oo 6 (.ldn 2 (tt 2)), oo 7 (.ldn 2 (tt 3)), oo 8 (.call (ff 184) [tt 6, tt 7]), oo 5 (.mv (tt 8))]
abbrev c_impl_agree_2 : List DOp := [dl 0 (oo 9 (.ldn 2 (tt 2))), dl 1 (oo 10 (.mv (tt 5))), dl 3 (oo 12 (.ldn 2 (tt 3))), dl 4 (oo 13 (.mv (tt 5))), dh 2 [3] (oo 11 (.call (ff 112) [tt 9, tt 10])), dh 5 [0] (oo 14 (.call (ff 112) [tt 12, tt 13])), dh 6 [3, 0] (oo 15 (.call (ff 233) [tt 11, tt 14])), dl 7 (oo 4 (.mv (tt 15)))]
abbrev c_impl_agree : GCode := .seq (.reg c_impl_agree_0) (.seq (.reg c_impl_agree_1) (.seq (.dreg c_impl_agree_2) (.ret)))
theorem c_impl_agree_d : decFn Tryz.prog Tryz.f197 = some (16, [.t 4], c_impl_agree) := by kernel_rfl
theorem c_impl_agree_i {args : List Value} {G : GH} {K : Value → GH → Prop} (hn : args.length ≤ 16) (h : gW Tryz.prog c_impl_agree (RetK [.t 4] K) (T0 args) G) : GC Tryz.prog 197 args G K := GC_intro mixed Tryz.func197 c_impl_agree_d hn h
abbrev c_impl_allColumns_0 : List GOp := [oo 2 (.mv (.const (.slice none 0 0)))]
abbrev c_impl_allColumns_1 : List GOp := [oo 3 (.mv (.const (.slice none 0 0)))]
abbrev c_impl_allColumns_2 : List GOp := [oo 6 (.mv (tt 0)), oo 7 (.len (tt 6)), oo 8 (.mv (ci 0))]
abbrev c_impl_allColumns_3 : List GOp := [oo 9 (.bin .lss (tt 8) (tt 7))]
abbrev c_impl_allColumns_4 : List GOp := [oo 10 (.ia 2 (tt 6) (tt 8)), oo 11 (.ldn 2 (tt 10)), oo 5 (.al [.slice none 0 0, .slice none 0 0]), on (.st 2 (tt 5) (tt 11))]
abbrev c_impl_allColumns_5 : List GOp := [oo 12 (.mv (tt 3)), oo 13 (.fa 0 (tt 5)), oo 14 (.ld (tt 13)), oo 15 (.ap 1 8 [.int .i64 0] (tt 12) (tt 14)), oo 3 (.mv (tt 15))]
abbrev c_impl_allColumns_6 : List GOp := [oo 16 (.bin .add (tt 8) (ci 1)), oo 8 (.mv (tt 16))]
abbrev c_impl_allColumns_l0 : GCode := .seq (.reg c_impl_allColumns_3) (.seq (.cond (tt 9) (.skip) (.exit 0)) (.seq (.blk 1 (.seq (.reg c_impl_allColumns_4) (.reg c_impl_allColumns_5))) (.reg c_impl_allColumns_6)))
abbrev c_impl_allColumns_8 : List GOp := [oo 17 (.mv (tt 3)), oo 18 (.call (ff 181) [tt 17])]
abbrev c_impl_allColumns_9 : List GOp := [oo 19 (.mv (tt 3)), oo 20 (.call (ff 182) [tt 19]), oo 2 (.mv (tt 20))]
abbrev c_impl_allColumns : GCode := .seq (.reg c_impl_allColumns_0) (.seq (.reg c_impl_allColumns_1) (.seq (.seq (.reg c_impl_allColumns_2) (.blk 0 (.loop c_impl_allColumns_l0))) (.seq (.reg c_impl_allColumns_8) (.seq (.reg c_impl_allColumns_9) (.ret)))))
theorem c_impl_allColumns_d : decFn Tryz.prog Tryz.f104 = some (21, [.t 2], c_impl_allColumns) := by kernel_rfl
theorem c_impl_allColumns_i {args : List Value} {G : GH} {K : Value → GH → Prop} (hn : args.length ≤ 21) (h : gW Tryz.prog c_impl_allColumns (RetK [.t 2] K) (T0 args) G) : GC Tryz.prog 104 args G K := GC_intro mixed Tryz.func104 c_impl_allColumns_d hn h
abbrev c_impl_areElements_0 : List GOp := [oo 3 (.bx (tt 1)), oo 4 (.mv (cb  false))]
abbrev c_impl_areElements_1 : List GOp := [oo 5 (.mv (tt 0)), oo 6 (.mf (.func 220) [] [tt 3]), oo 7 (.call (ff 86) [tt 5, tt 6]), oo 8 (.un .not (tt 7)), oo 4 (.mv (tt 8))]
abbrev c_impl_areElements : GCode := .seq (.reg c_impl_areElements_0) (.seq (.reg c_impl_areElements_1) (.ret))
theorem c_impl_areElements_d : decFn Tryz.prog Tryz.f156 = some (9, [.t 4], c_impl_areElements) := by kernel_rfl
theorem c_impl_areElements_i {args : List Value} {G : GH} {K : Value → GH → Prop} (hn : args.length ≤ 9) (h : gW Tryz.prog c_impl_areElements (RetK [.t 4] K) (T0 args) G) : GC Tryz.prog 156 args G K := GC_intro mixed Tryz.func156 c_impl_areElements_d hn h
abbrev c_impl_areElements_fn1_0 : List GOp := [oo 3 (.mv (cb  false))]
abbrev c_impl_areElements_fn1_1 : List GOp := [oo 4 (.mv (tt 0)), oo 5 (.ld (tt 1)), oo 6 (.call (ff 221) [tt 4, tt 5]), oo 7 (.un .not (tt 6)), oo 3 (.mv (tt 7))]
abbrev c_impl_areElements_fn1 : GCode := .seq (.reg c_impl_areElements_fn1_0) (.seq (.reg c_impl_areElements_fn1_1) (.ret))
theorem c_impl_areElements_fn1_d : decFn Tryz.prog Tryz.f220 = some (8, [.t 3], c_impl_areElements_fn1) := by kernel_rfl
theorem c_impl_areElements_fn1_i {args : List Value} {G : GH} {K : Value → GH → Prop} (hn : args.length ≤ 8) (h : gW Tryz.prog c_impl_areElements_fn1 (RetK [.t 3] K) (T0 args) G) : GC Tryz.prog 220 args G K := GC_intro mixed Tryz.func220 c_impl_areElements_fn1_d hn h
abbrev c_impl_areSame_0 : List GOp := [oo 4 (.mv (cb  false))]
abbrev c_impl_areSame_1 : List GOp := [oo 5 (.mv (tt 0)), oo 6 (.mv (tt 1)), oo 7 (.call (ff 294) [tt 5, tt 6, (ff 185)]), oo 4 (.mv (tt 7))]
abbrev c_impl_areSame : GCode := .seq (.reg c_impl_areSame_0) (.seq (.reg c_impl_areSame_1) (.ret))
theorem c_impl_areSame_d : decFn Tryz.prog Tryz.f273 = some (8, [.t 4], c_impl_areSame) := by kernel_rfl
theorem c_impl_areSame_i {args : List Value} {G : GH} {K : Value → GH → Prop} (hn : args.length ≤ 8) (h : gW Tryz.prog c_impl_areSame (RetK [.t 4] K) (T0 args) G) : GC Tryz.prog 273 args G K := GC_intro mixed Tryz.func273 c_impl_areSame_d hn h
abbrev c_impl_commonColumns_0 : List GOp := [oo 2 (.bx (tt 0)), oo 3 (.bx (tt 1)), oo 4 (.mv (.const (.slice none 0 0)))]
abbrev c_impl_commonColumns_1 : List DOp := [dl 0 (oo 5 (.fa 0 (tt 2))), dl 1 (oo 6 (.ld (tt 5))), dl 2 (oo 7 (.fa 0 (tt 2))), dl 3 (oo 8 (.ld (tt 7))), dl 4 (oo 9 (.fa 0 (tt 3))), dl 5 (oo 10 (.ld (tt 9))), dh 6 [1] (oo 11 (.call (ff 97) [tt 8, tt 10])), dh 7 [5, 3] (oo 12 (.call (ff 97) [tt 6, tt 11])), dl 8 (oo 4 (.mv (tt 12)))]
abbrev c_impl_commonColumns : GCode := .seq (.reg c_impl_commonColumns_0) (.seq (.dreg c_impl_commonColumns_1) (.ret))
theorem c_impl_commonColumns_d : decFn Tryz.prog Tryz.f184 = some (13, [.t 4], c_impl_commonColumns) := by kernel_rfl
theorem c_impl_commonColumns_i {args : List Value} {G : GH} {K : Value → GH → Prop} (hn : args.length ≤ 13) (h : gW Tryz.prog c_impl_commonColumns (RetK [.t 4] K) (T0 args) G) : GC Tryz.prog 184 args G K := GC_intro mixed Tryz.func184 c_impl_commonColumns_d hn h
abbrev c_impl_copyLists_0 : List GOp := [oo 2 (.mv (.const (.slice none 0 0)))]
abbrev c_impl_copyLists_1 : List GOp := [oo 3 (.mv (.const (.slice none 0 0)))]
abbrev c_impl_copyLists_2 : List GOp := [oo 6 (.mv (tt 0)), oo 7 (.len (tt 6)), oo 8 (.mv (ci 0))]
abbrev c_impl_copyLists_3 : List GOp := [oo 9 (.bin .lss (tt 8) (tt 7))]
abbrev c_impl_copyLists_4 : List GOp := [oo 10 (.ia 1 (tt 6) (tt 8)), oo 11 (.ld (tt 10)), oo 5 (.mv (tt 11))]
abbrev c_impl_copyLists_5 : List GOp := [oo 12 (.mv (tt 3)), oo 13 (.mv (tt 5)), oo 14 (.call (ff 117) [tt 13]), oo 15 (.bs 1 [tt 14]), oo 16 (.ap 1 24 [.slice none 0 0] (tt 12) (tt 15)), oo 3 (.mv (tt 16))]
abbrev c_impl_copyLists_6 : List GOp := [oo 17 (.bin .add (tt 8) (ci 1)), oo 8 (.mv (tt 17))]
abbrev c_impl_copyLists_l0 : GCode := .seq (.reg c_impl_copyLists_3) (.seq (.cond (tt 9) (.skip) (.exit 0)) (.seq (.blk 1 (.seq (.reg c_impl_copyLists_4) (.reg c_impl_copyLists_5))) (.reg c_impl_copyLists_6)))
abbrev c_impl_copyLists_8 : List GOp := [oo 18 (.mv (tt 3)), oo 2 (.mv (tt 18))]
abbrev c_impl_copyLists : GCode := .seq (.reg c_impl_copyLists_0) (.seq (.reg c_impl_copyLists_1) (.seq (.seq (.reg c_impl_copyLists_2) (.blk 0 (.loop c_impl_copyLists_l0))) (.seq (.reg c_impl_copyLists_8) (.ret))))
theorem c_impl_copyLists_d : decFn Tryz.prog Tryz.f118 = some (19, [.t 2], c_impl_copyLists) := by kernel_rfl
theorem c_impl_copyLists_i {args : List Value} {G : GH} {K : Value → GH → Prop} (hn : args.length ≤ 19) (h : gW Tryz.prog c_impl_copyLists (RetK [.t 2] K) (T0 args) G) : GC Tryz.prog 118 args G K := GC_intro mixed Tryz.func118 c_impl_copyLists_d hn h
abbrev c_impl_disagreement_0 : List GOp := [oo 2 (.mv (ci 0)), oo 3 (.mv (ci 0)), oo 4 (.mv (cb  false))]
abbrev c_impl_disagreement_1 : List GOp := [oo 8 (.mv (tt 0)), oo 9 (.len (tt 8)), oo 10 (.mv (ci 0))]
abbrev c_impl_disagreement_2 : List GOp := [oo 11 (.bin .lss (tt 10) (tt 9))]
abbrev c_impl_disagreement_3 : List GOp := [oo 12 (.mv (tt 10)), oo 13 (.ia 2 (tt 8) (tt 10)), oo 14 (.ldn 2 (tt 13)), oo 6 (.al [.slice none 0 0, .slice none 0 0]), oo 5 (.mv (tt 12)), on (.st 2 (tt 6) (tt 14))]
abbrev c_impl_disagreement_4 : List GOp := [oo 15 (.mv (tt 5)), oo 16 (.bin .add (tt 15) (ci 1)), oo 7 (.mv (tt 16))]
abbrev c_impl_disagreement_5 : List GOp := [oo 17 (.mv (tt 7)), oo 18 (.mv (tt 0)), oo 19 (.len (tt 18)), oo 20 (.bin .lss (tt 17) (tt 19))]
abbrev c_impl_disagreement_6 : List DOp := [dl 0 (oo 23 (.ldn 2 (tt 6))), dl 1 (oo 24 (.mv (tt 0))), dl 2 (oo 25 (.mv (tt 7))), dl 3 (oo 26 (.ia 2 (tt 24) (tt 25))), dl 4 (oo 27 (.ldn 2 (tt 26))), dh 5 [] (oo 28 (.call (ff 197) [tt 23, tt 27])), dl 6 (oo 29 (.un .not (tt 28)))]
abbrev c_impl_disagreement_7 : List GOp := [oo 30 (.mv (tt 5)), oo 31 (.mv (tt 7)), oo 2 (.mv (tt 30)), oo 3 (.mv (tt 31)), oo 4 (.mv (cb  true))]
abbrev c_impl_disagreement_8 : List GOp := [oo 21 (.mv (tt 7)), oo 22 (.bin .add (tt 21) (ci 1)), oo 7 (.mv (tt 22))]
abbrev c_impl_disagreement_l0 : GCode := .seq (.seq (.reg c_impl_disagreement_5) (.cond (tt 20) (.skip) (.exit 2))) (.seq (.blk 3 (.seq (.dreg c_impl_disagreement_6) (.cond (tt 29) (.seq (.reg c_impl_disagreement_7) (.ret)) (.skip)))) (.reg c_impl_disagreement_8))
abbrev c_impl_disagreement_10 : List GOp := [oo 32 (.bin .add (tt 10) (ci 1)), oo 10 (.mv (tt 32))]
abbrev c_impl_disagreement_l1 : GCode := .seq (.reg c_impl_disagreement_2) (.seq (.cond (tt 11) (.skip) (.exit 0)) (.seq (.blk 1 (.seq (.reg c_impl_disagreement_3) (.seq (.reg c_impl_disagreement_4) (.blk 2 (.loop c_impl_disagreement_l0))))) (.reg c_impl_disagreement_10)))
abbrev c_impl_disagreement_12 : List GOp := [oo 2 (.mv (ci 0)), oo 3 (.mv (ci 0)), oo 4 (.mv (cb  false))]
abbrev c_impl_disagreement : GCode := .seq (.reg c_impl_disagreement_0) (.seq (.seq (.reg c_impl_disagreement_1) (.blk 0 (.loop c_impl_disagreement_l1))) (.seq (.reg c_impl_disagreement_12) (.ret)))
theorem c_impl_disagreement_d : decFn Tryz.prog Tryz.f120 = some (33, [.t 2, .t 3, .t 4], c_impl_disagreement) := by kernel_rfl
theorem c_impl_disagreement_i {args : List Value} {G : GH} {K : Value → GH → Prop} (hn : args.length ≤ 33) (h : gW Tryz.prog c_impl_disagreement (RetK [.t 2, .t 3, .t 4] K) (T0 args) G) : GC Tryz.prog 120 args G K := GC_intro mixed Tryz.func120 c_impl_disagreement_d hn h
abbrev c_impl_fit_0 : List GOp := [oo 4 (.bx (tt 0)), oo 5 (.bx (tt 1)), oo 8 (.mv (cb  false))]
abbrev c_impl_fit_1 : List GOp := [oo 10 (.ldn 2 (tt 4)), oo 11 (.ldn 2 (tt 5)), oo 12 (.call (ff 184) [tt 10, tt 11]), oo 9 (.mv (tt 12))]
abbrev c_impl_fit_2 : List DOp := [dl 0 (oo 13 (.fa 0 (tt 4))), dl 1 (oo 14 (.ld (tt 13))), dl 2 (oo 15 (.mv (tt 2))), dl 3 (oo 16 (.mv (tt 9))), dl 5 (oo 18 (.fa 0 (tt 5))), dl 6 (oo 19 (.ld (tt 18))), dl 7 (oo 20 (.mv (tt 3))), dl 8 (oo 21 (.mv (tt 9))), dh 4 [6] (oo 17 (.call (ff 107) [tt 14, tt 15, tt 16])), dh 9 [1] (oo 22 (.call (ff 107) [tt 19, tt 20, tt 21])), dh 10 [6, 1] (oo 23 (.call (ff 185) [tt 17, tt 22])), dl 11 (oo 8 (.mv (tt 23)))]
abbrev c_impl_fit : GCode := .seq (.reg c_impl_fit_0) (.seq (.reg c_impl_fit_1) (.seq (.dreg c_impl_fit_2) (.ret)))
theorem c_impl_fit_d : decFn Tryz.prog Tryz.f106 = some (24, [.t 8], c_impl_fit) := by kernel_rfl
theorem c_impl_fit_i {args : List Value} {G : GH} {K : Value → GH → Prop} (hn : args.length ≤ 24) (h : gW Tryz.prog c_impl_fit (RetK [.t 8] K) (T0 args) G) : GC Tryz.prog 106 args G K := GC_intro mixed Tryz.func106 c_impl_fit_d hn h
abbrev c_impl_hasColumns_0 : List GOp := [oo 2 (.bx (tt 0)), oo 4 (.mv (cb  false))]
abbrev c_impl_hasColumns_1 : List GOp := [oo 5 (.mv (tt 1)), oo 6 (.mf (.func 190) [] [tt 2]), oo 7 (.call (ff 86) [tt 5, tt 6]), oo 8 (.un .not (tt 7)), oo 4 (.mv (tt 8))]
abbrev c_impl_hasColumns : GCode := .seq (.reg c_impl_hasColumns_0) (.seq (.reg c_impl_hasColumns_1) (.ret))
theorem c_impl_hasColumns_d : decFn Tryz.prog Tryz.f111 = some (9, [.t 4], c_impl_hasColumns) := by kernel_rfl
theorem c_impl_hasColumns_i {args : List Value} {G : GH} {K : Value → GH → Prop} (hn : args.length ≤ 9) (h : gW Tryz.prog c_impl_hasColumns (RetK [.t 4] K) (T0 args) G) : GC Tryz.prog 111 args G K := GC_intro mixed Tryz.func111 c_impl_hasColumns_d hn h
abbrev c_impl_hasColumns_fn1_0 : List GOp := [oo 3 (.mv (cb  false))]
abbrev c_impl_hasColumns_fn1_1 : List GOp := [oo 4 (.fa 0 (tt 1)), oo 5 (.ld (tt 4)), oo 6 (.mv (tt 0)), oo 7 (.call (ff 170) [tt 5, tt 6]), oo 8 (.un .not (tt 7)), oo 3 (.mv (tt 8))]
abbrev c_impl_hasColumns_fn1 : GCode := .seq (.reg c_impl_hasColumns_fn1_0) (.seq (.reg c_impl_hasColumns_fn1_1) (.ret))
theorem c_impl_hasColumns_fn1_d : decFn Tryz.prog Tryz.f190 = some (9, [.t 3], c_impl_hasColumns_fn1) := by kernel_rfl
theorem c_impl_hasColumns_fn1_i {args : List Value} {G : GH} {K : Value → GH → Prop} (hn : args.length ≤ 9) (h : gW Tryz.prog c_impl_hasColumns_fn1 (RetK [.t 3] K) (T0 args) G) : GC Tryz.prog 190 args G K := GC_intro mixed Tryz.func190 c_impl_hasColumns_fn1_d hn h
abbrev c_impl_isElement_0 : List GOp := [oo 4 (.mv (cb  false))]
abbrev c_impl_isElement_1 : List GOp := [oo 5 (.mv (tt 0)), oo 6 (.mv (tt 1)), oo 7 (.bin .sub (tt 6) (ci 1)), oo 8 (.call (ff 207) [tt 5, (ci 0), tt 7]), oo 4 (.mv (tt 8))]
abbrev c_impl_isElement : GCode := .seq (.reg c_impl_isElement_0) (.seq (.reg c_impl_isElement_1) (.ret))
theorem c_impl_isElement_d : decFn Tryz.prog Tryz.f221 = some (9, [.t 4], c_impl_isElement) := by kernel_rfl
theorem c_impl_isElement_i {args : List Value} {G : GH} {K : Value → GH → Prop} (hn : args.length ≤ 9) (h : gW Tryz.prog c_impl_isElement (RetK [.t 4] K) (T0 args) G) : GC Tryz.prog 221 args G K := GC_intro mixed Tryz.func221 c_impl_isElement_d hn h
abbrev c_impl_isRising_0 : List GOp := [oo 2 (.mv (cb  false))]
abbrev c_impl_isRising_1 : List GOp := [oo 3 (.mv (ci 1))]
abbrev c_impl_isRising_2 : List GOp := [oo 4 (.mv (tt 3)), oo 5 (.mv (tt 0)), oo 6 (.len (tt 5)), oo 7 (.bin .lss (tt 4) (tt 6))]
abbrev c_impl_isRising_3 : List DOp := [dl 0 (oo 10 (.mv (tt 0))), dl 1 (oo 11 (.mv (tt 3))), dl 2 (oo 12 (.bin .sub (tt 11) (ci 1))), dl 3 (oo 13 (.ia 1 (tt 10) (tt 12))), dl 4 (oo 14 (.ld (tt 13))), dl 5 (oo 15 (.mv (tt 0))), dl 6 (oo 16 (.mv (tt 3))), dl 7 (oo 17 (.ia 1 (tt 15) (tt 16))), dl 8 (oo 18 (.ld (tt 17))), dl 9 (oo 19 (.bin .geq (tt 14) (tt 18)))]
abbrev c_impl_isRising_4 : List GOp := [oo 2 (.mv (cb  false))]
abbrev c_impl_isRising_5 : List GOp := [oo 8 (.mv (tt 3)), oo 9 (.bin .add (tt 8) (ci 1)), oo 3 (.mv (tt 9))]
abbrev c_impl_isRising_l0 : GCode := .seq (.seq (.reg c_impl_isRising_2) (.cond (tt 7) (.skip) (.exit 0))) (.seq (.blk 1 (.seq (.dreg c_impl_isRising_3) (.cond (tt 19) (.seq (.reg c_impl_isRising_4) (.ret)) (.skip)))) (.reg c_impl_isRising_5))
abbrev c_impl_isRising_7 : List GOp := [oo 2 (.mv (cb  true))]
abbrev c_impl_isRising : GCode := .seq (.reg c_impl_isRising_0) (.seq (.seq (.reg c_impl_isRising_1) (.blk 0 (.loop c_impl_isRising_l0))) (.seq (.reg c_impl_isRising_7) (.ret)))
theorem c_impl_isRising_d : decFn Tryz.prog Tryz.f110 = some (20, [.t 2], c_impl_isRising) := by kernel_rfl
theorem c_impl_isRising_i {args : List Value} {G : GH} {K : Value → GH → Prop} (hn : args.length ≤ 20) (h : gW Tryz.prog c_impl_isRising (RetK [.t 2] K) (T0 args) G) : GC Tryz.prog 110 args G K := GC_intro mixed Tryz.func110 c_impl_isRising_d hn h
abbrev c_impl_project_0 : List GOp := [oo 6 (.mv (.const (.slice none 0 0)))]
abbrev c_impl_project_1 : List GOp := [oo 7 (.mv (.const (.slice none 0 0)))]
abbrev c_impl_project_2 : List GOp := [oo 10 (.mv (tt 2)), oo 11 (.len (tt 10)), oo 12 (.mv (ci 0))]
abbrev c_impl_project_3 : List GOp := [oo 13 (.bin .lss (tt 12) (tt 11))]
abbrev c_impl_project_4 : List GOp := [oo 14 (.ia 1 (tt 10) (tt 12)), oo 15 (.ld (tt 14)), oo 9 (.mv (tt 15))]
abbrev c_impl_project_5 : List GOp := [oo 16 (.mv (tt 7)), oo 17 (.mv (tt 1)), oo 18 (.mv (tt 0)), oo 19 (.mv (tt 9)), oo 20 (.call (ff 96) [tt 18, tt 19]), oo 21 (.ia 1 (tt 17) (tt 20)), oo 22 (.ld (tt 21)), oo 23 (.bs 1 [tt 22]), oo 24 (.ap 1 8 [.int .i64 0] (tt 16) (tt 23)), oo 7 (.mv (tt 24))]
abbrev c_impl_project_6 : List GOp := [oo 25 (.bin .add (tt 12) (ci 1)), oo 12 (.mv (tt 25))]
abbrev c_impl_project_l0 : GCode := .seq (.reg c_impl_project_3) (.seq (.cond (tt 13) (.skip) (.exit 0)) (.seq (.blk 1 (.seq (.reg c_impl_project_4) (.reg c_impl_project_5))) (.reg c_impl_project_6)))
abbrev c_impl_project_8 : List GOp := [oo 26 (.mv (tt 7)), oo 6 (.mv (tt 26))]
abbrev c_impl_project : GCode := .seq (.reg c_impl_project_0) (.seq (.reg c_impl_project_1) (.seq (.seq (.reg c_impl_project_2) (.blk 0 (.loop c_impl_project_l0))) (.seq (.reg c_impl_project_8) (.ret))))
theorem c_impl_project_d : decFn Tryz.prog Tryz.f107 = some (27, [.t 6], c_impl_project) := by kernel_rfl
theorem c_impl_project_i {args : List Value} {G : GH} {K : Value → GH → Prop} (hn : args.length ≤ 27) (h : gW Tryz.prog c_impl_project (RetK [.t 6] K) (T0 args) G) : GC Tryz.prog 107 args G K := GC_intro mixed Tryz.func107 c_impl_project_d hn h
abbrev c_impl_projected_0 : List GOp := [oo 2 (.bx (tt 0)), oo 4 (.al [.slice none 0 0, .slice none 0 0])]
abbrev c_impl_projected_1 : List GOp := [oo 8 (.mv (tt 1)), oo 9 (.call (ff 117) [tt 8]), oo 10 (.bld [.slice none 0 0, .slice none 0 0] [(0, 1, (tt 9))]), oo 5 (.al [.slice none 0 0, .slice none 0 0]), on (.st 2 (tt 5) (tt 10))]
abbrev c_impl_projected_2 : List GOp := [oo 11 (.fa 1 (tt 2)), oo 12 (.ld (tt 11)), oo 13 (.len (tt 12)), oo 14 (.mv (ci 0))]
abbrev c_impl_projected_3 : List GOp := [oo 15 (.bin .lss (tt 14) (tt 13))]
abbrev c_impl_projected_4 : List GOp := [oo 16 (.ia 1 (tt 12) (tt 14)), oo 17 (.ld (tt 16)), oo 7 (.mv (tt 17))]
abbrev c_impl_projected_5 : List DOp := [dl 0 (oo 18 (.fa 1 (tt 5))), dl 1 (oo 19 (.ld (tt 18))), dl 2 (oo 20 (.fa 0 (tt 2))), dl 3 (oo 21 (.ld (tt 20))), dl 4 (oo 22 (.mv (tt 7))), dl 5 (oo 23 (.mv (tt 1))), dh 6 [1] (oo 24 (.call (ff 107) [tt 21, tt 22, tt 23])), dh 7 [3, 1] (oo 25 (.bs 1 [tt 24])), dh 8 [3] (oo 26 (.ap 1 24 [.slice none 0 0] (tt 19) (tt 25))), dl 9 (oo 27 (.fa 1 (tt 5))), dh 10 [] (on (.st 1 (tt 27) (tt 26)))]
abbrev c_impl_projected_6 : List GOp := [oo 28 (.bin .add (tt 14) (ci 1)), oo 14 (.mv (tt 28))]
abbrev c_impl_projected_l0 : GCode := .seq (.reg c_impl_projected_3) (.seq (.cond (tt 15) (.skip) (.exit 0)) (.seq (.blk 1 (.seq (.reg c_impl_projected_4) (.dreg c_impl_projected_5))) (.reg c_impl_projected_6)))
abbrev c_impl_projected_8 : List GOp := [oo 29 (.fa 1 (tt 5)), oo 30 (.ld (tt 29)), oo 31 (.call (ff 108) [tt 30]), oo 32 (.fa 1 (tt 5)), on (.st 1 (tt 32) (tt 31))]
abbrev c_impl_projected_9 : List GOp := [oo 33 (.ldn 2 (tt 5)), on (.st 2 (tt 4) (tt 33))]
abbrev c_impl_projected : GCode := .seq (.reg c_impl_projected_0) (.seq (.reg c_impl_projected_1) (.seq (.seq (.reg c_impl_projected_2) (.blk 0 (.loop c_impl_projected_l0))) (.seq (.reg c_impl_projected_8) (.seq (.reg c_impl_projected_9) (.ret)))))
theorem c_impl_projected_d : decFn Tryz.prog Tryz.f112 = some (34, [.cn 4 2], c_impl_projected) := by kernel_rfl
theorem c_impl_projected_i {args : List Value} {G : GH} {K : Value → GH → Prop} (hn : args.length ≤ 34) (h : gW Tryz.prog c_impl_projected (RetK [.cn 4 2] K) (T0 args) G) : GC Tryz.prog 112 args G K := GC_intro mixed Tryz.func112 c_impl_projected_d hn h
abbrev c_impl_semiJoin_0 : List GOp := [oo 2 (.bx (tt 0)), oo 3 (.bx (tt 1)), oo 4 (.al [.slice none 0 0, .slice none 0 0])]
abbrev c_impl_semiJoin_1 : List GOp := [oo 8 (.fa 0 (tt 2)), oo 9 (.ld (tt 8)), oo 10 (.call (ff 117) [tt 9]), oo 11 (.bld [.slice none 0 0, .slice none 0 0] [(0, 1, (tt 10))]), oo 5 (.al [.slice none 0 0, .slice none 0 0]), on (.st 2 (tt 5) (tt 11))]
abbrev c_impl_semiJoin_2 : List GOp := [oo 12 (.fa 1 (tt 2)), oo 13 (.ld (tt 12)), oo 14 (.len (tt 13)), oo 15 (.mv (ci 0))]
abbrev c_impl_semiJoin_3 : List GOp := [oo 16 (.bin .lss (tt 15) (tt 14))]
abbrev c_impl_semiJoin_4 : List GOp := [oo 17 (.ia 1 (tt 13) (tt 15)), oo 18 (.ld (tt 17)), oo 7 (.al [.slice none 0 0]), on (.st 1 (tt 7) (tt 18))]
abbrev c_impl_semiJoin_5 : List GOp := [oo 19 (.fa 1 (tt 3)), oo 20 (.ld (tt 19)), oo 21 (.mf (.func 189) [] [tt 2, tt 3, tt 7]), oo 22 (.call (ff 188) [tt 20, tt 21])]
abbrev c_impl_semiJoin_6 : List DOp := [dl 0 (oo 23 (.fa 1 (tt 5))), dl 1 (oo 24 (.ld (tt 23))), dl 2 (oo 25 (.ld (tt 7))), dh 3 [1] (oo 26 (.call (ff 117) [tt 25])), dh 4 [2, 1] (oo 27 (.bs 1 [tt 26])), dh 5 [2] (oo 28 (.ap 1 24 [.slice none 0 0] (tt 24) (tt 27))), dl 6 (oo 29 (.fa 1 (tt 5))), dh 7 [] (on (.st 1 (tt 29) (tt 28)))]
abbrev c_impl_semiJoin_7 : List GOp := [oo 30 (.bin .add (tt 15) (ci 1)), oo 15 (.mv (tt 30))]
abbrev c_impl_semiJoin_l0 : GCode := .seq (.reg c_impl_semiJoin_3) (.seq (.cond (tt 16) (.skip) (.exit 0)) (.seq (.blk 1 (.seq (.reg c_impl_semiJoin_4) (.seq (.reg c_impl_semiJoin_5) (.cond (tt 22) (.dreg c_impl_semiJoin_6) (.skip))))) (.reg c_impl_semiJoin_7)))
abbrev c_impl_semiJoin_9 : List GOp := [oo 31 (.ldn 2 (tt 5)), on (.st 2 (tt 4) (tt 31))]
abbrev c_impl_semiJoin : GCode := .seq (.reg c_impl_semiJoin_0) (.seq (.reg c_impl_semiJoin_1) (.seq (.seq (.reg c_impl_semiJoin_2) (.blk 0 (.loop c_impl_semiJoin_l0))) (.seq (.reg c_impl_semiJoin_9) (.ret))))
theorem c_impl_semiJoin_d : decFn Tryz.prog Tryz.f109 = some (32, [.cn 4 2], c_impl_semiJoin) := by kernel_rfl
theorem c_impl_semiJoin_i {args : List Value} {G : GH} {K : Value → GH → Prop} (hn : args.length ≤ 32) (h : gW Tryz.prog c_impl_semiJoin (RetK [.cn 4 2] K) (T0 args) G) : GC Tryz.prog 109 args G K := GC_intro mixed Tryz.func109 c_impl_semiJoin_d hn h
abbrev c_impl_semiJoin_fn1_0 : List GOp := [oo 5 (.mv (cb  false))]
abbrev c_impl_semiJoin_fn1_1 : List GOp := [oo 6 (.ldn 2 (tt 1)), oo 7 (.ldn 2 (tt 2)), oo 8 (.ld (tt 3)), oo 9 (.mv (tt 0)), oo 10 (.call (ff 106) [tt 6, tt 7, tt 8, tt 9]), oo 5 (.mv (tt 10))]
abbrev c_impl_semiJoin_fn1 : GCode := .seq (.reg c_impl_semiJoin_fn1_0) (.seq (.reg c_impl_semiJoin_fn1_1) (.ret))
theorem c_impl_semiJoin_fn1_d : decFn Tryz.prog Tryz.f189 = some (11, [.t 5], c_impl_semiJoin_fn1) := by kernel_rfl
theorem c_impl_semiJoin_fn1_i {args : List Value} {G : GH} {K : Value → GH → Prop} (hn : args.length ≤ 11) (h : gW Tryz.prog c_impl_semiJoin_fn1 (RetK [.t 5] K) (T0 args) G) : GC Tryz.prog 189 args G K := GC_intro mixed Tryz.func189 c_impl_semiJoin_fn1_d hn h
abbrev c_impl_sortedRows_0 : List GOp := [oo 2 (.mv (.const (.slice none 0 0)))]
abbrev c_impl_sortedRows_1 : List GOp := [oo 3 (.mv (tt 0)), oo 4 (.call (ff 186) [tt 3, (ff 180)])]
abbrev c_impl_sortedRows_2 : List GOp := [oo 5 (.mv (tt 0)), oo 6 (.call (ff 187) [tt 5, (ff 185)]), oo 2 (.mv (tt 6))]
abbrev c_impl_sortedRows : GCode := .seq (.reg c_impl_sortedRows_0) (.seq (.reg c_impl_sortedRows_1) (.seq (.reg c_impl_sortedRows_2) (.ret)))
theorem c_impl_sortedRows_d : decFn Tryz.prog Tryz.f108 = some (7, [.t 2], c_impl_sortedRows) := by kernel_rfl
theorem c_impl_sortedRows_i {args : List Value} {G : GH} {K : Value → GH → Prop} (hn : args.length ≤ 7) (h : gW Tryz.prog c_impl_sortedRows (RetK [.t 2] K) (T0 args) G) : GC Tryz.prog 108 args G K := GC_intro mixed Tryz.func108 c_impl_sortedRows_d hn h
abbrev c_impl_within_0 : List GOp := [oo 6 (.mv (cb  false))]
abbrev c_impl_within_1 : List GOp := [oo 7 (.mv (tt 0)), oo 8 (.mv (tt 1)), oo 9 (.bin .geq (tt 7) (tt 8)), oo 10 (.mv (tt 9)), og 11 10 true (.mv (tt 0)), og 12 10 true (.mv (tt 2)), og 13 10 true (.bin .leq (tt 11) (tt 12)), oo 14 (.pick (tt 10) (tt 13) (cb  false)), oo 6 (.mv (tt 14))]
abbrev c_impl_within : GCode := .seq (.reg c_impl_within_0) (.seq (.reg c_impl_within_1) (.ret))
theorem c_impl_within_d : decFn Tryz.prog Tryz.f207 = some (15, [.t 6], c_impl_within) := by kernel_rfl
theorem c_impl_within_i {args : List Value} {G : GH} {K : Value → GH → Prop} (hn : args.length ≤ 15) (h : gW Tryz.prog c_impl_within (RetK [.t 6] K) (T0 args) G) : GC Tryz.prog 207 args G K := GC_intro mixed Tryz.func207 c_impl_within_d hn h
abbrev c_impl_without_0 : List GOp := [oo 3 (.bx (tt 1)), oo 4 (.mv (.const (.slice none 0 0)))]
abbrev c_impl_without_1 : List GOp := [oo 5 (.mv (tt 0)), oo 6 (.call (ff 117) [tt 5]), oo 7 (.mf (.func 174) [] [tt 3]), oo 8 (.call (ff 173) [tt 6, tt 7]), oo 4 (.mv (tt 8))]
abbrev c_impl_without : GCode := .seq (.reg c_impl_without_0) (.seq (.reg c_impl_without_1) (.ret))
theorem c_impl_without_d : decFn Tryz.prog Tryz.f97 = some (9, [.t 4], c_impl_without) := by kernel_rfl
theorem c_impl_without_i {args : List Value} {G : GH} {K : Value → GH → Prop} (hn : args.length ≤ 9) (h : gW Tryz.prog c_impl_without (RetK [.t 4] K) (T0 args) G) : GC Tryz.prog 97 args G K := GC_intro mixed Tryz.func97 c_impl_without_d hn h
abbrev c_impl_without_fn1_0 : List GOp := [oo 3 (.mv (cb  false))]
abbrev c_impl_without_fn1_1 : List GOp := [oo 4 (.ld (tt 1)), oo 5 (.mv (tt 0)), oo 6 (.call (ff 170) [tt 4, tt 5]), oo 3 (.mv (tt 6))]
abbrev c_impl_without_fn1 : GCode := .seq (.reg c_impl_without_fn1_0) (.seq (.reg c_impl_without_fn1_1) (.ret))
theorem c_impl_without_fn1_d : decFn Tryz.prog Tryz.f174 = some (7, [.t 3], c_impl_without_fn1) := by kernel_rfl
theorem c_impl_without_fn1_i {args : List Value} {G : GH} {K : Value → GH → Prop} (hn : args.length ≤ 7) (h : gW Tryz.prog c_impl_without_fn1 (RetK [.t 3] K) (T0 args) G) : GC Tryz.prog 174 args G K := GC_intro mixed Tryz.func174 c_impl_without_fn1_d hn h
abbrev c_laws_FnTables_0 : List GOp := [oo 4 (.mv (cb  false))]
abbrev c_laws_FnTables_1 : List GOp := [oo 24 (.mv (tt 0)), oo 25 (.call (ff 43) [tt 24]), oo 26 (.mv (tt 25)), og 27 26 false (.mv (tt 1)), og 28 26 false (.call (ff 43) [tt 27]), oo 29 (.pick (tt 26) (cb  true) (tt 28))]
abbrev c_laws_FnTables_2 : List GOp := [oo 4 (.mv (cb  true))]
abbrev c_laws_FnTables_3 : List GOp := [oo 31 (.mv (tt 0)), oo 32 (.call (ff 44) [tt 31]), oo 30 (.mv (tt 32)), oo 33 (.ex 0 (tt 30)), oo 34 (.ex 1 (tt 30)), oo 5 (.al [.slice none 0 0, .slice none 0 0]), oo 6 (.al [.slice none 0 0, .slice none 0 0]), on (.st 2 (tt 5) (tt 33)), on (.st 2 (tt 6) (tt 34))]
abbrev c_laws_FnTables_4 : List GOp := [oo 36 (.ldn 2 (tt 5)), oo 37 (.ldn 2 (tt 6)), oo 38 (.call (ff 45) [tt 36, tt 37]), oo 35 (.mv (tt 38)), oo 39 (.ex 0 (tt 35)), oo 40 (.ex 1 (tt 35)), oo 7 (.al [.slice none 0 0, .slice none 0 0]), on (.st 2 (tt 7) (tt 39)), oo 8 (.mv (tt 40))]
abbrev c_laws_FnTables_5 : List GOp := [oo 42 (.ldn 2 (tt 5)), oo 43 (.ldn 2 (tt 6)), oo 44 (.call (ff 46) [tt 42, tt 43]), oo 41 (.mv (tt 44)), oo 45 (.ex 0 (tt 41)), oo 46 (.ex 1 (tt 41)), oo 9 (.al [.slice none 0 0, .slice none 0 0]), on (.st 2 (tt 9) (tt 45)), oo 10 (.mv (tt 46))]
abbrev c_laws_FnTables_6 : List GOp := [oo 47 (.mv (tt 8)), oo 48 (.bin .eql (tt 47) (ci 0))]
abbrev c_laws_FnTables_7 : List GOp := [oo 50 (.ldn 2 (tt 7)), oo 51 (.fa 0 (tt 5)), oo 52 (.ld (tt 51)), oo 53 (.call (ff 47) [tt 50, tt 52]), oo 49 (.mv (tt 53)), oo 54 (.ex 0 (tt 49)), oo 55 (.ex 1 (tt 49)), oo 11 (.al [.slice none 0 0, .slice none 0 0]), on (.st 2 (tt 11) (tt 54)), oo 12 (.mv (tt 55))]
abbrev c_laws_FnTables_8 : List GOp := [oo 57 (.ldn 2 (tt 6)), oo 58 (.ldn 2 (tt 5)), oo 59 (.call (ff 45) [tt 57, tt 58]), oo 56 (.mv (tt 59)), oo 60 (.ex 0 (tt 56)), oo 61 (.ex 1 (tt 56)), oo 13 (.al [.slice none 0 0, .slice none 0 0]), on (.st 2 (tt 13) (tt 60)), oo 14 (.mv (tt 61))]
abbrev c_laws_FnTables_9 : List GOp := [oo 62 (.mv (tt 10)), oo 63 (.bin .neq (tt 62) (ci 0)), oo 64 (.mv (tt 63)), og 65 64 false (.mv (tt 12)), og 66 64 false (.bin .neq (tt 65) (ci 0)), oo 67 (.pick (tt 64) (cb  true) (tt 66)), oo 68 (.mv (tt 67)), og 69 68 false (.mv (tt 14)), og 70 68 false (.bin .neq (tt 69) (ci 0)), oo 71 (.pick (tt 68) (cb  true) (tt 70)), oo 72 (.mv (tt 71)), og 73 72 false (.ldn 2 (tt 7)), og 74 72 false (.call (ff 48) [tt 73]), og 75 72 false (.un .not (tt 74)), oo 76 (.pick (tt 72) (cb  true) (tt 75)), oo 77 (.mv (tt 76)), og 78 77 false (.ldn 2 (tt 11)), og 79 77 false (.ldn 2 (tt 9)), og 80 77 false (.call (ff 49) [tt 78, tt 79]), og 81 77 false (.un .not (tt 80)), oo 82 (.pick (tt 77) (cb  true) (tt 81)), oo 83 (.mv (tt 82)), og 84 83 false (.ldn 2 (tt 13)), og 85 83 false (.ldn 2 (tt 7)), og 86 83 false (.call (ff 49) [tt 84, tt 85]), og 87 83 false (.un .not (tt 86)), oo 88 (.pick (tt 83) (cb  true) (tt 87))]
abbrev c_laws_FnTables_10 : List GOp := [oo 4 (.mv (cb  false))]
abbrev c_laws_FnTables_11 : List GOp := [oo 89 (.mv (tt 1)), oo 90 (.call (ff 50) [tt 89]), oo 15 (.mv (tt 90))]
abbrev c_laws_FnTables_12 : List GOp := [oo 92 (.mv (tt 15)), oo 93 (.call (ff 51) [tt 92]), oo 91 (.mv (tt 93)), oo 94 (.ex 0 (tt 91)), oo 95 (.ex 1 (tt 91)), oo 16 (.mv (tt 94)), oo 17 (.mv (tt 95))]
abbrev c_laws_FnTables_13 : List GOp := [oo 96 (.mv (tt 17)), oo 97 (.bin .neq (tt 96) (ci 0))]
abbrev c_laws_FnTables_14 : List GOp := [oo 98 (.mv (tt 16)), oo 99 (.len (tt 98)), oo 100 (.bin .eql (tt 99) (ci 0)), oo 4 (.mv (tt 100))]
abbrev c_laws_FnTables_15 : List GOp := [oo 101 (.mv (tt 16)), oo 102 (.len (tt 101)), oo 103 (.mv (tt 15)), oo 104 (.len (tt 103)), oo 105 (.bin .neq (tt 102) (tt 104)), oo 106 (.mv (tt 105)), og 107 106 false (.mv (tt 16)), og 108 106 false (.call (ff 52) [tt 107]), og 109 106 false (.un .not (tt 108)), oo 110 (.pick (tt 106) (cb  true) (tt 109))]
abbrev c_laws_FnTables_16 : List GOp := [oo 4 (.mv (cb  false))]
abbrev c_laws_FnTables_17 : List GOp := [oo 112 (.mv (tt 16)), oo 113 (.call (ff 53) [tt 112]), oo 111 (.mv (tt 113)), oo 114 (.ex 0 (tt 111)), oo 115 (.ex 1 (tt 111)), oo 116 (.ex 2 (tt 111)), oo 18 (.mv (tt 114)), oo 19 (.mv (tt 115)), oo 20 (.mv (tt 116))]
abbrev c_laws_FnTables_18 : List GOp := [oo 118 (.mv (tt 16)), oo 119 (.call (ff 51) [tt 118]), oo 117 (.mv (tt 119)), oo 120 (.ex 0 (tt 117)), oo 121 (.ex 1 (tt 117)), oo 21 (.mv (tt 120)), oo 22 (.mv (tt 121))]
abbrev c_laws_FnTables_19 : List GOp := [oo 122 (.mv (tt 20)), oo 123 (.bin .neq (tt 122) (ci 3)), oo 124 (.mv (tt 123)), og 125 124 false (.mv (tt 22)), og 126 124 false (.bin .neq (tt 125) (ci 0)), oo 127 (.pick (tt 124) (cb  true) (tt 126)), oo 128 (.mv (tt 127)), og 129 128 false (.mv (tt 21)), og 130 128 false (.len (tt 129)), og 131 128 false (.mv (tt 16)), og 132 128 false (.len (tt 131)), og 133 128 false (.bin .neq (tt 130) (tt 132)), oo 134 (.pick (tt 128) (cb  true) (tt 133))]
abbrev c_laws_FnTables_20 : List GOp := [oo 4 (.mv (cb  false))]
abbrev c_laws_FnTables_21 : List GOp := [oo 23 (.mv (ci 0))]
abbrev c_laws_FnTables_22 : List GOp := [oo 135 (.mv (tt 23)), oo 136 (.mv (tt 16)), oo 137 (.len (tt 136)), oo 138 (.bin .lss (tt 135) (tt 137))]
abbrev c_laws_FnTables_23 : List DOp := [dl 0 (oo 141 (.mv (tt 21))), dl 1 (oo 142 (.mv (tt 23))), dl 2 (oo 143 (.ia 2 (tt 141) (tt 142))), dl 3 (oo 144 (.ldn 2 (tt 143))), dl 4 (oo 145 (.mv (tt 16))), dl 5 (oo 146 (.mv (tt 23))), dl 6 (oo 147 (.ia 2 (tt 145) (tt 146))), dl 7 (oo 148 (.ldn 2 (tt 147))), dh 8 [] (oo 149 (.call (ff 49) [tt 144, tt 148])), dl 9 (oo 150 (.un .not (tt 149))), dl 10 (oo 151 (.mv (tt 150))), dl 11 (og 152 151 false (.mv (tt 16))), dl 12 (og 153 151 false (.mv (tt 23))), dl 13 (og 154 151 false (.ia 2 (tt 152) (tt 153))), dl 14 (og 155 151 false (.fa 1 (tt 154))), dl 15 (og 156 151 false (.ld (tt 155))), dl 16 (og 157 151 false (.len (tt 156))), dl 17 (og 158 151 false (.mv (tt 15))), dl 18 (og 159 151 false (.mv (tt 23))), dl 19 (og 160 151 false (.ia 2 (tt 158) (tt 159))), dl 20 (og 161 151 false (.fa 1 (tt 160))), dl 21 (og 162 151 false (.ld (tt 161))), dl 22 (og 163 151 false (.len (tt 162))), dl 23 (og 164 151 false (.bin .gtr (tt 157) (tt 163))), dl 24 (oo 165 (.pick (tt 151) (cb  true) (tt 164)))]
abbrev c_laws_FnTables_24 : List GOp := [oo 4 (.mv (cb  false))]
abbrev c_laws_FnTables_25 : List GOp := [oo 139 (.mv (tt 23)), oo 140 (.bin .add (tt 139) (ci 1)), oo 23 (.mv (tt 140))]
abbrev c_laws_FnTables_l0 : GCode := .seq (.seq (.reg c_laws_FnTables_22) (.cond (tt 138) (.skip) (.exit 0))) (.seq (.blk 1 (.seq (.dreg c_laws_FnTables_23) (.cond (tt 165) (.seq (.reg c_laws_FnTables_24) (.ret)) (.skip)))) (.reg c_laws_FnTables_25))
abbrev c_laws_FnTables_27 : List GOp := [oo 4 (.mv (cb  true))]
abbrev c_laws_FnTables : GCode := .seq (.reg c_laws_FnTables_0) (.seq (.seq (.reg c_laws_FnTables_1) (.cond (tt 29) (.seq (.reg c_laws_FnTables_2) (.ret)) (.skip))) (.seq (.reg c_laws_FnTables_3) (.seq (.reg c_laws_FnTables_4) (.seq (.reg c_laws_FnTables_5) (.seq (.seq (.reg c_laws_FnTables_6) (.cond (tt 48) (.seq (.reg c_laws_FnTables_7) (.seq (.reg c_laws_FnTables_8) (.seq (.reg c_laws_FnTables_9) (.cond (tt 88) (.seq (.reg c_laws_FnTables_10) (.ret)) (.skip))))) (.skip))) (.seq (.reg c_laws_FnTables_11) (.seq (.reg c_laws_FnTables_12) (.seq (.seq (.reg c_laws_FnTables_13) (.cond (tt 97) (.seq (.reg c_laws_FnTables_14) (.ret)) (.skip))) (.seq (.seq (.reg c_laws_FnTables_15) (.cond (tt 110) (.seq (.reg c_laws_FnTables_16) (.ret)) (.skip))) (.seq (.reg c_laws_FnTables_17) (.seq (.reg c_laws_FnTables_18) (.seq (.seq (.reg c_laws_FnTables_19) (.cond (tt 134) (.seq (.reg c_laws_FnTables_20) (.ret)) (.skip))) (.seq (.seq (.reg c_laws_FnTables_21) (.blk 0 (.loop c_laws_FnTables_l0))) (.seq (.reg c_laws_FnTables_27) (.ret)))))))))))))))
theorem c_laws_FnTables_d : decFn Tryz.prog Tryz.f11 = some (166, [.t 4], c_laws_FnTables) := by kernel_rfl
theorem c_laws_FnTables_i {args : List Value} {G : GH} {K : Value → GH → Prop} (hn : args.length ≤ 166) (h : gW Tryz.prog c_laws_FnTables (RetK [.t 4] K) (T0 args) G) : GC Tryz.prog 11 args G K := GC_intro mixed Tryz.func11 c_laws_FnTables_d hn h
abbrev c_laws_b10Long_0 : List GOp := [oo 2 (.mv (cb  false))]
abbrev c_laws_b10Long_1 : List GOp := [oo 3 (.mv (tt 0)), oo 4 (.len (tt 3)), oo 5 (.bin .gtr (tt 4) (ci 1048576)), oo 2 (.mv (tt 5))]
abbrev c_laws_b10Long : GCode := .seq (.reg c_laws_b10Long_0) (.seq (.reg c_laws_b10Long_1) (.ret))
theorem c_laws_b10Long_d : decFn Tryz.prog Tryz.f43 = some (6, [.t 2], c_laws_b10Long) := by kernel_rfl
theorem c_laws_b10Long_i {args : List Value} {G : GH} {K : Value → GH → Prop} (hn : args.length ≤ 6) (h : gW Tryz.prog c_laws_b10Long (RetK [.t 2] K) (T0 args) G) : GC Tryz.prog 43 args G K := GC_intro mixed Tryz.func43 c_laws_b10Long_d hn h
abbrev c_slices_Clone_int64_int64_0 : List GOp := [oo 2 (.mv (.const (.slice none 0 0)))]
abbrev c_slices_Clone_int64_int64_1 : List GOp := [oo 3 (.mv (tt 0)), oo 4 (.eqs false (tt 3) (.const (.slice none 0 0)))]
abbrev c_slices_Clone_int64_int64_2 : List GOp := [oo 2 (.mv (.const (.slice none 0 0)))]
abbrev c_slices_Clone_int64_int64_3 : List GOp := [oo 5 (.bs 1 []), oo 6 (.mv (tt 0)), oo 7 (.ap 1 8 [.int .i64 0] (tt 5) (tt 6)), oo 2 (.mv (tt 7))]
abbrev c_slices_Clone_int64_int64 : GCode := .seq (.reg c_slices_Clone_int64_int64_0) (.seq (.seq (.reg c_slices_Clone_int64_int64_1) (.cond (tt 4) (.seq (.reg c_slices_Clone_int64_int64_2) (.ret)) (.skip))) (.seq (.reg c_slices_Clone_int64_int64_3) (.ret)))
theorem c_slices_Clone_int64_int64_d : decFn Tryz.prog Tryz.f117 = some (8, [.t 2], c_slices_Clone_int64_int64) := by kernel_rfl
theorem c_slices_Clone_int64_int64_i {args : List Value} {G : GH} {K : Value → GH → Prop} (hn : args.length ≤ 8) (h : gW Tryz.prog c_slices_Clone_int64_int64 (RetK [.t 2] K) (T0 args) G) : GC Tryz.prog 117 args G K := GC_intro mixed Tryz.func117 c_slices_Clone_int64_int64_d hn h
abbrev c_slices_CompactFunc_SS_int64_int64_0 : List GOp := [oo 4 (.mv (.const (.slice none 0 0)))]
abbrev c_slices_CompactFunc_SS_int64_int64_1 : List GOp := [oo 8 (.mv (tt 0)), oo 9 (.len (tt 8)), oo 10 (.bin .lss (tt 9) (ci 2))]
abbrev c_slices_CompactFunc_SS_int64_int64_2 : List GOp := [oo 11 (.mv (tt 0)), oo 4 (.mv (tt 11))]
abbrev c_slices_CompactFunc_SS_int64_int64_3 : List GOp := [oo 5 (.mv (ci 1))]
abbrev c_slices_CompactFunc_SS_int64_int64_4 : List GOp := [oo 12 (.mv (tt 5)), oo 13 (.mv (tt 0)), oo 14 (.len (tt 13)), oo 15 (.bin .lss (tt 12) (tt 14))]
abbrev c_slices_CompactFunc_SS_int64_int64_5 : List DOp := [dl 0 (oo 18 (.mv (tt 1))), dl 1 (oo 19 (.mv (tt 0))), dl 2 (oo 20 (.mv (tt 5))), dl 3 (oo 21 (.ia 1 (tt 19) (tt 20))), dl 4 (oo 22 (.ld (tt 21))), dl 5 (oo 23 (.mv (tt 0))), dl 6 (oo 24 (.mv (tt 5))), dl 7 (oo 25 (.bin .sub (tt 24) (ci 1))), dl 8 (oo 26 (.ia 1 (tt 23) (tt 25))), dl 9 (oo 27 (.ld (tt 26))), dh 10 [] (oo 28 (.call (tt 18) [tt 22, tt 27]))]
abbrev c_slices_CompactFunc_SS_int64_int64_6 : List GOp := [oo 29 (.mv (tt 0)), oo 30 (.mv (tt 5)), oo 31 (.sl 1 (tt 29) (some (tt 30)) none), oo 6 (.mv (tt 31))]
abbrev c_slices_CompactFunc_SS_int64_int64_7 : List GOp := [oo 7 (.mv (ci 1))]
abbrev c_slices_CompactFunc_SS_int64_int64_8 : List GOp := [oo 32 (.mv (tt 7)), oo 33 (.mv (tt 6)), oo 34 (.len (tt 33)), oo 35 (.bin .lss (tt 32) (tt 34))]
abbrev c_slices_CompactFunc_SS_int64_int64_9 : List DOp := [dl 0 (oo 38 (.mv (tt 1))), dl 1 (oo 39 (.mv (tt 6))), dl 2 (oo 40 (.mv (tt 7))), dl 3 (oo 41 (.ia 1 (tt 39) (tt 40))), dl 4 (oo 42 (.ld (tt 41))), dl 5 (oo 43 (.mv (tt 6))), dl 6 (oo 44 (.mv (tt 7))), dl 7 (oo 45 (.bin .sub (tt 44) (ci 1))), dl 8 (oo 46 (.ia 1 (tt 43) (tt 45))), dl 9 (oo 47 (.ld (tt 46))), dh 10 [] (oo 48 (.call (tt 38) [tt 42, tt 47])), dl 11 (oo 49 (.un .not (tt 48)))]
abbrev c_slices_CompactFunc_SS_int64_int64_10 : List GOp := [oo 50 (.mv (tt 0)), oo 51 (.mv (tt 5)), oo 52 (.mv (tt 6)), oo 53 (.mv (tt 7)), oo 54 (.ia 1 (tt 52) (tt 53)), oo 55 (.ld (tt 54)), oo 56 (.ia 1 (tt 50) (tt 51)), on (.st 1 (tt 56) (tt 55))]
abbrev c_slices_CompactFunc_SS_int64_int64_11 : List GOp := [oo 57 (.mv (tt 5)), oo 58 (.bin .add (tt 57) (ci 1)), oo 5 (.mv (tt 58))]
abbrev c_slices_CompactFunc_SS_int64_int64_12 : List GOp := [oo 36 (.mv (tt 7)), oo 37 (.bin .add (tt 36) (ci 1)), oo 7 (.mv (tt 37))]
abbrev c_slices_CompactFunc_SS_int64_int64_l0 : GCode := .seq (.seq (.reg c_slices_CompactFunc_SS_int64_int64_8) (.cond (tt 35) (.skip) (.exit 2))) (.seq (.blk 3 (.seq (.dreg c_slices_CompactFunc_SS_int64_int64_9) (.cond (tt 49) (.seq (.reg c_slices_CompactFunc_SS_int64_int64_10) (.reg c_slices_CompactFunc_SS_int64_int64_11)) (.skip)))) (.reg c_slices_CompactFunc_SS_int64_int64_12))
abbrev c_slices_CompactFunc_SS_int64_int64_14 : List GOp := [oo 59 (.mv (tt 0)), oo 60 (.mv (tt 5)), oo 61 (.sl 1 (tt 59) (some (tt 60)) none), on (.clr 1 [.slice none 0 0] (tt 61))]
abbrev c_slices_CompactFunc_SS_int64_int64_15 : List GOp := [oo 62 (.mv (tt 0)), oo 63 (.mv (tt 5)), oo 64 (.sl 1 (tt 62) none (some (tt 63))), oo 4 (.mv (tt 64))]
abbrev c_slices_CompactFunc_SS_int64_int64_16 : List GOp := [oo 16 (.mv (tt 5)), oo 17 (.bin .add (tt 16) (ci 1)), oo 5 (.mv (tt 17))]
abbrev c_slices_CompactFunc_SS_int64_int64_l1 : GCode := .seq (.seq (.reg c_slices_CompactFunc_SS_int64_int64_4) (.cond (tt 15) (.skip) (.exit 0))) (.seq (.blk 1 (.seq (.dreg c_slices_CompactFunc_SS_int64_int64_5) (.cond (tt 28) (.seq (.reg c_slices_CompactFunc_SS_int64_int64_6) (.seq (.seq (.reg c_slices_CompactFunc_SS_int64_int64_7) (.blk 2 (.loop c_slices_CompactFunc_SS_int64_int64_l0))) (.seq (.reg c_slices_CompactFunc_SS_int64_int64_14) (.seq (.reg c_slices_CompactFunc_SS_int64_int64_15) (.ret))))) (.skip)))) (.reg c_slices_CompactFunc_SS_int64_int64_16))
abbrev c_slices_CompactFunc_SS_int64_int64_18 : List GOp := [oo 65 (.mv (tt 0)), oo 4 (.mv (tt 65))]
abbrev c_slices_CompactFunc_SS_int64_int64 : GCode := .seq (.reg c_slices_CompactFunc_SS_int64_int64_0) (.seq (.seq (.reg c_slices_CompactFunc_SS_int64_int64_1) (.cond (tt 10) (.seq (.reg c_slices_CompactFunc_SS_int64_int64_2) (.ret)) (.skip))) (.seq (.seq (.reg c_slices_CompactFunc_SS_int64_int64_3) (.blk 0 (.loop c_slices_CompactFunc_SS_int64_int64_l1))) (.seq (.reg c_slices_CompactFunc_SS_int64_int64_18) (.ret))))
theorem c_slices_CompactFunc_SS_int64_int64_d : decFn Tryz.prog Tryz.f187 = some (66, [.t 4], c_slices_CompactFunc_SS_int64_int64) := by kernel_rfl
theorem c_slices_CompactFunc_SS_int64_int64_i {args : List Value} {G : GH} {K : Value → GH → Prop} (hn : args.length ≤ 66) (h : gW Tryz.prog c_slices_CompactFunc_SS_int64_int64 (RetK [.t 4] K) (T0 args) G) : GC Tryz.prog 187 args G K := GC_intro mixed Tryz.func187 c_slices_CompactFunc_SS_int64_int64_d hn h
abbrev c_slices_Compact_int64_int64_0 : List GOp := [oo 2 (.mv (.const (.slice none 0 0)))]
abbrev c_slices_Compact_int64_int64_1 : List GOp := [oo 6 (.mv (tt 0)), oo 7 (.len (tt 6)), oo 8 (.bin .lss (tt 7) (ci 2))]
abbrev c_slices_Compact_int64_int64_2 : List GOp := [oo 9 (.mv (tt 0)), oo 2 (.mv (tt 9))]
abbrev c_slices_Compact_int64_int64_3 : List GOp := [oo 3 (.mv (ci 1))]
abbrev c_slices_Compact_int64_int64_4 : List GOp := [oo 10 (.mv (tt 3)), oo 11 (.mv (tt 0)), oo 12 (.len (tt 11)), oo 13 (.bin .lss (tt 10) (tt 12))]
abbrev c_slices_Compact_int64_int64_5 : List DOp := [dl 0 (oo 16 (.mv (tt 0))), dl 1 (oo 17 (.mv (tt 3))), dl 2 (oo 18 (.ia 1 (tt 16) (tt 17))), dl 3 (oo 19 (.ld (tt 18))), dl 4 (oo 20 (.mv (tt 0))), dl 5 (oo 21 (.mv (tt 3))), dl 6 (oo 22 (.bin .sub (tt 21) (ci 1))), dl 7 (oo 23 (.ia 1 (tt 20) (tt 22))), dl 8 (oo 24 (.ld (tt 23))), dl 9 (oo 25 (.bin .eql (tt 19) (tt 24)))]
abbrev c_slices_Compact_int64_int64_6 : List GOp := [oo 26 (.mv (tt 0)), oo 27 (.mv (tt 3)), oo 28 (.sl 1 (tt 26) (some (tt 27)) none), oo 4 (.mv (tt 28))]
abbrev c_slices_Compact_int64_int64_7 : List GOp := [oo 5 (.mv (ci 1))]
abbrev c_slices_Compact_int64_int64_8 : List GOp := [oo 29 (.mv (tt 5)), oo 30 (.mv (tt 4)), oo 31 (.len (tt 30)), oo 32 (.bin .lss (tt 29) (tt 31))]
abbrev c_slices_Compact_int64_int64_9 : List DOp := [dl 0 (oo 35 (.mv (tt 4))), dl 1 (oo 36 (.mv (tt 5))), dl 2 (oo 37 (.ia 1 (tt 35) (tt 36))), dl 3 (oo 38 (.ld (tt 37))), dl 4 (oo 39 (.mv (tt 4))), dl 5 (oo 40 (.mv (tt 5))), dl 6 (oo 41 (.bin .sub (tt 40) (ci 1))), dl 7 (oo 42 (.ia 1 (tt 39) (tt 41))), dl 8 (oo 43 (.ld (tt 42))), dl 9 (oo 44 (.bin .neq (tt 38) (tt 43)))]
abbrev c_slices_Compact_int64_int64_10 : List GOp := [oo 45 (.mv (tt 0)), oo 46 (.mv (tt 3)), oo 47 (.mv (tt 4)), oo 48 (.mv (tt 5)), oo 49 (.ia 1 (tt 47) (tt 48)), oo 50 (.ld (tt 49)), oo 51 (.ia 1 (tt 45) (tt 46)), on (.st 1 (tt 51) (tt 50))]
abbrev c_slices_Compact_int64_int64_11 : List GOp := [oo 52 (.mv (tt 3)), oo 53 (.bin .add (tt 52) (ci 1)), oo 3 (.mv (tt 53))]
abbrev c_slices_Compact_int64_int64_12 : List GOp := [oo 33 (.mv (tt 5)), oo 34 (.bin .add (tt 33) (ci 1)), oo 5 (.mv (tt 34))]
abbrev c_slices_Compact_int64_int64_l0 : GCode := .seq (.seq (.reg c_slices_Compact_int64_int64_8) (.cond (tt 32) (.skip) (.exit 2))) (.seq (.blk 3 (.seq (.dreg c_slices_Compact_int64_int64_9) (.cond (tt 44) (.seq (.reg c_slices_Compact_int64_int64_10) (.reg c_slices_Compact_int64_int64_11)) (.skip)))) (.reg c_slices_Compact_int64_int64_12))
abbrev c_slices_Compact_int64_int64_14 : List GOp := [oo 54 (.mv (tt 0)), oo 55 (.mv (tt 3)), oo 56 (.sl 1 (tt 54) (some (tt 55)) none), on (.clr 1 [.int .i64 0] (tt 56))]
abbrev c_slices_Compact_int64_int64_15 : List GOp := [oo 57 (.mv (tt 0)), oo 58 (.mv (tt 3)), oo 59 (.sl 1 (tt 57) none (some (tt 58))), oo 2 (.mv (tt 59))]
abbrev c_slices_Compact_int64_int64_16 : List GOp := [oo 14 (.mv (tt 3)), oo 15 (.bin .add (tt 14) (ci 1)), oo 3 (.mv (tt 15))]
abbrev c_slices_Compact_int64_int64_l1 : GCode := .seq (.seq (.reg c_slices_Compact_int64_int64_4) (.cond (tt 13) (.skip) (.exit 0))) (.seq (.blk 1 (.seq (.dreg c_slices_Compact_int64_int64_5) (.cond (tt 25) (.seq (.reg c_slices_Compact_int64_int64_6) (.seq (.seq (.reg c_slices_Compact_int64_int64_7) (.blk 2 (.loop c_slices_Compact_int64_int64_l0))) (.seq (.reg c_slices_Compact_int64_int64_14) (.seq (.reg c_slices_Compact_int64_int64_15) (.ret))))) (.skip)))) (.reg c_slices_Compact_int64_int64_16))
abbrev c_slices_Compact_int64_int64_18 : List GOp := [oo 60 (.mv (tt 0)), oo 2 (.mv (tt 60))]
abbrev c_slices_Compact_int64_int64 : GCode := .seq (.reg c_slices_Compact_int64_int64_0) (.seq (.seq (.reg c_slices_Compact_int64_int64_1) (.cond (tt 8) (.seq (.reg c_slices_Compact_int64_int64_2) (.ret)) (.skip))) (.seq (.seq (.reg c_slices_Compact_int64_int64_3) (.blk 0 (.loop c_slices_Compact_int64_int64_l1))) (.seq (.reg c_slices_Compact_int64_int64_18) (.ret))))
theorem c_slices_Compact_int64_int64_d : decFn Tryz.prog Tryz.f182 = some (61, [.t 2], c_slices_Compact_int64_int64) := by kernel_rfl
theorem c_slices_Compact_int64_int64_i {args : List Value} {G : GH} {K : Value → GH → Prop} (hn : args.length ≤ 61) (h : gW Tryz.prog c_slices_Compact_int64_int64 (RetK [.t 2] K) (T0 args) G) : GC Tryz.prog 182 args G K := GC_intro mixed Tryz.func182 c_slices_Compact_int64_int64_d hn h
abbrev c_slices_Compare_int64_int64_0 : List GOp := [oo 4 (.mv (ci 0))]
abbrev c_slices_Compare_int64_int64_1 : List GOp := [oo 9 (.mv (tt 0)), oo 10 (.len (tt 9)), oo 11 (.mv (ci 0))]
abbrev c_slices_Compare_int64_int64_2 : List GOp := [oo 12 (.bin .lss (tt 11) (tt 10))]
abbrev c_slices_Compare_int64_int64_3 : List GOp := [oo 13 (.mv (tt 11)), oo 14 (.ia 1 (tt 9) (tt 11)), oo 15 (.ld (tt 14)), oo 5 (.mv (tt 13)), oo 6 (.mv (tt 15))]
abbrev c_slices_Compare_int64_int64_4 : List GOp := [oo 16 (.mv (tt 5)), oo 17 (.mv (tt 1)), oo 18 (.len (tt 17)), oo 19 (.bin .geq (tt 16) (tt 18))]
abbrev c_slices_Compare_int64_int64_5 : List GOp := [oo 4 (.mv (ci 1))]
abbrev c_slices_Compare_int64_int64_6 : List GOp := [oo 20 (.mv (tt 1)), oo 21 (.mv (tt 5)), oo 22 (.ia 1 (tt 20) (tt 21)), oo 23 (.ld (tt 22)), oo 7 (.mv (tt 23))]
abbrev c_slices_Compare_int64_int64_7 : List GOp := [oo 24 (.mv (tt 6)), oo 25 (.mv (tt 7)), oo 26 (.call (ff 226) [tt 24, tt 25]), oo 8 (.mv (tt 26))]
abbrev c_slices_Compare_int64_int64_8 : List GOp := [oo 27 (.mv (tt 8)), oo 28 (.bin .neq (tt 27) (ci 0))]
abbrev c_slices_Compare_int64_int64_9 : List GOp := [oo 29 (.mv (tt 8)), oo 4 (.mv (tt 29))]
abbrev c_slices_Compare_int64_int64_10 : List GOp := [oo 30 (.bin .add (tt 11) (ci 1)), oo 11 (.mv (tt 30))]
abbrev c_slices_Compare_int64_int64_l0 : GCode := .seq (.reg c_slices_Compare_int64_int64_2) (.seq (.cond (tt 12) (.skip) (.exit 0)) (.seq (.blk 1 (.seq (.reg c_slices_Compare_int64_int64_3) (.seq (.seq (.reg c_slices_Compare_int64_int64_4) (.cond (tt 19) (.seq (.reg c_slices_Compare_int64_int64_5) (.ret)) (.skip))) (.seq (.reg c_slices_Compare_int64_int64_6) (.seq (.reg c_slices_Compare_int64_int64_7) (.seq (.reg c_slices_Compare_int64_int64_8) (.cond (tt 28) (.seq (.reg c_slices_Compare_int64_int64_9) (.ret)) (.skip)))))))) (.reg c_slices_Compare_int64_int64_10)))
abbrev c_slices_Compare_int64_int64_12 : List GOp := [oo 31 (.mv (tt 0)), oo 32 (.len (tt 31)), oo 33 (.mv (tt 1)), oo 34 (.len (tt 33)), oo 35 (.bin .lss (tt 32) (tt 34))]
abbrev c_slices_Compare_int64_int64_13 : List GOp := [oo 4 (.mv (ci (-1)))]
abbrev c_slices_Compare_int64_int64_14 : List GOp := [oo 4 (.mv (ci 0))]
abbrev c_slices_Compare_int64_int64 : GCode := .seq (.reg c_slices_Compare_int64_int64_0) (.seq (.seq (.reg c_slices_Compare_int64_int64_1) (.blk 0 (.loop c_slices_Compare_int64_int64_l0))) (.seq (.seq (.reg c_slices_Compare_int64_int64_12) (.cond (tt 35) (.seq (.reg c_slices_Compare_int64_int64_13) (.ret)) (.skip))) (.seq (.reg c_slices_Compare_int64_int64_14) (.ret))))
theorem c_slices_Compare_int64_int64_d : decFn Tryz.prog Tryz.f180 = some (36, [.t 4], c_slices_Compare_int64_int64) := by kernel_rfl
theorem c_slices_Compare_int64_int64_i {args : List Value} {G : GH} {K : Value → GH → Prop} (hn : args.length ≤ 36) (h : gW Tryz.prog c_slices_Compare_int64_int64 (RetK [.t 4] K) (T0 args) G) : GC Tryz.prog 180 args G K := GC_intro mixed Tryz.func180 c_slices_Compare_int64_int64_d hn h
abbrev c_slices_Concat_int64_int64_0 : List GOp := [oo 2 (.mv (.const (.slice none 0 0)))]
abbrev c_slices_Concat_int64_int64_1 : List GOp := [oo 3 (.mv (ci 0))]
abbrev c_slices_Concat_int64_int64_2 : List GOp := [oo 9 (.mv (tt 0)), oo 10 (.len (tt 9)), oo 11 (.mv (ci 0))]
abbrev c_slices_Concat_int64_int64_3 : List GOp := [oo 12 (.bin .lss (tt 11) (tt 10))]
abbrev c_slices_Concat_int64_int64_4 : List GOp := [oo 13 (.ia 1 (tt 9) (tt 11)), oo 14 (.ld (tt 13)), oo 5 (.mv (tt 14))]
abbrev c_slices_Concat_int64_int64_5 : List GOp := [oo 15 (.mv (tt 3)), oo 16 (.mv (tt 5)), oo 17 (.len (tt 16)), oo 18 (.bin .add (tt 15) (tt 17)), oo 3 (.mv (tt 18))]
abbrev c_slices_Concat_int64_int64_6 : List GOp := [oo 19 (.mv (tt 3)), oo 20 (.bin .lss (tt 19) (ci 0))]
abbrev c_slices_Concat_int64_int64_7 : List GOp := [oo 21 (.mi 9 (.const (.string ⟨#[108, 101, 110, 32, 111, 117, 116, 32, 111, 102, 32, 114, 97, 110, 103, 101]⟩))), on (.bad)]
abbrev c_slices_Concat_int64_int64_8 : List GOp := [oo 22 (.bin .add (tt 11) (ci 1)), oo 11 (.mv (tt 22))]
abbrev c_slices_Concat_int64_int64_l0 : GCode := .seq (.reg c_slices_Concat_int64_int64_3) (.seq (.cond (tt 12) (.skip) (.exit 0)) (.seq (.blk 1 (.seq (.reg c_slices_Concat_int64_int64_4) (.seq (.reg c_slices_Concat_int64_int64_5) (.seq (.reg c_slices_Concat_int64_int64_6) (.cond (tt 20) (.reg c_slices_Concat_int64_int64_7) (.skip)))))) (.reg c_slices_Concat_int64_int64_8)))
abbrev c_slices_Concat_int64_int64_10 : List GOp := [oo 23 (.mv (tt 3)), oo 24 (.call (ff 183) [(.const (.slice none 0 0)), tt 23]), oo 6 (.mv (tt 24))]
abbrev c_slices_Concat_int64_int64_11 : List GOp := [oo 25 (.mv (tt 0)), oo 26 (.len (tt 25)), oo 27 (.mv (ci 0))]
abbrev c_slices_Concat_int64_int64_12 : List GOp := [oo 28 (.bin .lss (tt 27) (tt 26))]
abbrev c_slices_Concat_int64_int64_13 : List GOp := [oo 29 (.ia 1 (tt 25) (tt 27)), oo 30 (.ld (tt 29)), oo 8 (.mv (tt 30))]
abbrev c_slices_Concat_int64_int64_14 : List GOp := [oo 31 (.mv (tt 6)), oo 32 (.mv (tt 8)), oo 33 (.ap 1 8 [.int .i64 0] (tt 31) (tt 32)), oo 6 (.mv (tt 33))]
abbrev c_slices_Concat_int64_int64_15 : List GOp := [oo 34 (.bin .add (tt 27) (ci 1)), oo 27 (.mv (tt 34))]
abbrev c_slices_Concat_int64_int64_l1 : GCode := .seq (.reg c_slices_Concat_int64_int64_12) (.seq (.cond (tt 28) (.skip) (.exit 2)) (.seq (.blk 3 (.seq (.reg c_slices_Concat_int64_int64_13) (.reg c_slices_Concat_int64_int64_14))) (.reg c_slices_Concat_int64_int64_15)))
abbrev c_slices_Concat_int64_int64_17 : List GOp := [oo 35 (.mv (tt 6)), oo 2 (.mv (tt 35))]
abbrev c_slices_Concat_int64_int64 : GCode := .seq (.reg c_slices_Concat_int64_int64_0) (.seq (.reg c_slices_Concat_int64_int64_1) (.seq (.seq (.reg c_slices_Concat_int64_int64_2) (.blk 0 (.loop c_slices_Concat_int64_int64_l0))) (.seq (.reg c_slices_Concat_int64_int64_10) (.seq (.seq (.reg c_slices_Concat_int64_int64_11) (.blk 2 (.loop c_slices_Concat_int64_int64_l1))) (.seq (.reg c_slices_Concat_int64_int64_17) (.ret))))))
theorem c_slices_Concat_int64_int64_d : decFn Tryz.prog Tryz.f105 = some (36, [.t 2], c_slices_Concat_int64_int64) := by kernel_rfl
theorem c_slices_Concat_int64_int64_i {args : List Value} {G : GH} {K : Value → GH → Prop} (hn : args.length ≤ 36) (h : gW Tryz.prog c_slices_Concat_int64_int64 (RetK [.t 2] K) (T0 args) G) : GC Tryz.prog 105 args G K := GC_intro mixed Tryz.func105 c_slices_Concat_int64_int64_d hn h
abbrev c_slices_ContainsFunc_SS_int64_int64_0 : List GOp := [oo 4 (.mv (cb  false))]
abbrev c_slices_ContainsFunc_SS_int64_int64_1 : List GOp := [oo 5 (.mv (tt 0)), oo 6 (.mv (tt 1)), oo 7 (.call (ff 230) [tt 5, tt 6]), oo 8 (.bin .geq (tt 7) (ci 0)), oo 4 (.mv (tt 8))]
abbrev c_slices_ContainsFunc_SS_int64_int64 : GCode := .seq (.reg c_slices_ContainsFunc_SS_int64_int64_0) (.seq (.reg c_slices_ContainsFunc_SS_int64_int64_1) (.ret))
theorem c_slices_ContainsFunc_SS_int64_int64_d : decFn Tryz.prog Tryz.f188 = some (9, [.t 4], c_slices_ContainsFunc_SS_int64_int64) := by kernel_rfl
theorem c_slices_ContainsFunc_SS_int64_int64_i {args : List Value} {G : GH} {K : Value → GH → Prop} (hn : args.length ≤ 9) (h : gW Tryz.prog c_slices_ContainsFunc_SS_int64_int64 (RetK [.t 4] K) (T0 args) G) : GC Tryz.prog 188 args G K := GC_intro mixed Tryz.func188 c_slices_ContainsFunc_SS_int64_int64_d hn h
abbrev c_slices_ContainsFunc_impl_Table_impl_Table_0 : List GOp := [oo 4 (.mv (cb  false))]
abbrev c_slices_ContainsFunc_impl_Table_impl_Table_1 : List GOp := [oo 5 (.mv (tt 0)), oo 6 (.mv (tt 1)), oo 7 (.call (ff 232) [tt 5, tt 6]), oo 8 (.bin .geq (tt 7) (ci 0)), oo 4 (.mv (tt 8))]
abbrev c_slices_ContainsFunc_impl_Table_impl_Table : GCode := .seq (.reg c_slices_ContainsFunc_impl_Table_impl_Table_0) (.seq (.reg c_slices_ContainsFunc_impl_Table_impl_Table_1) (.ret))
theorem c_slices_ContainsFunc_impl_Table_impl_Table_d : decFn Tryz.prog Tryz.f195 = some (9, [.t 4], c_slices_ContainsFunc_impl_Table_impl_Table) := by kernel_rfl
theorem c_slices_ContainsFunc_impl_Table_impl_Table_i {args : List Value} {G : GH} {K : Value → GH → Prop} (hn : args.length ≤ 9) (h : gW Tryz.prog c_slices_ContainsFunc_impl_Table_impl_Table (RetK [.t 4] K) (T0 args) G) : GC Tryz.prog 195 args G K := GC_intro mixed Tryz.func195 c_slices_ContainsFunc_impl_Table_impl_Table_d hn h
abbrev c_slices_ContainsFunc_int64_int64_0 : List GOp := [oo 4 (.mv (cb  false))]
abbrev c_slices_ContainsFunc_int64_int64_1 : List GOp := [oo 5 (.mv (tt 0)), oo 6 (.mv (tt 1)), oo 7 (.call (ff 166) [tt 5, tt 6]), oo 8 (.bin .geq (tt 7) (ci 0)), oo 4 (.mv (tt 8))]
abbrev c_slices_ContainsFunc_int64_int64 : GCode := .seq (.reg c_slices_ContainsFunc_int64_int64_0) (.seq (.reg c_slices_ContainsFunc_int64_int64_1) (.ret))
theorem c_slices_ContainsFunc_int64_int64_d : decFn Tryz.prog Tryz.f86 = some (9, [.t 4], c_slices_ContainsFunc_int64_int64) := by kernel_rfl
theorem c_slices_ContainsFunc_int64_int64_i {args : List Value} {G : GH} {K : Value → GH → Prop} (hn : args.length ≤ 9) (h : gW Tryz.prog c_slices_ContainsFunc_int64_int64 (RetK [.t 4] K) (T0 args) G) : GC Tryz.prog 86 args G K := GC_intro mixed Tryz.func86 c_slices_ContainsFunc_int64_int64_d hn h
abbrev c_slices_Contains_int64_int64_0 : List GOp := [oo 4 (.mv (cb  false))]
abbrev c_slices_Contains_int64_int64_1 : List GOp := [oo 5 (.mv (tt 0)), oo 6 (.mv (tt 1)), oo 7 (.call (ff 96) [tt 5, tt 6]), oo 8 (.bin .geq (tt 7) (ci 0)), oo 4 (.mv (tt 8))]
abbrev c_slices_Contains_int64_int64 : GCode := .seq (.reg c_slices_Contains_int64_int64_0) (.seq (.reg c_slices_Contains_int64_int64_1) (.ret))
theorem c_slices_Contains_int64_int64_d : decFn Tryz.prog Tryz.f170 = some (9, [.t 4], c_slices_Contains_int64_int64) := by kernel_rfl
theorem c_slices_Contains_int64_int64_i {args : List Value} {G : GH} {K : Value → GH → Prop} (hn : args.length ≤ 9) (h : gW Tryz.prog c_slices_Contains_int64_int64 (RetK [.t 4] K) (T0 args) G) : GC Tryz.prog 170 args G K := GC_intro mixed Tryz.func170 c_slices_Contains_int64_int64_d hn h
abbrev c_slices_DeleteFunc_int64_int64_0 : List GOp := [oo 4 (.mv (.const (.slice none 0 0)))]
abbrev c_slices_DeleteFunc_int64_int64_1 : List GOp := [oo 8 (.mv (tt 0)), oo 9 (.mv (tt 1)), oo 10 (.call (ff 166) [tt 8, tt 9]), oo 5 (.mv (tt 10))]
abbrev c_slices_DeleteFunc_int64_int64_2 : List GOp := [oo 11 (.mv (tt 5)), oo 12 (.bin .eql (tt 11) (ci (-1)))]
abbrev c_slices_DeleteFunc_int64_int64_3 : List GOp := [oo 13 (.mv (tt 0)), oo 4 (.mv (tt 13))]
abbrev c_slices_DeleteFunc_int64_int64_4 : List GOp := [oo 14 (.mv (tt 5)), oo 15 (.bin .add (tt 14) (ci 1)), oo 6 (.mv (tt 15))]
abbrev c_slices_DeleteFunc_int64_int64_5 : List GOp := [oo 16 (.mv (tt 6)), oo 17 (.mv (tt 0)), oo 18 (.len (tt 17)), oo 19 (.bin .lss (tt 16) (tt 18))]
abbrev c_slices_DeleteFunc_int64_int64_6 : List GOp := [oo 22 (.mv (tt 0)), oo 23 (.mv (tt 6)), oo 24 (.ia 1 (tt 22) (tt 23)), oo 25 (.ld (tt 24)), oo 7 (.mv (tt 25))]
abbrev c_slices_DeleteFunc_int64_int64_7 : List GOp := [oo 26 (.mv (tt 1)), oo 27 (.mv (tt 7)), oo 28 (.call (tt 26) [tt 27]), oo 29 (.un .not (tt 28))]
abbrev c_slices_DeleteFunc_int64_int64_8 : List GOp := [oo 30 (.mv (tt 0)), oo 31 (.mv (tt 5)), oo 32 (.mv (tt 7)), oo 33 (.ia 1 (tt 30) (tt 31)), on (.st 1 (tt 33) (tt 32))]
abbrev c_slices_DeleteFunc_int64_int64_9 : List GOp := [oo 34 (.mv (tt 5)), oo 35 (.bin .add (tt 34) (ci 1)), oo 5 (.mv (tt 35))]
abbrev c_slices_DeleteFunc_int64_int64_10 : List GOp := [oo 20 (.mv (tt 6)), oo 21 (.bin .add (tt 20) (ci 1)), oo 6 (.mv (tt 21))]
abbrev c_slices_DeleteFunc_int64_int64_l0 : GCode := .seq (.seq (.reg c_slices_DeleteFunc_int64_int64_5) (.cond (tt 19) (.skip) (.exit 0))) (.seq (.blk 1 (.seq (.reg c_slices_DeleteFunc_int64_int64_6) (.seq (.reg c_slices_DeleteFunc_int64_int64_7) (.cond (tt 29) (.seq (.reg c_slices_DeleteFunc_int64_int64_8) (.reg c_slices_DeleteFunc_int64_int64_9)) (.skip))))) (.reg c_slices_DeleteFunc_int64_int64_10))
abbrev c_slices_DeleteFunc_int64_int64_12 : List GOp := [oo 36 (.mv (tt 0)), oo 37 (.mv (tt 5)), oo 38 (.sl 1 (tt 36) (some (tt 37)) none), on (.clr 1 [.int .i64 0] (tt 38))]
abbrev c_slices_DeleteFunc_int64_int64_13 : List GOp := [oo 39 (.mv (tt 0)), oo 40 (.mv (tt 5)), oo 41 (.sl 1 (tt 39) none (some (tt 40))), oo 4 (.mv (tt 41))]
abbrev c_slices_DeleteFunc_int64_int64 : GCode := .seq (.reg c_slices_DeleteFunc_int64_int64_0) (.seq (.reg c_slices_DeleteFunc_int64_int64_1) (.seq (.seq (.reg c_slices_DeleteFunc_int64_int64_2) (.cond (tt 12) (.seq (.reg c_slices_DeleteFunc_int64_int64_3) (.ret)) (.skip))) (.seq (.seq (.reg c_slices_DeleteFunc_int64_int64_4) (.blk 0 (.loop c_slices_DeleteFunc_int64_int64_l0))) (.seq (.reg c_slices_DeleteFunc_int64_int64_12) (.seq (.reg c_slices_DeleteFunc_int64_int64_13) (.ret))))))
theorem c_slices_DeleteFunc_int64_int64_d : decFn Tryz.prog Tryz.f173 = some (42, [.t 4], c_slices_DeleteFunc_int64_int64) := by kernel_rfl
theorem c_slices_DeleteFunc_int64_int64_i {args : List Value} {G : GH} {K : Value → GH → Prop} (hn : args.length ≤ 42) (h : gW Tryz.prog c_slices_DeleteFunc_int64_int64 (RetK [.t 4] K) (T0 args) G) : GC Tryz.prog 173 args G K := GC_intro mixed Tryz.func173 c_slices_DeleteFunc_int64_int64_d hn h
abbrev c_slices_EqualFunc_SS_int64_SS_int64_int64_int64_0 : List GOp := [oo 6 (.mv (cb  false))]
abbrev c_slices_EqualFunc_SS_int64_SS_int64_int64_int64_1 : List GOp := [oo 10 (.mv (tt 0)), oo 11 (.len (tt 10)), oo 12 (.mv (tt 1)), oo 13 (.len (tt 12)), oo 14 (.bin .neq (tt 11) (tt 13))]
abbrev c_slices_EqualFunc_SS_int64_SS_int64_int64_int64_2 : List GOp := [oo 6 (.mv (cb  false))]
abbrev c_slices_EqualFunc_SS_int64_SS_int64_int64_int64_3 : List GOp := [oo 15 (.mv (tt 0)), oo 16 (.len (tt 15)), oo 17 (.mv (ci 0))]
abbrev c_slices_EqualFunc_SS_int64_SS_int64_int64_int64_4 : List GOp := [oo 18 (.bin .lss (tt 17) (tt 16))]
abbrev c_slices_EqualFunc_SS_int64_SS_int64_int64_int64_5 : List GOp := [oo 19 (.mv (tt 17)), oo 20 (.ia 1 (tt 15) (tt 17)), oo 21 (.ld (tt 20)), oo 7 (.mv (tt 19)), oo 8 (.mv (tt 21))]
abbrev c_slices_EqualFunc_SS_int64_SS_int64_int64_int64_6 : List GOp := [oo 22 (.mv (tt 1)), oo 23 (.mv (tt 7)), oo 24 (.ia 1 (tt 22) (tt 23)), oo 25 (.ld (tt 24)), oo 9 (.mv (tt 25))]
abbrev c_slices_EqualFunc_SS_int64_SS_int64_int64_int64_7 : List GOp := [oo 26 (.mv (tt 2)), oo 27 (.mv (tt 8)), oo 28 (.mv (tt 9)), oo 29 (.call (tt 26) [tt 27, tt 28]), oo 30 (.un .not (tt 29))]
abbrev c_slices_EqualFunc_SS_int64_SS_int64_int64_int64_8 : List GOp := [oo 6 (.mv (cb  false))]
abbrev c_slices_EqualFunc_SS_int64_SS_int64_int64_int64_9 : List GOp := [oo 31 (.bin .add (tt 17) (ci 1)), oo 17 (.mv (tt 31))]
abbrev c_slices_EqualFunc_SS_int64_SS_int64_int64_int64_l0 : GCode := .seq (.reg c_slices_EqualFunc_SS_int64_SS_int64_int64_int64_4) (.seq (.cond (tt 18) (.skip) (.exit 0)) (.seq (.blk 1 (.seq (.reg c_slices_EqualFunc_SS_int64_SS_int64_int64_int64_5) (.seq (.reg c_slices_EqualFunc_SS_int64_SS_int64_int64_int64_6) (.seq (.reg c_slices_EqualFunc_SS_int64_SS_int64_int64_int64_7) (.cond (tt 30) (.seq (.reg c_slices_EqualFunc_SS_int64_SS_int64_int64_int64_8) (.ret)) (.skip)))))) (.reg c_slices_EqualFunc_SS_int64_SS_int64_int64_int64_9)))
abbrev c_slices_EqualFunc_SS_int64_SS_int64_int64_int64_11 : List GOp := [oo 6 (.mv (cb  true))]
abbrev c_slices_EqualFunc_SS_int64_SS_int64_int64_int64 : GCode := .seq (.reg c_slices_EqualFunc_SS_int64_SS_int64_int64_int64_0) (.seq (.seq (.reg c_slices_EqualFunc_SS_int64_SS_int64_int64_int64_1) (.cond (tt 14) (.seq (.reg c_slices_EqualFunc_SS_int64_SS_int64_int64_int64_2) (.ret)) (.skip))) (.seq (.seq (.reg c_slices_EqualFunc_SS_int64_SS_int64_int64_int64_3) (.blk 0 (.loop c_slices_EqualFunc_SS_int64_SS_int64_int64_int64_l0))) (.seq (.reg c_slices_EqualFunc_SS_int64_SS_int64_int64_int64_11) (.ret))))
theorem c_slices_EqualFunc_SS_int64_SS_int64_int64_int64_d : decFn Tryz.prog Tryz.f294 = some (32, [.t 6], c_slices_EqualFunc_SS_int64_SS_int64_int64_int64) := by kernel_rfl
theorem c_slices_EqualFunc_SS_int64_SS_int64_int64_int64_i {args : List Value} {G : GH} {K : Value → GH → Prop} (hn : args.length ≤ 32) (h : gW Tryz.prog c_slices_EqualFunc_SS_int64_SS_int64_int64_int64 (RetK [.t 6] K) (T0 args) G) : GC Tryz.prog 294 args G K := GC_intro mixed Tryz.func294 c_slices_EqualFunc_SS_int64_SS_int64_int64_int64_d hn h
abbrev c_slices_Equal_int64_int64_0 : List GOp := [oo 4 (.mv (cb  false))]
abbrev c_slices_Equal_int64_int64_1 : List GOp := [oo 6 (.mv (tt 0)), oo 7 (.len (tt 6)), oo 8 (.mv (tt 1)), oo 9 (.len (tt 8)), oo 10 (.bin .neq (tt 7) (tt 9))]
abbrev c_slices_Equal_int64_int64_2 : List GOp := [oo 4 (.mv (cb  false))]
abbrev c_slices_Equal_int64_int64_3 : List GOp := [oo 11 (.mv (tt 0)), oo 12 (.len (tt 11)), oo 13 (.mv (ci 0))]
abbrev c_slices_Equal_int64_int64_4 : List GOp := [oo 14 (.bin .lss (tt 13) (tt 12))]
abbrev c_slices_Equal_int64_int64_5 : List GOp := [oo 15 (.mv (tt 13)), oo 5 (.mv (tt 15))]
abbrev c_slices_Equal_int64_int64_6 : List DOp := [dl 0 (oo 16 (.mv (tt 0))), dl 1 (oo 17 (.mv (tt 5))), dl 2 (oo 18 (.ia 1 (tt 16) (tt 17))), dl 3 (oo 19 (.ld (tt 18))), dl 4 (oo 20 (.mv (tt 1))), dl 5 (oo 21 (.mv (tt 5))), dl 6 (oo 22 (.ia 1 (tt 20) (tt 21))), dl 7 (oo 23 (.ld (tt 22))), dl 8 (oo 24 (.bin .neq (tt 19) (tt 23)))]
abbrev c_slices_Equal_int64_int64_7 : List GOp := [oo 4 (.mv (cb  false))]
abbrev c_slices_Equal_int64_int64_8 : List GOp := [oo 25 (.bin .add (tt 13) (ci 1)), oo 13 (.mv (tt 25))]
abbrev c_slices_Equal_int64_int64_l0 : GCode := .seq (.reg c_slices_Equal_int64_int64_4) (.seq (.cond (tt 14) (.skip) (.exit 0)) (.seq (.blk 1 (.seq (.reg c_slices_Equal_int64_int64_5) (.seq (.dreg c_slices_Equal_int64_int64_6) (.cond (tt 24) (.seq (.reg c_slices_Equal_int64_int64_7) (.ret)) (.skip))))) (.reg c_slices_Equal_int64_int64_8)))
abbrev c_slices_Equal_int64_int64_10 : List GOp := [oo 4 (.mv (cb  true))]
abbrev c_slices_Equal_int64_int64 : GCode := .seq (.reg c_slices_Equal_int64_int64_0) (.seq (.seq (.reg c_slices_Equal_int64_int64_1) (.cond (tt 10) (.seq (.reg c_slices_Equal_int64_int64_2) (.ret)) (.skip))) (.seq (.seq (.reg c_slices_Equal_int64_int64_3) (.blk 0 (.loop c_slices_Equal_int64_int64_l0))) (.seq (.reg c_slices_Equal_int64_int64_10) (.ret))))
theorem c_slices_Equal_int64_int64_d : decFn Tryz.prog Tryz.f185 = some (26, [.t 4], c_slices_Equal_int64_int64) := by kernel_rfl
theorem c_slices_Equal_int64_int64_i {args : List Value} {G : GH} {K : Value → GH → Prop} (hn : args.length ≤ 26) (h : gW Tryz.prog c_slices_Equal_int64_int64 (RetK [.t 4] K) (T0 args) G) : GC Tryz.prog 185 args G K := GC_intro mixed Tryz.func185 c_slices_Equal_int64_int64_d hn h
abbrev c_slices_Grow_int64_int64_0 : List GOp := [oo 4 (.mv (.const (.slice none 0 0)))]
abbrev c_slices_Grow_int64_int64_1 : List GOp := [oo 5 (.mv (tt 1)), oo 6 (.bin .lss (tt 5) (ci 0))]
abbrev c_slices_Grow_int64_int64_2 : List GOp := [oo 7 (.mi 9 (.const (.string ⟨#[99, 97, 110, 110, 111, 116, 32, 98, 101, 32, 110, 101, 103, 97, 116, 105, 118, 101]⟩))), on (.bad)]
abbrev c_slices_Grow_int64_int64_3 : List GOp := [oo 8 (.mv (tt 1)), oo 9 (.mv (tt 0)), oo 10 (.cap (tt 9)), oo 11 (.mv (tt 0)), oo 12 (.len (tt 11)), oo 13 (.bin .sub (tt 10) (tt 12)), oo 14 (.bin .sub (tt 8) (tt 13)), oo 1 (.mv (tt 14))]
abbrev c_slices_Grow_int64_int64_4 : List GOp := [oo 15 (.mv (tt 1)), oo 16 (.bin .gtr (tt 15) (ci 0))]
abbrev c_slices_Grow_int64_int64_5 : List GOp := [oo 17 (.mv (tt 0)), oo 18 (.mv (tt 0)), oo 19 (.cap (tt 18)), oo 20 (.sl 1 (tt 17) none (some (tt 19))), oo 21 (.mv (tt 1)), oo 22 (.apz 1 8 [.int .i64 0] (tt 20) (tt 21)), oo 23 (.mv (tt 0)), oo 24 (.len (tt 23)), oo 25 (.sl 1 (tt 22) none (some (tt 24))), oo 0 (.mv (tt 25))]
abbrev c_slices_Grow_int64_int64_6 : List GOp := [oo 26 (.mv (tt 0)), oo 4 (.mv (tt 26))]
abbrev c_slices_Grow_int64_int64 : GCode := .seq (.reg c_slices_Grow_int64_int64_0) (.seq (.seq (.reg c_slices_Grow_int64_int64_1) (.cond (tt 6) (.reg c_slices_Grow_int64_int64_2) (.skip))) (.seq (.seq (.reg c_slices_Grow_int64_int64_3) (.seq (.reg c_slices_Grow_int64_int64_4) (.cond (tt 16) (.reg c_slices_Grow_int64_int64_5) (.skip)))) (.seq (.reg c_slices_Grow_int64_int64_6) (.ret))))
theorem c_slices_Grow_int64_int64_d : decFn Tryz.prog Tryz.f183 = some (27, [.t 4], c_slices_Grow_int64_int64) := by kernel_rfl
theorem c_slices_Grow_int64_int64_i {args : List Value} {G : GH} {K : Value → GH → Prop} (hn : args.length ≤ 27) (h : gW Tryz.prog c_slices_Grow_int64_int64 (RetK [.t 4] K) (T0 args) G) : GC Tryz.prog 183 args G K := GC_intro mixed Tryz.func183 c_slices_Grow_int64_int64_d hn h
abbrev c_slices_IndexFunc_SS_int64_int64_0 : List GOp := [oo 4 (.mv (ci 0))]
abbrev c_slices_IndexFunc_SS_int64_int64_1 : List GOp := [oo 6 (.mv (tt 0)), oo 7 (.len (tt 6)), oo 8 (.mv (ci 0))]
abbrev c_slices_IndexFunc_SS_int64_int64_2 : List GOp := [oo 9 (.bin .lss (tt 8) (tt 7))]
abbrev c_slices_IndexFunc_SS_int64_int64_3 : List GOp := [oo 10 (.mv (tt 8)), oo 5 (.mv (tt 10))]
abbrev c_slices_IndexFunc_SS_int64_int64_4 : List GOp := [oo 11 (.mv (tt 1)), oo 12 (.mv (tt 0)), oo 13 (.mv (tt 5)), oo 14 (.ia 1 (tt 12) (tt 13)), oo 15 (.ld (tt 14)), oo 16 (.call (tt 11) [tt 15])]
abbrev c_slices_IndexFunc_SS_int64_int64_5 : List GOp := [oo 17 (.mv (tt 5)), oo 4 (.mv (tt 17))]
abbrev c_slices_IndexFunc_SS_int64_int64_6 : List GOp := [oo 18 (.bin .add (tt 8) (ci 1)), oo 8 (.mv (tt 18))]
abbrev c_slices_IndexFunc_SS_int64_int64_l0 : GCode := .seq (.reg c_slices_IndexFunc_SS_int64_int64_2) (.seq (.cond (tt 9) (.skip) (.exit 0)) (.seq (.blk 1 (.seq (.reg c_slices_IndexFunc_SS_int64_int64_3) (.seq (.reg c_slices_IndexFunc_SS_int64_int64_4) (.cond (tt 16) (.seq (.reg c_slices_IndexFunc_SS_int64_int64_5) (.ret)) (.skip))))) (.reg c_slices_IndexFunc_SS_int64_int64_6)))
abbrev c_slices_IndexFunc_SS_int64_int64_8 : List GOp := [oo 4 (.mv (ci (-1)))]
abbrev c_slices_IndexFunc_SS_int64_int64 : GCode := .seq (.reg c_slices_IndexFunc_SS_int64_int64_0) (.seq (.seq (.reg c_slices_IndexFunc_SS_int64_int64_1) (.blk 0 (.loop c_slices_IndexFunc_SS_int64_int64_l0))) (.seq (.reg c_slices_IndexFunc_SS_int64_int64_8) (.ret)))
theorem c_slices_IndexFunc_SS_int64_int64_d : decFn Tryz.prog Tryz.f230 = some (19, [.t 4], c_slices_IndexFunc_SS_int64_int64) := by kernel_rfl
theorem c_slices_IndexFunc_SS_int64_int64_i {args : List Value} {G : GH} {K : Value → GH → Prop} (hn : args.length ≤ 19) (h : gW Tryz.prog c_slices_IndexFunc_SS_int64_int64 (RetK [.t 4] K) (T0 args) G) : GC Tryz.prog 230 args G K := GC_intro mixed Tryz.func230 c_slices_IndexFunc_SS_int64_int64_d hn h
abbrev c_slices_IndexFunc_impl_Table_impl_Table_0 : List GOp := [oo 4 (.mv (ci 0))]
abbrev c_slices_IndexFunc_impl_Table_impl_Table_1 : List GOp := [oo 6 (.mv (tt 0)), oo 7 (.len (tt 6)), oo 8 (.mv (ci 0))]
abbrev c_slices_IndexFunc_impl_Table_impl_Table_2 : List GOp := [oo 9 (.bin .lss (tt 8) (tt 7))]
abbrev c_slices_IndexFunc_impl_Table_impl_Table_3 : List GOp := [oo 10 (.mv (tt 8)), oo 5 (.mv (tt 10))]
abbrev c_slices_IndexFunc_impl_Table_impl_Table_4 : List GOp := [oo 11 (.mv (tt 1)), oo 12 (.mv (tt 0)), oo 13 (.mv (tt 5)), oo 14 (.ia 2 (tt 12) (tt 13)), oo 15 (.ldn 2 (tt 14)), oo 16 (.call (tt 11) [tt 15])]
abbrev c_slices_IndexFunc_impl_Table_impl_Table_5 : List GOp := [oo 17 (.mv (tt 5)), oo 4 (.mv (tt 17))]
abbrev c_slices_IndexFunc_impl_Table_impl_Table_6 : List GOp := [oo 18 (.bin .add (tt 8) (ci 1)), oo 8 (.mv (tt 18))]
abbrev c_slices_IndexFunc_impl_Table_impl_Table_l0 : GCode := .seq (.reg c_slices_IndexFunc_impl_Table_impl_Table_2) (.seq (.cond (tt 9) (.skip) (.exit 0)) (.seq (.blk 1 (.seq (.reg c_slices_IndexFunc_impl_Table_impl_Table_3) (.seq (.reg c_slices_IndexFunc_impl_Table_impl_Table_4) (.cond (tt 16) (.seq (.reg c_slices_IndexFunc_impl_Table_impl_Table_5) (.ret)) (.skip))))) (.reg c_slices_IndexFunc_impl_Table_impl_Table_6)))
abbrev c_slices_IndexFunc_impl_Table_impl_Table_8 : List GOp := [oo 4 (.mv (ci (-1)))]
abbrev c_slices_IndexFunc_impl_Table_impl_Table : GCode := .seq (.reg c_slices_IndexFunc_impl_Table_impl_Table_0) (.seq (.seq (.reg c_slices_IndexFunc_impl_Table_impl_Table_1) (.blk 0 (.loop c_slices_IndexFunc_impl_Table_impl_Table_l0))) (.seq (.reg c_slices_IndexFunc_impl_Table_impl_Table_8) (.ret)))
theorem c_slices_IndexFunc_impl_Table_impl_Table_d : decFn Tryz.prog Tryz.f232 = some (19, [.t 4], c_slices_IndexFunc_impl_Table_impl_Table) := by kernel_rfl
theorem c_slices_IndexFunc_impl_Table_impl_Table_i {args : List Value} {G : GH} {K : Value → GH → Prop} (hn : args.length ≤ 19) (h : gW Tryz.prog c_slices_IndexFunc_impl_Table_impl_Table (RetK [.t 4] K) (T0 args) G) : GC Tryz.prog 232 args G K := GC_intro mixed Tryz.func232 c_slices_IndexFunc_impl_Table_impl_Table_d hn h
abbrev c_slices_IndexFunc_int64_int64_0 : List GOp := [oo 4 (.mv (ci 0))]
abbrev c_slices_IndexFunc_int64_int64_1 : List GOp := [oo 6 (.mv (tt 0)), oo 7 (.len (tt 6)), oo 8 (.mv (ci 0))]
abbrev c_slices_IndexFunc_int64_int64_2 : List GOp := [oo 9 (.bin .lss (tt 8) (tt 7))]
abbrev c_slices_IndexFunc_int64_int64_3 : List GOp := [oo 10 (.mv (tt 8)), oo 5 (.mv (tt 10))]
abbrev c_slices_IndexFunc_int64_int64_4 : List GOp := [oo 11 (.mv (tt 1)), oo 12 (.mv (tt 0)), oo 13 (.mv (tt 5)), oo 14 (.ia 1 (tt 12) (tt 13)), oo 15 (.ld (tt 14)), oo 16 (.call (tt 11) [tt 15])]
abbrev c_slices_IndexFunc_int64_int64_5 : List GOp := [oo 17 (.mv (tt 5)), oo 4 (.mv (tt 17))]
abbrev c_slices_IndexFunc_int64_int64_6 : List GOp := [oo 18 (.bin .add (tt 8) (ci 1)), oo 8 (.mv (tt 18))]
abbrev c_slices_IndexFunc_int64_int64_l0 : GCode := .seq (.reg c_slices_IndexFunc_int64_int64_2) (.seq (.cond (tt 9) (.skip) (.exit 0)) (.seq (.blk 1 (.seq (.reg c_slices_IndexFunc_int64_int64_3) (.seq (.reg c_slices_IndexFunc_int64_int64_4) (.cond (tt 16) (.seq (.reg c_slices_IndexFunc_int64_int64_5) (.ret)) (.skip))))) (.reg c_slices_IndexFunc_int64_int64_6)))
abbrev c_slices_IndexFunc_int64_int64_8 : List GOp := [oo 4 (.mv (ci (-1)))]
abbrev c_slices_IndexFunc_int64_int64 : GCode := .seq (.reg c_slices_IndexFunc_int64_int64_0) (.seq (.seq (.reg c_slices_IndexFunc_int64_int64_1) (.blk 0 (.loop c_slices_IndexFunc_int64_int64_l0))) (.seq (.reg c_slices_IndexFunc_int64_int64_8) (.ret)))
theorem c_slices_IndexFunc_int64_int64_d : decFn Tryz.prog Tryz.f166 = some (19, [.t 4], c_slices_IndexFunc_int64_int64) := by kernel_rfl
theorem c_slices_IndexFunc_int64_int64_i {args : List Value} {G : GH} {K : Value → GH → Prop} (hn : args.length ≤ 19) (h : gW Tryz.prog c_slices_IndexFunc_int64_int64 (RetK [.t 4] K) (T0 args) G) : GC Tryz.prog 166 args G K := GC_intro mixed Tryz.func166 c_slices_IndexFunc_int64_int64_d hn h
abbrev c_slices_Index_int64_int64_0 : List GOp := [oo 4 (.mv (ci 0))]
abbrev c_slices_Index_int64_int64_1 : List GOp := [oo 6 (.mv (tt 0)), oo 7 (.len (tt 6)), oo 8 (.mv (ci 0))]
abbrev c_slices_Index_int64_int64_2 : List GOp := [oo 9 (.bin .lss (tt 8) (tt 7))]
abbrev c_slices_Index_int64_int64_3 : List GOp := [oo 10 (.mv (tt 8)), oo 5 (.mv (tt 10))]
abbrev c_slices_Index_int64_int64_4 : List GOp := [oo 11 (.mv (tt 1)), oo 12 (.mv (tt 0)), oo 13 (.mv (tt 5)), oo 14 (.ia 1 (tt 12) (tt 13)), oo 15 (.ld (tt 14)), oo 16 (.bin .eql (tt 11) (tt 15))]
abbrev c_slices_Index_int64_int64_5 : List GOp := [oo 17 (.mv (tt 5)), oo 4 (.mv (tt 17))]
abbrev c_slices_Index_int64_int64_6 : List GOp := [oo 18 (.bin .add (tt 8) (ci 1)), oo 8 (.mv (tt 18))]
abbrev c_slices_Index_int64_int64_l0 : GCode := .seq (.reg c_slices_Index_int64_int64_2) (.seq (.cond (tt 9) (.skip) (.exit 0)) (.seq (.blk 1 (.seq (.reg c_slices_Index_int64_int64_3) (.seq (.reg c_slices_Index_int64_int64_4) (.cond (tt 16) (.seq (.reg c_slices_Index_int64_int64_5) (.ret)) (.skip))))) (.reg c_slices_Index_int64_int64_6)))
abbrev c_slices_Index_int64_int64_8 : List GOp := [oo 4 (.mv (ci (-1)))]
abbrev c_slices_Index_int64_int64 : GCode := .seq (.reg c_slices_Index_int64_int64_0) (.seq (.seq (.reg c_slices_Index_int64_int64_1) (.blk 0 (.loop c_slices_Index_int64_int64_l0))) (.seq (.reg c_slices_Index_int64_int64_8) (.ret)))
theorem c_slices_Index_int64_int64_d : decFn Tryz.prog Tryz.f96 = some (19, [.t 4], c_slices_Index_int64_int64) := by kernel_rfl
theorem c_slices_Index_int64_int64_i {args : List Value} {G : GH} {K : Value → GH → Prop} (hn : args.length ≤ 19) (h : gW Tryz.prog c_slices_Index_int64_int64 (RetK [.t 4] K) (T0 args) G) : GC Tryz.prog 96 args G K := GC_intro mixed Tryz.func96 c_slices_Index_int64_int64_d hn h
abbrev c_spec_DrawJoinTables_0 : List GOp := [oo 2 (.al [.slice none 0 0, .slice none 0 0]), oo 3 (.al [.slice none 0 0, .slice none 0 0])]
abbrev c_spec_DrawJoinTables_1 : List GOp := [oo 6 (.mv (tt 0)), oo 7 (.call (ff 54) [tt 6]), oo 4 (.mv (tt 7))]
abbrev c_spec_DrawJoinTables_2 : List GOp := [oo 8 (.mv (tt 4)), oo 9 (.mv (tt 4)), oo 10 (.call (ff 102) [tt 9]), oo 11 (.call (ff 101) [tt 8, tt 10]), oo 5 (.al [.slice none 0 0, .slice none 0 0]), on (.st 2 (tt 5) (tt 11))]
abbrev c_spec_DrawJoinTables_3 : List DOp := [dl 0 (oo 12 (.ldn 2 (tt 5))), dl 1 (oo 13 (.mv (tt 4))), dl 2 (oo 14 (.mv (tt 4))), dh 3 [0] (oo 15 (.call (ff 102) [tt 14])), dh 4 [0] (oo 16 (.call (ff 101) [tt 13, tt 15])), dh 5 [] (on (.st 2 (tt 2) (tt 12))), dh 6 [] (on (.st 2 (tt 3) (tt 16)))]
abbrev c_spec_DrawJoinTables : GCode := .seq (.reg c_spec_DrawJoinTables_0) (.seq (.reg c_spec_DrawJoinTables_1) (.seq (.reg c_spec_DrawJoinTables_2) (.seq (.dreg c_spec_DrawJoinTables_3) (.ret))))
theorem c_spec_DrawJoinTables_d : decFn Tryz.prog Tryz.f44 = some (17, [.cn 2 2, .cn 3 2], c_spec_DrawJoinTables) := by kernel_rfl
theorem c_spec_DrawJoinTables_i {args : List Value} {G : GH} {K : Value → GH → Prop} (hn : args.length ≤ 17) (h : gW Tryz.prog c_spec_DrawJoinTables (RetK [.cn 2 2, .cn 3 2] K) (T0 args) G) : GC Tryz.prog 44 args G K := GC_intro mixed Tryz.func44 c_spec_DrawJoinTables_d hn h
abbrev c_spec_DrawReduceTables_0 : List GOp := [oo 2 (.mv (.const (.slice none 0 0)))]
abbrev c_spec_DrawReduceTables_1 : List GOp := [oo 4 (.mv (tt 0)), oo 5 (.call (ff 54) [tt 4]), oo 3 (.mv (tt 5))]
abbrev c_spec_DrawReduceTables_2 : List GOp := [oo 6 (.mv (tt 3)), oo 7 (.call (ff 115) [tt 6]), oo 2 (.mv (tt 7))]
abbrev c_spec_DrawReduceTables : GCode := .seq (.reg c_spec_DrawReduceTables_0) (.seq (.reg c_spec_DrawReduceTables_1) (.seq (.reg c_spec_DrawReduceTables_2) (.ret)))
theorem c_spec_DrawReduceTables_d : decFn Tryz.prog Tryz.f50 = some (8, [.t 2], c_spec_DrawReduceTables) := by kernel_rfl
theorem c_spec_DrawReduceTables_i {args : List Value} {G : GH} {K : Value → GH → Prop} (hn : args.length ≤ 8) (h : gW Tryz.prog c_spec_DrawReduceTables (RetK [.t 2] K) (T0 args) G) : GC Tryz.prog 50 args G K := GC_intro mixed Tryz.func50 c_spec_DrawReduceTables_d hn h
abbrev c_spec_SameTable_0 : List GOp := [oo 2 (.bx (tt 0)), oo 3 (.bx (tt 1)), oo 4 (.mv (cb  false))]
abbrev c_spec_SameTable_1 : List GOp := [oo 5 (.call (ff 114) [tt 2, tt 3]), oo 4 (.mv (tt 5))]
abbrev c_spec_SameTable : GCode := .seq (.reg c_spec_SameTable_0) (.seq (.reg c_spec_SameTable_1) (.ret))
theorem c_spec_SameTable_d : decFn Tryz.prog Tryz.f49 = some (6, [.t 4], c_spec_SameTable) := by kernel_rfl
theorem c_spec_SameTable_i {args : List Value} {G : GH} {K : Value → GH → Prop} (hn : args.length ≤ 6) (h : gW Tryz.prog c_spec_SameTable (RetK [.t 4] K) (T0 args) G) : GC Tryz.prog 49 args G K := GC_intro mixed Tryz.func49 c_spec_SameTable_d hn h
abbrev c_spec_ValidTable_0 : List GOp := [oo 1 (.bx (tt 0)), oo 2 (.mv (cb  false))]
abbrev c_spec_ValidTable_1 : List GOp := [oo 3 (.call (ff 113) [tt 1]), oo 2 (.mv (tt 3))]
abbrev c_spec_ValidTable : GCode := .seq (.reg c_spec_ValidTable_0) (.seq (.reg c_spec_ValidTable_1) (.ret))
theorem c_spec_ValidTable_d : decFn Tryz.prog Tryz.f48 = some (4, [.t 2], c_spec_ValidTable) := by kernel_rfl
theorem c_spec_ValidTable_i {args : List Value} {G : GH} {K : Value → GH → Prop} (hn : args.length ≤ 4) (h : gW Tryz.prog c_spec_ValidTable (RetK [.t 2] K) (T0 args) G) : GC Tryz.prog 48 args G K := GC_intro mixed Tryz.func48 c_spec_ValidTable_d hn h
abbrev c_spec_ValidTables_0 : List GOp := [oo 2 (.mv (cb  false))]
abbrev c_spec_ValidTables_1 : List GOp := [oo 3 (.mv (tt 0)), oo 4 (.call (ff 119) [tt 3]), oo 2 (.mv (tt 4))]
abbrev c_spec_ValidTables : GCode := .seq (.reg c_spec_ValidTables_0) (.seq (.reg c_spec_ValidTables_1) (.ret))
theorem c_spec_ValidTables_d : decFn Tryz.prog Tryz.f52 = some (5, [.t 2], c_spec_ValidTables) := by kernel_rfl
theorem c_spec_ValidTables_i {args : List Value} {G : GH} {K : Value → GH → Prop} (hn : args.length ≤ 5) (h : gW Tryz.prog c_spec_ValidTables (RetK [.t 2] K) (T0 args) G) : GC Tryz.prog 52 args G K := GC_intro mixed Tryz.func52 c_spec_ValidTables_d hn h
abbrev c_spec_l00From_0 : List GOp := [oo 2 (.mv (.const (.pointer none)))]
abbrev c_spec_l00From_1 : List GOp := [oo 3 (.mv (tt 0)), oo 4 (.bld [.slice none 0 0, .int .i64 0, .int .u64 0] [(0, 1, (tt 3))]), oo 5 (.bx (tt 4)), oo 2 (.mv (tt 5))]
abbrev c_spec_l00From : GCode := .seq (.reg c_spec_l00From_0) (.seq (.reg c_spec_l00From_1) (.ret))
theorem c_spec_l00From_d : decFn Tryz.prog Tryz.f54 = some (6, [.t 2], c_spec_l00From) := by kernel_rfl
theorem c_spec_l00From_i {args : List Value} {G : GH} {K : Value → GH → Prop} (hn : args.length ≤ 6) (h : gW Tryz.prog c_spec_l00From (RetK [.t 2] K) (T0 args) G) : GC Tryz.prog 54 args G K := GC_intro mixed Tryz.func54 c_spec_l00From_d hn h
abbrev c_spec_l00In_0 : List GOp := [oo 6 (.mv (cb  false))]
abbrev c_spec_l00In_1 : List GOp := [oo 7 (.mv (tt 0)), oo 8 (.mv (tt 1)), oo 9 (.bin .geq (tt 7) (tt 8)), oo 10 (.mv (tt 9)), og 11 10 true (.mv (tt 0)), og 12 10 true (.mv (tt 2)), og 13 10 true (.bin .leq (tt 11) (tt 12)), oo 14 (.pick (tt 10) (tt 13) (cb  false)), oo 6 (.mv (tt 14))]
abbrev c_spec_l00In : GCode := .seq (.reg c_spec_l00In_0) (.seq (.reg c_spec_l00In_1) (.ret))
theorem c_spec_l00In_d : decFn Tryz.prog Tryz.f132 = some (15, [.t 6], c_spec_l00In) := by kernel_rfl
theorem c_spec_l00In_i {args : List Value} {G : GH} {K : Value → GH → Prop} (hn : args.length ≤ 15) (h : gW Tryz.prog c_spec_l00In (RetK [.t 6] K) (T0 args) G) : GC Tryz.prog 132 args G K := GC_intro mixed Tryz.func132 c_spec_l00In_d hn h
abbrev c_spec_l00Own_0 : List GOp := [oo 2 (.mv (.const (.slice none 0 0)))]
abbrev c_spec_l00Own_1 : List GOp := [oo 3 (.bs 1 []), oo 4 (.mv (tt 0)), oo 5 (.ap 1 8 [.int .i64 0] (tt 3) (tt 4)), oo 2 (.mv (tt 5))]
abbrev c_spec_l00Own : GCode := .seq (.reg c_spec_l00Own_0) (.seq (.reg c_spec_l00Own_1) (.ret))
theorem c_spec_l00Own_d : decFn Tryz.prog Tryz.f73 = some (6, [.t 2], c_spec_l00Own) := by kernel_rfl
theorem c_spec_l00Own_i {args : List Value} {G : GH} {K : Value → GH → Prop} (hn : args.length ≤ 6) (h : gW Tryz.prog c_spec_l00Own (RetK [.t 2] K) (T0 args) G) : GC Tryz.prog 73 args G K := GC_intro mixed Tryz.func73 c_spec_l00Own_d hn h
abbrev c_spec_l00Rises_0 : List GOp := [oo 6 (.mv (cb  false))]
abbrev c_spec_l00Rises_1 : List GOp := [oo 7 (.mv (ci 0))]
abbrev c_spec_l00Rises_2 : List GOp := [oo 8 (.mv (tt 7)), oo 9 (.mv (tt 0)), oo 10 (.len (tt 9)), oo 11 (.bin .lss (tt 8) (tt 10))]
abbrev c_spec_l00Rises_3 : List DOp := [dl 0 (oo 14 (.mv (tt 0))), dl 1 (oo 15 (.mv (tt 7))), dl 2 (oo 16 (.ia 1 (tt 14) (tt 15))), dl 3 (oo 17 (.ld (tt 16))), dl 4 (oo 18 (.mv (tt 1))), dl 5 (oo 19 (.mv (tt 2))), dh 6 [] (oo 20 (.call (ff 132) [tt 17, tt 18, tt 19])), dl 7 (oo 21 (.un .not (tt 20))), dl 8 (oo 22 (.mv (tt 21))), dl 9 (og 23 22 false (.mv (tt 7))), dl 10 (og 24 22 false (.bin .gtr (tt 23) (ci 0))), dl 11 (og 25 22 false (.mv (tt 24))), dl 12 (og 26 25 true (.mv (tt 0))), dl 13 (og 27 25 true (.mv (tt 7))), dl 14 (og 28 25 true (.bin .sub (tt 27) (ci 1))), dl 15 (og 29 25 true (.ia 1 (tt 26) (tt 28))), dl 16 (og 30 25 true (.ld (tt 29))), dl 17 (og 31 25 true (.mv (tt 0))), dl 18 (og 32 25 true (.mv (tt 7))), dl 19 (og 33 25 true (.ia 1 (tt 31) (tt 32))), dl 20 (og 34 25 true (.ld (tt 33))), dl 21 (og 35 25 true (.bin .geq (tt 30) (tt 34))), dl 22 (og 36 22 false (.pick (tt 25) (tt 35) (cb  false))), dl 23 (oo 37 (.pick (tt 22) (cb  true) (tt 36)))]
abbrev c_spec_l00Rises_4 : List GOp := [oo 6 (.mv (cb  false))]
abbrev c_spec_l00Rises_5 : List GOp := [oo 12 (.mv (tt 7)), oo 13 (.bin .add (tt 12) (ci 1)), oo 7 (.mv (tt 13))]
abbrev c_spec_l00Rises_l0 : GCode := .seq (.seq (.reg c_spec_l00Rises_2) (.cond (tt 11) (.skip) (.exit 0))) (.seq (.blk 1 (.seq (.dreg c_spec_l00Rises_3) (.cond (tt 37) (.seq (.reg c_spec_l00Rises_4) (.ret)) (.skip)))) (.reg c_spec_l00Rises_5))
abbrev c_spec_l00Rises_7 : List GOp := [oo 6 (.mv (cb  true))]
abbrev c_spec_l00Rises : GCode := .seq (.reg c_spec_l00Rises_0) (.seq (.seq (.reg c_spec_l00Rises_1) (.blk 0 (.loop c_spec_l00Rises_l0))) (.seq (.reg c_spec_l00Rises_7) (.ret)))
theorem c_spec_l00Rises_d : decFn Tryz.prog Tryz.f157 = some (38, [.t 6], c_spec_l00Rises) := by kernel_rfl
theorem c_spec_l00Rises_i {args : List Value} {G : GH} {K : Value → GH → Prop} (hn : args.length ≤ 38) (h : gW Tryz.prog c_spec_l00Rises (RetK [.t 6] K) (T0 args) G) : GC Tryz.prog 157 args G K := GC_intro mixed Tryz.func157 c_spec_l00Rises_d hn h
abbrev c_spec_l00Same_0 : List GOp := [oo 4 (.mv (cb  false))]
abbrev c_spec_l00Same_1 : List GOp := [oo 6 (.mv (tt 0)), oo 7 (.len (tt 6)), oo 8 (.mv (tt 1)), oo 9 (.len (tt 8)), oo 10 (.bin .neq (tt 7) (tt 9))]
abbrev c_spec_l00Same_2 : List GOp := [oo 4 (.mv (cb  false))]
abbrev c_spec_l00Same_3 : List GOp := [oo 5 (.mv (ci 0))]
abbrev c_spec_l00Same_4 : List GOp := [oo 11 (.mv (tt 5)), oo 12 (.mv (tt 0)), oo 13 (.len (tt 12)), oo 14 (.bin .lss (tt 11) (tt 13))]
abbrev c_spec_l00Same_5 : List DOp := [dl 0 (oo 17 (.mv (tt 0))), dl 1 (oo 18 (.mv (tt 5))), dl 2 (oo 19 (.ia 1 (tt 17) (tt 18))), dl 3 (oo 20 (.ld (tt 19))), dl 4 (oo 21 (.mv (tt 1))), dl 5 (oo 22 (.mv (tt 5))), dl 6 (oo 23 (.ia 1 (tt 21) (tt 22))), dl 7 (oo 24 (.ld (tt 23))), dl 8 (oo 25 (.bin .neq (tt 20) (tt 24)))]
abbrev c_spec_l00Same_6 : List GOp := [oo 4 (.mv (cb  false))]
abbrev c_spec_l00Same_7 : List GOp := [oo 15 (.mv (tt 5)), oo 16 (.bin .add (tt 15) (ci 1)), oo 5 (.mv (tt 16))]
abbrev c_spec_l00Same_l0 : GCode := .seq (.seq (.reg c_spec_l00Same_4) (.cond (tt 14) (.skip) (.exit 0))) (.seq (.blk 1 (.seq (.dreg c_spec_l00Same_5) (.cond (tt 25) (.seq (.reg c_spec_l00Same_6) (.ret)) (.skip)))) (.reg c_spec_l00Same_7))
abbrev c_spec_l00Same_9 : List GOp := [oo 4 (.mv (cb  true))]
abbrev c_spec_l00Same : GCode := .seq (.reg c_spec_l00Same_0) (.seq (.seq (.reg c_spec_l00Same_1) (.cond (tt 10) (.seq (.reg c_spec_l00Same_2) (.ret)) (.skip))) (.seq (.seq (.reg c_spec_l00Same_3) (.blk 0 (.loop c_spec_l00Same_l0))) (.seq (.reg c_spec_l00Same_9) (.ret))))
theorem c_spec_l00Same_d : decFn Tryz.prog Tryz.f192 = some (26, [.t 4], c_spec_l00Same) := by kernel_rfl
theorem c_spec_l00Same_i {args : List Value} {G : GH} {K : Value → GH → Prop} (hn : args.length ≤ 26) (h : gW Tryz.prog c_spec_l00Same (RetK [.t 4] K) (T0 args) G) : GC Tryz.prog 192 args G K := GC_intro mixed Tryz.func192 c_spec_l00Same_d hn h
abbrev c_spec_l00Src_among_0 : List GOp := [oo 4 (.mv (ci 0))]
abbrev c_spec_l00Src_among_1 : List GOp := [oo 5 (.mv (tt 1)), oo 6 (.mv (tt 0)), oo 7 (.mv (tt 1)), oo 8 (.len (tt 7)), oo 9 (.call (ff 61) [tt 6, tt 8]), oo 10 (.ia 1 (tt 5) (tt 9)), oo 11 (.ld (tt 10)), oo 4 (.mv (tt 11))]
abbrev c_spec_l00Src_among : GCode := .seq (.reg c_spec_l00Src_among_0) (.seq (.reg c_spec_l00Src_among_1) (.ret))
theorem c_spec_l00Src_among_d : decFn Tryz.prog Tryz.f122 = some (12, [.t 4], c_spec_l00Src_among) := by kernel_rfl
theorem c_spec_l00Src_among_i {args : List Value} {G : GH} {K : Value → GH → Prop} (hn : args.length ≤ 12) (h : gW Tryz.prog c_spec_l00Src_among (RetK [.t 4] K) (T0 args) G) : GC Tryz.prog 122 args G K := GC_intro mixed Tryz.func122 c_spec_l00Src_among_d hn h
abbrev c_spec_l00Src_next_0 : List GOp := [oo 2 (.mv (ci 0))]
abbrev c_spec_l00Src_next_1 : List GOp := [oo 3 (.mv (ci 0))]
abbrev c_spec_l00Src_next_2 : List DOp := [dl 0 (oo 4 (.mv (tt 0))), dl 1 (oo 5 (.nc (tt 4))), dl 2 (oo 6 (.fa 1 (tt 5))), dl 3 (oo 7 (.ld (tt 6))), dl 4 (oo 8 (.mv (tt 0))), dl 5 (oo 9 (.nc (tt 8))), dl 6 (oo 10 (.fa 0 (tt 9))), dl 7 (oo 11 (.ld (tt 10))), dl 8 (oo 12 (.len (tt 11))), dl 9 (oo 13 (.bin .lss (tt 7) (tt 12)))]
abbrev c_spec_l00Src_next_3 : List DOp := [dl 0 (oo 14 (.mv (tt 0))), dl 1 (oo 15 (.nc (tt 14))), dl 2 (oo 16 (.fa 0 (tt 15))), dl 3 (oo 17 (.ld (tt 16))), dl 4 (oo 18 (.mv (tt 0))), dl 5 (oo 19 (.nc (tt 18))), dl 6 (oo 20 (.fa 1 (tt 19))), dl 7 (oo 21 (.ld (tt 20))), dl 8 (oo 22 (.ia 1 (tt 17) (tt 21))), dl 9 (oo 23 (.ld (tt 22))), dl 10 (oo 24 (.cvi .i64 (tt 23))), dl 11 (oo 3 (.mv (tt 24)))]
abbrev c_spec_l00Src_next_4 : List GOp := [oo 25 (.mv (tt 0)), oo 26 (.nc (tt 25)), oo 27 (.fa 1 (tt 26)), oo 28 (.ld (tt 27)), oo 29 (.bin .add (tt 28) (ci 1)), oo 30 (.nc (tt 25)), oo 31 (.fa 1 (tt 30)), on (.st 1 (tt 31) (tt 29))]
abbrev c_spec_l00Src_next_5 : List GOp := [oo 32 (.mv (tt 0)), oo 33 (.mv (tt 0)), oo 34 (.nc (tt 33)), oo 35 (.fa 2 (tt 34)), oo 36 (.ld (tt 35)), oo 37 (.bin .mul (tt 36) (.const (.int .u64 6364136223846793005))), oo 38 (.mv (tt 3)), oo 39 (.cvi .u64 (tt 38)), oo 40 (.bin .add (tt 37) (tt 39)), oo 41 (.bin .add (tt 40) (.const (.int .u64 1442695040888963407))), oo 42 (.nc (tt 32)), oo 43 (.fa 2 (tt 42)), on (.st 1 (tt 43) (tt 41))]
abbrev c_spec_l00Src_next_6 : List DOp := [dl 0 (oo 44 (.mv (tt 0))), dl 1 (oo 45 (.nc (tt 44))), dl 2 (oo 46 (.fa 1 (tt 45))), dl 3 (oo 47 (.ld (tt 46))), dl 4 (oo 48 (.mv (tt 0))), dl 5 (oo 49 (.nc (tt 48))), dl 6 (oo 50 (.fa 0 (tt 49))), dl 7 (oo 51 (.ld (tt 50))), dl 8 (oo 52 (.len (tt 51))), dl 9 (oo 53 (.bin .leq (tt 47) (tt 52)))]
abbrev c_spec_l00Src_next_7 : List GOp := [oo 54 (.mv (tt 3)), oo 2 (.mv (tt 54))]
abbrev c_spec_l00Src_next_8 : List GOp := [oo 55 (.mv (tt 0)), oo 56 (.nc (tt 55)), oo 57 (.fa 2 (tt 56)), oo 58 (.ld (tt 57)), oo 59 (.bin .shr (tt 58) (.const (.int .u64 40))), oo 60 (.bin .and (tt 59) (.const (.int .u64 255))), oo 61 (.cvi .i64 (tt 60)), oo 2 (.mv (tt 61))]
abbrev c_spec_l00Src_next : GCode := .seq (.reg c_spec_l00Src_next_0) (.seq (.reg c_spec_l00Src_next_1) (.seq (.seq (.dreg c_spec_l00Src_next_2) (.cond (tt 13) (.dreg c_spec_l00Src_next_3) (.skip))) (.seq (.reg c_spec_l00Src_next_4) (.seq (.reg c_spec_l00Src_next_5) (.seq (.seq (.dreg c_spec_l00Src_next_6) (.cond (tt 53) (.seq (.reg c_spec_l00Src_next_7) (.ret)) (.skip))) (.seq (.reg c_spec_l00Src_next_8) (.ret)))))))
theorem c_spec_l00Src_next_d : decFn Tryz.prog Tryz.f138 = some (62, [.t 2], c_spec_l00Src_next) := by kernel_rfl
theorem c_spec_l00Src_next_i {args : List Value} {G : GH} {K : Value → GH → Prop} (hn : args.length ≤ 62) (h : gW Tryz.prog c_spec_l00Src_next (RetK [.t 2] K) (T0 args) G) : GC Tryz.prog 138 args G K := GC_intro mixed Tryz.func138 c_spec_l00Src_next_d hn h
abbrev c_spec_l00Src_one_0 : List GOp := [oo 4 (.mv (cb  false))]
abbrev c_spec_l00Src_one_1 : List GOp := [oo 5 (.mv (tt 0)), oo 6 (.mv (tt 1)), oo 7 (.call (ff 61) [tt 5, tt 6]), oo 8 (.bin .eql (tt 7) (ci 0)), oo 4 (.mv (tt 8))]
abbrev c_spec_l00Src_one : GCode := .seq (.reg c_spec_l00Src_one_0) (.seq (.reg c_spec_l00Src_one_1) (.ret))
theorem c_spec_l00Src_one_d : decFn Tryz.prog Tryz.f178 = some (9, [.t 4], c_spec_l00Src_one) := by kernel_rfl
theorem c_spec_l00Src_one_i {args : List Value} {G : GH} {K : Value → GH → Prop} (hn : args.length ≤ 9) (h : gW Tryz.prog c_spec_l00Src_one (RetK [.t 4] K) (T0 args) G) : GC Tryz.prog 178 args G K := GC_intro mixed Tryz.func178 c_spec_l00Src_one_d hn h
abbrev c_spec_l00Src_pick_0 : List GOp := [oo 4 (.mv (ci 0))]
abbrev c_spec_l00Src_pick_1 : List GOp := [oo 6 (.mv (tt 1)), oo 7 (.bin .leq (tt 6) (ci 1))]
abbrev c_spec_l00Src_pick_2 : List GOp := [oo 4 (.mv (ci 0))]
abbrev c_spec_l00Src_pick_3 : List GOp := [oo 8 (.mv (tt 0)), oo 9 (.call (ff 138) [tt 8]), oo 5 (.mv (tt 9))]
abbrev c_spec_l00Src_pick_4 : List GOp := [oo 10 (.mv (tt 1)), oo 11 (.bin .gtr (tt 10) (ci 200))]
abbrev c_spec_l00Src_pick_5 : List GOp := [oo 12 (.mv (tt 5)), oo 13 (.bin .mul (tt 12) (ci 256)), oo 14 (.mv (tt 0)), oo 15 (.call (ff 138) [tt 14]), oo 16 (.bin .add (tt 13) (tt 15)), oo 5 (.mv (tt 16))]
abbrev c_spec_l00Src_pick_6 : List GOp := [oo 17 (.mv (tt 5)), oo 18 (.mv (tt 1)), oo 19 (.bin .rem (tt 17) (tt 18)), oo 4 (.mv (tt 19))]
abbrev c_spec_l00Src_pick : GCode := .seq (.reg c_spec_l00Src_pick_0) (.seq (.seq (.reg c_spec_l00Src_pick_1) (.cond (tt 7) (.seq (.reg c_spec_l00Src_pick_2) (.ret)) (.skip))) (.seq (.reg c_spec_l00Src_pick_3) (.seq (.seq (.reg c_spec_l00Src_pick_4) (.cond (tt 11) (.reg c_spec_l00Src_pick_5) (.skip))) (.seq (.reg c_spec_l00Src_pick_6) (.ret)))))
theorem c_spec_l00Src_pick_d : decFn Tryz.prog Tryz.f61 = some (20, [.t 4], c_spec_l00Src_pick) := by kernel_rfl
theorem c_spec_l00Src_pick_i {args : List Value} {G : GH} {K : Value → GH → Prop} (hn : args.length ≤ 20) (h : gW Tryz.prog c_spec_l00Src_pick (RetK [.t 4] K) (T0 args) G) : GC Tryz.prog 61 args G K := GC_intro mixed Tryz.func61 c_spec_l00Src_pick_d hn h
abbrev c_spec_l04SameRows_0 : List GOp := [oo 4 (.mv (cb  false))]
abbrev c_spec_l04SameRows_1 : List GOp := [oo 6 (.mv (tt 0)), oo 7 (.len (tt 6)), oo 8 (.mv (tt 1)), oo 9 (.len (tt 8)), oo 10 (.bin .neq (tt 7) (tt 9))]
abbrev c_spec_l04SameRows_2 : List GOp := [oo 4 (.mv (cb  false))]
abbrev c_spec_l04SameRows_3 : List GOp := [oo 5 (.mv (ci 0))]
abbrev c_spec_l04SameRows_4 : List GOp := [oo 11 (.mv (tt 5)), oo 12 (.mv (tt 0)), oo 13 (.len (tt 12)), oo 14 (.bin .lss (tt 11) (tt 13))]
abbrev c_spec_l04SameRows_5 : List DOp := [dl 0 (oo 17 (.mv (tt 0))), dl 1 (oo 18 (.mv (tt 5))), dl 2 (oo 19 (.ia 1 (tt 17) (tt 18))), dl 3 (oo 20 (.ld (tt 19))), dl 4 (oo 21 (.mv (tt 1))), dl 5 (oo 22 (.mv (tt 5))), dl 6 (oo 23 (.ia 1 (tt 21) (tt 22))), dl 7 (oo 24 (.ld (tt 23))), dh 8 [] (oo 25 (.call (ff 192) [tt 20, tt 24])), dl 9 (oo 26 (.un .not (tt 25)))]
abbrev c_spec_l04SameRows_6 : List GOp := [oo 4 (.mv (cb  false))]
abbrev c_spec_l04SameRows_7 : List GOp := [oo 15 (.mv (tt 5)), oo 16 (.bin .add (tt 15) (ci 1)), oo 5 (.mv (tt 16))]
abbrev c_spec_l04SameRows_l0 : GCode := .seq (.seq (.reg c_spec_l04SameRows_4) (.cond (tt 14) (.skip) (.exit 0))) (.seq (.blk 1 (.seq (.dreg c_spec_l04SameRows_5) (.cond (tt 26) (.seq (.reg c_spec_l04SameRows_6) (.ret)) (.skip)))) (.reg c_spec_l04SameRows_7))
abbrev c_spec_l04SameRows_9 : List GOp := [oo 4 (.mv (cb  true))]
abbrev c_spec_l04SameRows : GCode := .seq (.reg c_spec_l04SameRows_0) (.seq (.seq (.reg c_spec_l04SameRows_1) (.cond (tt 10) (.seq (.reg c_spec_l04SameRows_2) (.ret)) (.skip))) (.seq (.seq (.reg c_spec_l04SameRows_3) (.blk 0 (.loop c_spec_l04SameRows_l0))) (.seq (.reg c_spec_l04SameRows_9) (.ret))))
theorem c_spec_l04SameRows_d : decFn Tryz.prog Tryz.f193 = some (27, [.t 4], c_spec_l04SameRows) := by kernel_rfl
theorem c_spec_l04SameRows_i {args : List Value} {G : GH} {K : Value → GH → Prop} (hn : args.length ≤ 27) (h : gW Tryz.prog c_spec_l04SameRows (RetK [.t 4] K) (T0 args) G) : GC Tryz.prog 193 args G K := GC_intro mixed Tryz.func193 c_spec_l04SameRows_d hn h
abbrev c_spec_l16Before_0 : List GOp := [oo 4 (.mv (cb  false))]
abbrev c_spec_l16Before_1 : List GOp := [oo 5 (.mv (ci 0))]
abbrev c_spec_l16Before_2 : List GOp := [oo 6 (.mv (tt 5)), oo 7 (.mv (tt 0)), oo 8 (.len (tt 7)), oo 9 (.bin .lss (tt 6) (tt 8)), oo 10 (.mv (tt 9)), og 11 10 true (.mv (tt 5)), og 12 10 true (.mv (tt 1)), og 13 10 true (.len (tt 12)), og 14 10 true (.bin .lss (tt 11) (tt 13)), oo 15 (.pick (tt 10) (tt 14) (cb  false))]
abbrev c_spec_l16Before_3 : List DOp := [dl 0 (oo 18 (.mv (tt 0))), dl 1 (oo 19 (.mv (tt 5))), dl 2 (oo 20 (.ia 1 (tt 18) (tt 19))), dl 3 (oo 21 (.ld (tt 20))), dl 4 (oo 22 (.mv (tt 1))), dl 5 (oo 23 (.mv (tt 5))), dl 6 (oo 24 (.ia 1 (tt 22) (tt 23))), dl 7 (oo 25 (.ld (tt 24))), dl 8 (oo 26 (.bin .neq (tt 21) (tt 25)))]
abbrev c_spec_l16Before_4 : List DOp := [dl 0 (oo 27 (.mv (tt 0))), dl 1 (oo 28 (.mv (tt 5))), dl 2 (oo 29 (.ia 1 (tt 27) (tt 28))), dl 3 (oo 30 (.ld (tt 29))), dl 4 (oo 31 (.mv (tt 1))), dl 5 (oo 32 (.mv (tt 5))), dl 6 (oo 33 (.ia 1 (tt 31) (tt 32))), dl 7 (oo 34 (.ld (tt 33))), dl 8 (oo 35 (.bin .lss (tt 30) (tt 34))), dl 9 (oo 4 (.mv (tt 35)))]
abbrev c_spec_l16Before_5 : List GOp := [oo 16 (.mv (tt 5)), oo 17 (.bin .add (tt 16) (ci 1)), oo 5 (.mv (tt 17))]
abbrev c_spec_l16Before_l0 : GCode := .seq (.seq (.reg c_spec_l16Before_2) (.cond (tt 15) (.skip) (.exit 0))) (.seq (.blk 1 (.seq (.dreg c_spec_l16Before_3) (.cond (tt 26) (.seq (.dreg c_spec_l16Before_4) (.ret)) (.skip)))) (.reg c_spec_l16Before_5))
abbrev c_spec_l16Before_7 : List GOp := [oo 36 (.mv (tt 0)), oo 37 (.len (tt 36)), oo 38 (.mv (tt 1)), oo 39 (.len (tt 38)), oo 40 (.bin .lss (tt 37) (tt 39)), oo 4 (.mv (tt 40))]
abbrev c_spec_l16Before : GCode := .seq (.reg c_spec_l16Before_0) (.seq (.seq (.reg c_spec_l16Before_1) (.blk 0 (.loop c_spec_l16Before_l0))) (.seq (.reg c_spec_l16Before_7) (.ret)))
theorem c_spec_l16Before_d : decFn Tryz.prog Tryz.f191 = some (41, [.t 4], c_spec_l16Before) := by kernel_rfl
theorem c_spec_l16Before_i {args : List Value} {G : GH} {K : Value → GH → Prop} (hn : args.length ≤ 41) (h : gW Tryz.prog c_spec_l16Before (RetK [.t 4] K) (T0 args) G) : GC Tryz.prog 191 args G K := GC_intro mixed Tryz.func191 c_spec_l16Before_d hn h
abbrev c_spec_l20Bend_0 : List GOp := [oo 3 (.bx (tt 1)), oo 4 (.al [.slice none 0 0, .slice none 0 0])]
abbrev c_spec_l20Bend_1 : List GOp := [oo 7 (.mv (tt 0)), oo 8 (.call (ff 61) [tt 7, (ci 22)])]
abbrev c_spec_l20Bend_2 : List GOp := [oo 10 (.bin .eql (tt 8) (ci 0)), oo 9 (.mv (tt 10))]
abbrev c_spec_l20Bend_3 : List DOp := [dl 0 (oo 11 (.fa 0 (tt 3))), dl 1 (oo 12 (.ld (tt 11))), dl 2 (oo 13 (.mv (tt 0))), dh 3 [1] (oo 14 (.bs 1 [(ci 0), (ci 8), (ci (-1))])), dh 4 [1] (oo 15 (.call (ff 122) [tt 13, tt 14])), dh 5 [1] (oo 16 (.bs 1 [tt 15])), dh 6 [] (oo 17 (.ap 1 8 [.int .i64 0] (tt 12) (tt 16))), dl 7 (oo 18 (.fa 0 (tt 3))), dh 8 [] (on (.st 1 (tt 18) (tt 17)))]
abbrev c_spec_l20Bend_4 : List GOp := [oo 20 (.bin .eql (tt 8) (ci 1)), oo 19 (.mv (tt 20))]
abbrev c_spec_l20Bend_5 : List GOp := [oo 21 (.fa 1 (tt 3)), oo 22 (.ld (tt 21)), oo 23 (.len (tt 22)), oo 24 (.bin .gtr (tt 23) (ci 0))]
abbrev c_spec_l20Bend_6 : List DOp := [dl 0 (oo 25 (.fa 1 (tt 3))), dl 1 (oo 26 (.ld (tt 25))), dl 2 (oo 27 (.fa 1 (tt 3))), dl 3 (oo 28 (.ld (tt 27))), dl 4 (oo 29 (.ia 1 (tt 28) (ci 0))), dl 5 (oo 30 (.ld (tt 29))), dh 6 [3, 1] (oo 31 (.call (ff 73) [tt 30])), dh 7 [5, 3, 1] (oo 32 (.bs 1 [tt 31])), dh 8 [5, 3] (oo 33 (.ap 1 24 [.slice none 0 0] (tt 26) (tt 32))), dl 9 (oo 34 (.fa 1 (tt 3))), dh 10 [] (on (.st 1 (tt 34) (tt 33)))]
abbrev c_spec_l20Bend_7 : List GOp := [oo 36 (.bin .eql (tt 8) (ci 2)), oo 35 (.mv (tt 36))]
abbrev c_spec_l20Bend_8 : List GOp := [oo 37 (.fa 1 (tt 3)), oo 38 (.ld (tt 37)), oo 39 (.len (tt 38)), oo 40 (.bin .gtr (tt 39) (ci 0)), oo 41 (.mv (tt 40)), og 42 41 true (.fa 0 (tt 3)), og 43 41 true (.ld (tt 42)), og 44 41 true (.len (tt 43)), og 45 41 true (.bin .gtr (tt 44) (ci 0)), oo 46 (.pick (tt 41) (tt 45) (cb  false))]
abbrev c_spec_l20Bend_9 : List DOp := [dl 0 (oo 47 (.fa 1 (tt 3))), dl 1 (oo 48 (.ld (tt 47))), dl 2 (oo 49 (.ia 1 (tt 48) (ci 0))), dl 3 (oo 50 (.ld (tt 49))), dl 4 (oo 51 (.mv (tt 0))), dh 5 [3, 1] (oo 52 (.bs 1 [(ci (-1)), (ci 3), (ci 4)])), dh 6 [3, 1] (oo 53 (.call (ff 122) [tt 51, tt 52])), dl 7 (oo 54 (.ia 1 (tt 50) (ci 0))), dh 8 [] (on (.st 1 (tt 54) (tt 53)))]
abbrev c_spec_l20Bend_10 : List GOp := [oo 56 (.bin .eql (tt 8) (ci 3)), oo 55 (.mv (tt 56))]
abbrev c_spec_l20Bend_11 : List GOp := [oo 57 (.mv (tt 0)), oo 58 (.bs 1 [(ci 24), (ci 25)]), oo 59 (.call (ff 122) [tt 57, tt 58]), oo 5 (.mv (tt 59))]
abbrev c_spec_l20Bend_12 : List GOp := [oo 60 (.bs 1 [(ci 0), (ci 1), (ci 2)]), oo 61 (.bs 1 []), oo 62 (.bld [.slice none 0 0, .slice none 0 0] [(0, 1, (tt 60)), (1, 1, (tt 61))]), on (.st 2 (tt 3) (tt 62))]
abbrev c_spec_l20Bend_13 : List GOp := [oo 6 (.mv (ci 0))]
abbrev c_spec_l20Bend_14 : List GOp := [oo 63 (.mv (tt 6)), oo 64 (.mv (tt 5)), oo 65 (.bin .lss (tt 63) (tt 64))]
abbrev c_spec_l20Bend_15 : List GOp := [oo 68 (.fa 1 (tt 3)), oo 69 (.ld (tt 68)), oo 70 (.mv (tt 6)), oo 71 (.bin .quo (tt 70) (ci 16)), oo 72 (.mv (tt 6)), oo 73 (.bin .quo (tt 72) (ci 4)), oo 74 (.bin .rem (tt 73) (ci 4)), oo 75 (.mv (tt 6)), oo 76 (.bin .rem (tt 75) (ci 4)), oo 77 (.bs 1 [tt 71, tt 74, tt 76]), oo 78 (.bs 1 [tt 77]), oo 79 (.ap 1 24 [.slice none 0 0] (tt 69) (tt 78)), oo 80 (.fa 1 (tt 3)), on (.st 1 (tt 80) (tt 79))]
abbrev c_spec_l20Bend_16 : List GOp := [oo 66 (.mv (tt 6)), oo 67 (.bin .add (tt 66) (ci 1)), oo 6 (.mv (tt 67))]
abbrev c_spec_l20Bend_l0 : GCode := .seq (.seq (.reg c_spec_l20Bend_14) (.cond (tt 65) (.skip) (.exit 1))) (.seq (.blk 2 (.reg c_spec_l20Bend_15)) (.reg c_spec_l20Bend_16))
abbrev c_spec_l20Bend_18 : List GOp := [oo 81 (.ldn 2 (tt 3)), on (.st 2 (tt 4) (tt 81))]
abbrev c_spec_l20Bend : GCode := .seq (.reg c_spec_l20Bend_0) (.seq (.seq (.reg c_spec_l20Bend_1) (.blk 0 (.seq (.reg c_spec_l20Bend_2) (.cond (tt 9) (.dreg c_spec_l20Bend_3) (.seq (.reg c_spec_l20Bend_4) (.cond (tt 19) (.seq (.reg c_spec_l20Bend_5) (.cond (tt 24) (.dreg c_spec_l20Bend_6) (.skip))) (.seq (.reg c_spec_l20Bend_7) (.cond (tt 35) (.seq (.reg c_spec_l20Bend_8) (.cond (tt 46) (.dreg c_spec_l20Bend_9) (.skip))) (.seq (.reg c_spec_l20Bend_10) (.cond (tt 55) (.seq (.reg c_spec_l20Bend_11) (.seq (.reg c_spec_l20Bend_12) (.seq (.reg c_spec_l20Bend_13) (.blk 1 (.loop c_spec_l20Bend_l0))))) (.skip))))))))))) (.seq (.reg c_spec_l20Bend_18) (.ret)))
theorem c_spec_l20Bend_d : decFn Tryz.prog Tryz.f101 = some (82, [.cn 4 2], c_spec_l20Bend) := by kernel_rfl
theorem c_spec_l20Bend_i {args : List Value} {G : GH} {K : Value → GH → Prop} (hn : args.length ≤ 82) (h : gW Tryz.prog c_spec_l20Bend (RetK [.cn 4 2] K) (T0 args) G) : GC Tryz.prog 101 args G K := GC_intro mixed Tryz.func101 c_spec_l20Bend_d hn h
abbrev c_spec_l20Cell_0 : List GOp := [oo 6 (.mv (ci 0))]
abbrev c_spec_l20Cell_1 : List GOp := [oo 7 (.mv (ci 0))]
abbrev c_spec_l20Cell_2 : List GOp := [oo 8 (.mv (tt 7)), oo 9 (.mv (tt 0)), oo 10 (.len (tt 9)), oo 11 (.bin .lss (tt 8) (tt 10))]
abbrev c_spec_l20Cell_3 : List GOp := [oo 14 (.mv (tt 0)), oo 15 (.mv (tt 7)), oo 16 (.ia 1 (tt 14) (tt 15)), oo 17 (.ld (tt 16)), oo 18 (.mv (tt 2)), oo 19 (.bin .eql (tt 17) (tt 18))]
abbrev c_spec_l20Cell_4 : List GOp := [oo 20 (.mv (tt 1)), oo 21 (.mv (tt 7)), oo 22 (.ia 1 (tt 20) (tt 21)), oo 23 (.ld (tt 22)), oo 6 (.mv (tt 23))]
abbrev c_spec_l20Cell_5 : List GOp := [oo 12 (.mv (tt 7)), oo 13 (.bin .add (tt 12) (ci 1)), oo 7 (.mv (tt 13))]
abbrev c_spec_l20Cell_l0 : GCode := .seq (.seq (.reg c_spec_l20Cell_2) (.cond (tt 11) (.skip) (.exit 0))) (.seq (.blk 1 (.seq (.reg c_spec_l20Cell_3) (.cond (tt 19) (.seq (.reg c_spec_l20Cell_4) (.ret)) (.skip)))) (.reg c_spec_l20Cell_5))
abbrev c_spec_l20Cell_7 : List GOp := [oo 6 (.mv (ci (-1)))]
abbrev c_spec_l20Cell : GCode := .seq (.reg c_spec_l20Cell_0) (.seq (.seq (.reg c_spec_l20Cell_1) (.blk 0 (.loop c_spec_l20Cell_l0))) (.seq (.reg c_spec_l20Cell_7) (.ret)))
theorem c_spec_l20Cell_d : decFn Tryz.prog Tryz.f231 = some (24, [.t 6], c_spec_l20Cell) := by kernel_rfl
theorem c_spec_l20Cell_i {args : List Value} {G : GH} {K : Value → GH → Prop} (hn : args.length ≤ 24) (h : gW Tryz.prog c_spec_l20Cell (RetK [.t 6] K) (T0 args) G) : GC Tryz.prog 231 args G K := GC_intro mixed Tryz.func231 c_spec_l20Cell_d hn h
abbrev c_spec_l20DrawList_0 : List GOp := [oo 2 (.mv (.const (.slice none 0 0)))]
abbrev c_spec_l20DrawList_1 : List GOp := [oo 8 (.bs 2 []), oo 3 (.mv (tt 8))]
abbrev c_spec_l20DrawList_2 : List GOp := [oo 9 (.mv (tt 0)), oo 10 (.call (ff 61) [tt 9, (ci 5)])]
abbrev c_spec_l20DrawList_3 : List GOp := [oo 12 (.bin .eql (tt 10) (ci 0)), oo 11 (.mv (tt 12))]
abbrev c_spec_l20DrawList_4 : List GOp := [oo 13 (.bs 1 [(ci 0), (ci 0)]), oo 14 (.bs 1 [(ci 1), (ci 1)]), oo 15 (.bs 1 [tt 13, tt 14]), oo 4 (.mv (tt 15))]
abbrev c_spec_l20DrawList_5 : List GOp := [oo 16 (.bs 1 [(ci 0), (ci 1)]), oo 17 (.bs 1 [(ci 1), (ci 0)]), oo 18 (.bs 1 [tt 16, tt 17]), oo 5 (.mv (tt 18))]
abbrev c_spec_l20DrawList_6 : List GOp := [oo 19 (.mv (tt 0)), oo 20 (.call (ff 178) [tt 19, (ci 2)])]
abbrev c_spec_l20DrawList_7 : List GOp := [oo 21 (.bs 1 [(ci 0), (ci 0)]), oo 22 (.bs 1 [(ci 1), (ci 1)]), oo 23 (.bs 1 [tt 21, tt 22]), oo 5 (.mv (tt 23))]
abbrev c_spec_l20DrawList_8 : List GOp := [oo 24 (.bs 1 [(ci 0), (ci 1)]), oo 25 (.mv (tt 4)), oo 26 (.bld [.slice none 0 0, .slice none 0 0] [(0, 1, (tt 24)), (1, 1, (tt 25))]), oo 27 (.bs 1 [(ci 1), (ci 2)]), oo 28 (.mv (tt 4)), oo 29 (.bld [.slice none 0 0, .slice none 0 0] [(0, 1, (tt 27)), (1, 1, (tt 28))]), oo 30 (.bs 1 [(ci 0), (ci 2)]), oo 31 (.mv (tt 5)), oo 32 (.bld [.slice none 0 0, .slice none 0 0] [(0, 1, (tt 30)), (1, 1, (tt 31))]), oo 33 (.bs 2 [tt 26, tt 29, tt 32]), oo 2 (.mv (tt 33))]
abbrev c_spec_l20DrawList_9 : List GOp := [oo 35 (.bin .eql (tt 10) (ci 1)), oo 34 (.mv (tt 35))]
abbrev c_spec_l20DrawList_10 : List GOp := [oo 36 (.bs 1 [(ci 0), (ci 1), (ci 2)]), oo 37 (.bs 1 [(ci 0), (ci 0), (ci 1)]), oo 38 (.bs 1 [(ci 1), (ci 0), (ci 2)]), oo 39 (.bs 1 [(ci 1), (ci 1), (ci 0)]), oo 40 (.bs 1 [tt 37, tt 38, tt 39]), oo 41 (.bld [.slice none 0 0, .slice none 0 0] [(0, 1, (tt 36)), (1, 1, (tt 40))]), oo 6 (.al [.slice none 0 0, .slice none 0 0]), on (.st 2 (tt 6) (tt 41))]
abbrev c_spec_l20DrawList_11 : List GOp := [oo 42 (.mv (tt 3)), oo 43 (.bs 1 [(ci 0), (ci 1)]), oo 44 (.call (ff 194) [tt 6, tt 43]), oo 45 (.bs 2 [tt 44]), oo 46 (.ap 2 48 [.slice none 0 0, .slice none 0 0] (tt 42) (tt 45)), oo 3 (.mv (tt 46))]
abbrev c_spec_l20DrawList_12 : List GOp := [oo 47 (.mv (tt 3)), oo 48 (.bs 1 [(ci 1), (ci 2)]), oo 49 (.call (ff 194) [tt 6, tt 48]), oo 50 (.bs 2 [tt 49]), oo 51 (.ap 2 48 [.slice none 0 0, .slice none 0 0] (tt 47) (tt 50)), oo 3 (.mv (tt 51))]
abbrev c_spec_l20DrawList_13 : List GOp := [oo 52 (.mv (tt 3)), oo 53 (.bs 1 [(ci 0), (ci 2)]), oo 54 (.call (ff 194) [tt 6, tt 53]), oo 55 (.bs 2 [tt 54]), oo 56 (.ap 2 48 [.slice none 0 0, .slice none 0 0] (tt 52) (tt 55)), oo 3 (.mv (tt 56))]
abbrev c_spec_l20DrawList_14 : List GOp := [oo 57 (.mv (tt 3)), oo 58 (.mv (tt 0)), oo 59 (.call (ff 61) [tt 58, (ci 3)]), oo 60 (.bin .add (ci 1) (tt 59)), oo 61 (.sl 2 (tt 57) none (some (tt 60))), oo 2 (.mv (tt 61))]
abbrev c_spec_l20DrawList_15 : List GOp := [oo 62 (.mv (tt 0)), oo 63 (.call (ff 61) [tt 62, (ci 4)]), oo 7 (.mv (tt 63))]
abbrev c_spec_l20DrawList_16 : List GOp := [oo 64 (.mv (tt 7)), oo 65 (.bin .gtr (tt 64) (ci 0))]
abbrev c_spec_l20DrawList_17 : List GOp := [oo 68 (.mv (tt 3)), oo 69 (.mv (tt 0)), oo 70 (.call (ff 102) [tt 69]), oo 71 (.bs 2 [tt 70]), oo 72 (.ap 2 48 [.slice none 0 0, .slice none 0 0] (tt 68) (tt 71)), oo 3 (.mv (tt 72))]
abbrev c_spec_l20DrawList_18 : List GOp := [oo 66 (.mv (tt 7)), oo 67 (.bin .sub (tt 66) (ci 1)), oo 7 (.mv (tt 67))]
abbrev c_spec_l20DrawList_l0 : GCode := .seq (.seq (.reg c_spec_l20DrawList_16) (.cond (tt 65) (.skip) (.exit 1))) (.seq (.blk 2 (.reg c_spec_l20DrawList_17)) (.reg c_spec_l20DrawList_18))
abbrev c_spec_l20DrawList_20 : List GOp := [oo 73 (.mv (tt 0)), oo 74 (.call (ff 61) [tt 73, (ci 16)])]
abbrev c_spec_l20DrawList_21 : List GOp := [oo 76 (.bin .eql (tt 74) (ci 0)), oo 75 (.mv (tt 76))]
abbrev c_spec_l20DrawList_22 : List GOp := [oo 77 (.mv (tt 3)), oo 78 (.mv (tt 0)), oo 79 (.mv (tt 0)), oo 80 (.call (ff 102) [tt 79]), oo 81 (.call (ff 101) [tt 78, tt 80]), oo 82 (.bs 2 [tt 81]), oo 83 (.ap 2 48 [.slice none 0 0, .slice none 0 0] (tt 77) (tt 82)), oo 3 (.mv (tt 83))]
abbrev c_spec_l20DrawList_23 : List GOp := [oo 85 (.bin .eql (tt 74) (ci 1)), oo 84 (.mv (tt 85))]
abbrev c_spec_l20DrawList_24 : List GOp := [oo 86 (.mv (tt 0)), oo 87 (.bs 1 [(ci 6), (ci 7)]), oo 88 (.call (ff 122) [tt 86, tt 87]), oo 89 (.mk 2 48 [.slice none 0 0, .slice none 0 0] (tt 88) (tt 88)), oo 3 (.mv (tt 89))]
abbrev c_spec_l20DrawList_25 : List GOp := [oo 90 (.mv (tt 3)), oo 2 (.mv (tt 90))]
abbrev c_spec_l20DrawList : GCode := .seq (.reg c_spec_l20DrawList_0) (.seq (.reg c_spec_l20DrawList_1) (.seq (.seq (.reg c_spec_l20DrawList_2) (.blk 0 (.seq (.reg c_spec_l20DrawList_3) (.cond (tt 11) (.seq (.reg c_spec_l20DrawList_4) (.seq (.reg c_spec_l20DrawList_5) (.seq (.seq (.reg c_spec_l20DrawList_6) (.cond (tt 20) (.reg c_spec_l20DrawList_7) (.skip))) (.seq (.reg c_spec_l20DrawList_8) (.ret))))) (.seq (.reg c_spec_l20DrawList_9) (.cond (tt 34) (.seq (.reg c_spec_l20DrawList_10) (.seq (.reg c_spec_l20DrawList_11) (.seq (.reg c_spec_l20DrawList_12) (.seq (.reg c_spec_l20DrawList_13) (.seq (.reg c_spec_l20DrawList_14) (.ret)))))) (.skip))))))) (.seq (.seq (.reg c_spec_l20DrawList_15) (.blk 1 (.loop c_spec_l20DrawList_l0))) (.seq (.seq (.reg c_spec_l20DrawList_20) (.blk 3 (.seq (.reg c_spec_l20DrawList_21) (.cond (tt 75) (.reg c_spec_l20DrawList_22) (.seq (.reg c_spec_l20DrawList_23) (.cond (tt 84) (.reg c_spec_l20DrawList_24) (.skip))))))) (.seq (.reg c_spec_l20DrawList_25) (.ret))))))
theorem c_spec_l20DrawList_d : decFn Tryz.prog Tryz.f115 = some (91, [.t 2], c_spec_l20DrawList) := by kernel_rfl
theorem c_spec_l20DrawList_i {args : List Value} {G : GH} {K : Value → GH → Prop} (hn : args.length ≤ 91) (h : gW Tryz.prog c_spec_l20DrawList (RetK [.t 2] K) (T0 args) G) : GC Tryz.prog 115 args G K := GC_intro mixed Tryz.func115 c_spec_l20DrawList_d hn h
abbrev c_spec_l20DrawOk_0 : List GOp := [oo 2 (.al [.slice none 0 0, .slice none 0 0])]
abbrev c_spec_l20DrawOk_1 : List GOp := [oo 8 (.bs 1 []), oo 9 (.bs 1 []), oo 10 (.bld [.slice none 0 0, .slice none 0 0] [(0, 1, (tt 8)), (1, 1, (tt 9))]), oo 3 (.al [.slice none 0 0, .slice none 0 0]), on (.st 2 (tt 3) (tt 10))]
abbrev c_spec_l20DrawOk_2 : List GOp := [oo 4 (.mv (ci 0))]
abbrev c_spec_l20DrawOk_3 : List GOp := [oo 11 (.mv (tt 4)), oo 12 (.bin .lss (tt 11) (ci 4))]
abbrev c_spec_l20DrawOk_4 : List GOp := [oo 15 (.mv (tt 0)), oo 16 (.call (ff 178) [tt 15, (ci 2)])]
abbrev c_spec_l20DrawOk_5 : List GOp := [oo 17 (.fa 0 (tt 3)), oo 18 (.ld (tt 17)), oo 19 (.mv (tt 4)), oo 20 (.bs 1 [tt 19]), oo 21 (.ap 1 8 [.int .i64 0] (tt 18) (tt 20)), oo 22 (.fa 0 (tt 3)), on (.st 1 (tt 22) (tt 21))]
abbrev c_spec_l20DrawOk_6 : List GOp := [oo 13 (.mv (tt 4)), oo 14 (.bin .add (tt 13) (ci 1)), oo 4 (.mv (tt 14))]
abbrev c_spec_l20DrawOk_l0 : GCode := .seq (.seq (.reg c_spec_l20DrawOk_3) (.cond (tt 12) (.skip) (.exit 0))) (.seq (.blk 1 (.seq (.reg c_spec_l20DrawOk_4) (.cond (tt 16) (.reg c_spec_l20DrawOk_5) (.skip)))) (.reg c_spec_l20DrawOk_6))
abbrev c_spec_l20DrawOk_8 : List GOp := [oo 23 (.mv (tt 0)), oo 24 (.call (ff 178) [tt 23, (ci 8)])]
abbrev c_spec_l20DrawOk_9 : List GOp := [oo 25 (.fa 0 (tt 3)), oo 26 (.ld (tt 25)), oo 27 (.bs 1 [(ci 7)]), oo 28 (.ap 1 8 [.int .i64 0] (tt 26) (tt 27)), oo 29 (.fa 0 (tt 3)), on (.st 1 (tt 29) (tt 28))]
abbrev c_spec_l20DrawOk_10 : List GOp := [oo 30 (.mv (tt 0)), oo 31 (.call (ff 61) [tt 30, (ci 7)]), oo 5 (.mv (tt 31))]
abbrev c_spec_l20DrawOk_11 : List GOp := [oo 32 (.mv (tt 5)), oo 33 (.bin .gtr (tt 32) (ci 0))]
abbrev c_spec_l20DrawOk_12 : List GOp := [oo 36 (.bs 1 []), oo 6 (.mv (tt 36))]
abbrev c_spec_l20DrawOk_13 : List GOp := [oo 7 (.mv (ci 0))]
abbrev c_spec_l20DrawOk_14 : List GOp := [oo 37 (.mv (tt 7)), oo 38 (.fa 0 (tt 3)), oo 39 (.ld (tt 38)), oo 40 (.len (tt 39)), oo 41 (.bin .lss (tt 37) (tt 40))]
abbrev c_spec_l20DrawOk_15 : List GOp := [oo 44 (.mv (tt 6)), oo 45 (.mv (tt 0)), oo 46 (.bs 1 [(ci 0), (ci 1), (ci 0), (ci 1), (ci 2), (ci 3)]), oo 47 (.call (ff 122) [tt 45, tt 46]), oo 48 (.bs 1 [tt 47]), oo 49 (.ap 1 8 [.int .i64 0] (tt 44) (tt 48)), oo 6 (.mv (tt 49))]
abbrev c_spec_l20DrawOk_16 : List GOp := [oo 42 (.mv (tt 7)), oo 43 (.bin .add (tt 42) (ci 1)), oo 7 (.mv (tt 43))]
abbrev c_spec_l20DrawOk_l1 : GCode := .seq (.seq (.reg c_spec_l20DrawOk_14) (.cond (tt 41) (.skip) (.exit 4))) (.seq (.blk 5 (.reg c_spec_l20DrawOk_15)) (.reg c_spec_l20DrawOk_16))
abbrev c_spec_l20DrawOk_18 : List GOp := [oo 50 (.fa 1 (tt 3)), oo 51 (.ld (tt 50)), oo 52 (.mv (tt 6)), oo 53 (.call (ff 179) [tt 51, tt 52]), oo 54 (.fa 1 (tt 3)), on (.st 1 (tt 54) (tt 53))]
abbrev c_spec_l20DrawOk_19 : List GOp := [oo 34 (.mv (tt 5)), oo 35 (.bin .sub (tt 34) (ci 1)), oo 5 (.mv (tt 35))]
abbrev c_spec_l20DrawOk_l2 : GCode := .seq (.seq (.reg c_spec_l20DrawOk_11) (.cond (tt 33) (.skip) (.exit 2))) (.seq (.blk 3 (.seq (.reg c_spec_l20DrawOk_12) (.seq (.seq (.reg c_spec_l20DrawOk_13) (.blk 4 (.loop c_spec_l20DrawOk_l1))) (.reg c_spec_l20DrawOk_18)))) (.reg c_spec_l20DrawOk_19))
abbrev c_spec_l20DrawOk_21 : List GOp := [oo 55 (.ldn 2 (tt 3)), on (.st 2 (tt 2) (tt 55))]
abbrev c_spec_l20DrawOk : GCode := .seq (.reg c_spec_l20DrawOk_0) (.seq (.reg c_spec_l20DrawOk_1) (.seq (.seq (.reg c_spec_l20DrawOk_2) (.blk 0 (.loop c_spec_l20DrawOk_l0))) (.seq (.seq (.reg c_spec_l20DrawOk_8) (.cond (tt 24) (.reg c_spec_l20DrawOk_9) (.skip))) (.seq (.seq (.reg c_spec_l20DrawOk_10) (.blk 2 (.loop c_spec_l20DrawOk_l2))) (.seq (.reg c_spec_l20DrawOk_21) (.ret))))))
theorem c_spec_l20DrawOk_d : decFn Tryz.prog Tryz.f102 = some (56, [.cn 2 2], c_spec_l20DrawOk) := by kernel_rfl
theorem c_spec_l20DrawOk_i {args : List Value} {G : GH} {K : Value → GH → Prop} (hn : args.length ≤ 56) (h : gW Tryz.prog c_spec_l20DrawOk (RetK [.cn 2 2] K) (T0 args) G) : GC Tryz.prog 102 args G K := GC_intro mixed Tryz.func102 c_spec_l20DrawOk_d hn h
abbrev c_spec_l20List_0 : List GOp := [oo 2 (.mv (cb  false))]
abbrev c_spec_l20List_1 : List GOp := [oo 3 (.mv (ci 0))]
abbrev c_spec_l20List_2 : List GOp := [oo 4 (.mv (tt 3)), oo 5 (.mv (tt 0)), oo 6 (.len (tt 5)), oo 7 (.bin .lss (tt 4) (tt 6))]
abbrev c_spec_l20List_3 : List GOp := [oo 10 (.mv (tt 0)), oo 11 (.mv (tt 3)), oo 12 (.ia 2 (tt 10) (tt 11)), oo 13 (.call (ff 113) [tt 12]), oo 14 (.un .not (tt 13))]
abbrev c_spec_l20List_4 : List GOp := [oo 2 (.mv (cb  false))]
abbrev c_spec_l20List_5 : List GOp := [oo 8 (.mv (tt 3)), oo 9 (.bin .add (tt 8) (ci 1)), oo 3 (.mv (tt 9))]
abbrev c_spec_l20List_l0 : GCode := .seq (.seq (.reg c_spec_l20List_2) (.cond (tt 7) (.skip) (.exit 0))) (.seq (.blk 1 (.seq (.reg c_spec_l20List_3) (.cond (tt 14) (.seq (.reg c_spec_l20List_4) (.ret)) (.skip)))) (.reg c_spec_l20List_5))
abbrev c_spec_l20List_7 : List GOp := [oo 15 (.mv (tt 0)), oo 16 (.len (tt 15)), oo 17 (.bin .leq (tt 16) (ci 6)), oo 2 (.mv (tt 17))]
abbrev c_spec_l20List : GCode := .seq (.reg c_spec_l20List_0) (.seq (.seq (.reg c_spec_l20List_1) (.blk 0 (.loop c_spec_l20List_l0))) (.seq (.reg c_spec_l20List_7) (.ret)))
theorem c_spec_l20List_d : decFn Tryz.prog Tryz.f119 = some (18, [.t 2], c_spec_l20List) := by kernel_rfl
theorem c_spec_l20List_i {args : List Value} {G : GH} {K : Value → GH → Prop} (hn : args.length ≤ 18) (h : gW Tryz.prog c_spec_l20List (RetK [.t 2] K) (T0 args) G) : GC Tryz.prog 119 args G K := GC_intro mixed Tryz.func119 c_spec_l20List_d hn h
abbrev c_spec_l20Ok_0 : List GOp := [oo 2 (.mv (cb  false))]
abbrev c_spec_l20Ok_1 : List GOp := [oo 5 (.mv (tt 0)), oo 6 (.nc (tt 5)), oo 7 (.fa 0 (tt 6)), oo 8 (.ld (tt 7)), oo 9 (.call (ff 157) [tt 8, (ci 0), (ci 7)]), oo 10 (.un .not (tt 9)), oo 11 (.mv (tt 10)), og 12 11 false (.mv (tt 0)), og 13 11 false (.nc (tt 12)), og 14 11 false (.fa 1 (tt 13)), og 15 11 false (.ld (tt 14)), og 16 11 false (.len (tt 15)), og 17 11 false (.bin .gtr (tt 16) (ci 24)), oo 18 (.pick (tt 11) (cb  true) (tt 17))]
abbrev c_spec_l20Ok_2 : List GOp := [oo 2 (.mv (cb  false))]
abbrev c_spec_l20Ok_3 : List GOp := [oo 3 (.mv (ci 0))]
abbrev c_spec_l20Ok_4 : List GOp := [oo 19 (.mv (tt 3)), oo 20 (.mv (tt 0)), oo 21 (.nc (tt 20)), oo 22 (.fa 1 (tt 21)), oo 23 (.ld (tt 22)), oo 24 (.len (tt 23)), oo 25 (.bin .lss (tt 19) (tt 24))]
abbrev c_spec_l20Ok_5 : List DOp := [dl 0 (oo 28 (.mv (tt 0))), dl 1 (oo 29 (.nc (tt 28))), dl 2 (oo 30 (.fa 1 (tt 29))), dl 3 (oo 31 (.ld (tt 30))), dl 4 (oo 32 (.mv (tt 3))), dl 5 (oo 33 (.ia 1 (tt 31) (tt 32))), dl 6 (oo 34 (.ld (tt 33))), dl 7 (oo 35 (.len (tt 34))), dl 8 (oo 36 (.mv (tt 0))), dl 9 (oo 37 (.nc (tt 36))), dl 10 (oo 38 (.fa 0 (tt 37))), dl 11 (oo 39 (.ld (tt 38))), dl 12 (oo 40 (.len (tt 39))), dl 13 (oo 41 (.bin .neq (tt 35) (tt 40))), dl 14 (oo 42 (.mv (tt 41))), dl 15 (og 43 42 false (.mv (tt 3))), dl 16 (og 44 42 false (.bin .gtr (tt 43) (ci 0))), dl 17 (og 45 42 false (.mv (tt 44))), dl 18 (og 46 45 true (.mv (tt 0))), dl 19 (og 47 45 true (.nc (tt 46))), dl 20 (og 48 45 true (.fa 1 (tt 47))), dl 21 (og 49 45 true (.ld (tt 48))), dl 22 (og 50 45 true (.mv (tt 3))), dl 23 (og 51 45 true (.bin .sub (tt 50) (ci 1))), dl 24 (og 52 45 true (.ia 1 (tt 49) (tt 51))), dl 25 (og 53 45 true (.ld (tt 52))), dl 26 (og 54 45 true (.mv (tt 0))), dl 27 (og 55 45 true (.nc (tt 54))), dl 28 (og 56 45 true (.fa 1 (tt 55))), dl 29 (og 57 45 true (.ld (tt 56))), dl 30 (og 58 45 true (.mv (tt 3))), dl 31 (og 59 45 true (.ia 1 (tt 57) (tt 58))), dl 32 (og 60 45 true (.ld (tt 59))), dh 33 [29, 21, 11, 6, 3] (og 61 45 true (.call (ff 191) [tt 53, tt 60])), dl 34 (og 62 45 true (.un .not (tt 61))), dl 35 (og 63 42 false (.pick (tt 45) (tt 62) (cb  false))), dl 36 (oo 64 (.pick (tt 42) (cb  true) (tt 63)))]
abbrev c_spec_l20Ok_6 : List GOp := [oo 2 (.mv (cb  false))]
abbrev c_spec_l20Ok_7 : List GOp := [oo 4 (.mv (ci 0))]
abbrev c_spec_l20Ok_8 : List GOp := [oo 65 (.mv (tt 4)), oo 66 (.mv (tt 0)), oo 67 (.nc (tt 66)), oo 68 (.fa 1 (tt 67)), oo 69 (.ld (tt 68)), oo 70 (.mv (tt 3)), oo 71 (.ia 1 (tt 69) (tt 70)), oo 72 (.ld (tt 71)), oo 73 (.len (tt 72)), oo 74 (.bin .lss (tt 65) (tt 73))]
abbrev c_spec_l20Ok_9 : List GOp := [oo 77 (.mv (tt 0)), oo 78 (.nc (tt 77)), oo 79 (.fa 1 (tt 78)), oo 80 (.ld (tt 79)), oo 81 (.mv (tt 3)), oo 82 (.ia 1 (tt 80) (tt 81)), oo 83 (.ld (tt 82)), oo 84 (.mv (tt 4)), oo 85 (.ia 1 (tt 83) (tt 84)), oo 86 (.ld (tt 85)), oo 87 (.call (ff 132) [tt 86, (ci 0), (ci 3)]), oo 88 (.un .not (tt 87))]
abbrev c_spec_l20Ok_10 : List GOp := [oo 2 (.mv (cb  false))]
abbrev c_spec_l20Ok_11 : List GOp := [oo 75 (.mv (tt 4)), oo 76 (.bin .add (tt 75) (ci 1)), oo 4 (.mv (tt 76))]
abbrev c_spec_l20Ok_l0 : GCode := .seq (.seq (.reg c_spec_l20Ok_8) (.cond (tt 74) (.skip) (.exit 2))) (.seq (.blk 3 (.seq (.reg c_spec_l20Ok_9) (.cond (tt 88) (.seq (.reg c_spec_l20Ok_10) (.ret)) (.skip)))) (.reg c_spec_l20Ok_11))
abbrev c_spec_l20Ok_13 : List GOp := [oo 26 (.mv (tt 3)), oo 27 (.bin .add (tt 26) (ci 1)), oo 3 (.mv (tt 27))]
abbrev c_spec_l20Ok_l1 : GCode := .seq (.seq (.reg c_spec_l20Ok_4) (.cond (tt 25) (.skip) (.exit 0))) (.seq (.blk 1 (.seq (.seq (.dreg c_spec_l20Ok_5) (.cond (tt 64) (.seq (.reg c_spec_l20Ok_6) (.ret)) (.skip))) (.seq (.reg c_spec_l20Ok_7) (.blk 2 (.loop c_spec_l20Ok_l0))))) (.reg c_spec_l20Ok_13))
abbrev c_spec_l20Ok_15 : List GOp := [oo 2 (.mv (cb  true))]
abbrev c_spec_l20Ok : GCode := .seq (.reg c_spec_l20Ok_0) (.seq (.seq (.reg c_spec_l20Ok_1) (.cond (tt 18) (.seq (.reg c_spec_l20Ok_2) (.ret)) (.skip))) (.seq (.seq (.reg c_spec_l20Ok_3) (.blk 0 (.loop c_spec_l20Ok_l1))) (.seq (.reg c_spec_l20Ok_15) (.ret))))
theorem c_spec_l20Ok_d : decFn Tryz.prog Tryz.f113 = some (89, [.t 2], c_spec_l20Ok) := by kernel_rfl
theorem c_spec_l20Ok_i {args : List Value} {G : GH} {K : Value → GH → Prop} (hn : args.length ≤ 89) (h : gW Tryz.prog c_spec_l20Ok (RetK [.t 2] K) (T0 args) G) : GC Tryz.prog 113 args G K := GC_intro mixed Tryz.func113 c_spec_l20Ok_d hn h
abbrev c_spec_l20Project_0 : List GOp := [oo 4 (.al [.slice none 0 0, .slice none 0 0])]
abbrev c_spec_l20Project_1 : List GOp := [oo 9 (.mv (tt 1)), oo 10 (.call (ff 73) [tt 9]), oo 11 (.bs 1 []), oo 12 (.bld [.slice none 0 0, .slice none 0 0] [(0, 1, (tt 10)), (1, 1, (tt 11))]), oo 5 (.al [.slice none 0 0, .slice none 0 0]), on (.st 2 (tt 5) (tt 12))]
abbrev c_spec_l20Project_2 : List GOp := [oo 6 (.mv (ci 0))]
abbrev c_spec_l20Project_3 : List GOp := [oo 13 (.mv (tt 6)), oo 14 (.mv (tt 0)), oo 15 (.nc (tt 14)), oo 16 (.fa 1 (tt 15)), oo 17 (.ld (tt 16)), oo 18 (.len (tt 17)), oo 19 (.bin .lss (tt 13) (tt 18))]
abbrev c_spec_l20Project_4 : List GOp := [oo 22 (.bs 1 []), oo 7 (.mv (tt 22))]
abbrev c_spec_l20Project_5 : List GOp := [oo 8 (.mv (ci 0))]
abbrev c_spec_l20Project_6 : List GOp := [oo 23 (.mv (tt 8)), oo 24 (.mv (tt 1)), oo 25 (.len (tt 24)), oo 26 (.bin .lss (tt 23) (tt 25))]
abbrev c_spec_l20Project_7 : List DOp := [dl 0 (oo 29 (.mv (tt 7))), dl 1 (oo 30 (.mv (tt 0))), dl 2 (oo 31 (.nc (tt 30))), dl 3 (oo 32 (.fa 0 (tt 31))), dl 4 (oo 33 (.ld (tt 32))), dl 5 (oo 34 (.mv (tt 0))), dl 6 (oo 35 (.nc (tt 34))), dl 7 (oo 36 (.fa 1 (tt 35))), dl 8 (oo 37 (.ld (tt 36))), dl 9 (oo 38 (.mv (tt 6))), dl 10 (oo 39 (.ia 1 (tt 37) (tt 38))), dl 11 (oo 40 (.ld (tt 39))), dl 12 (oo 41 (.mv (tt 1))), dl 13 (oo 42 (.mv (tt 8))), dl 14 (oo 43 (.ia 1 (tt 41) (tt 42))), dl 15 (oo 44 (.ld (tt 43))), dh 16 [8] (oo 45 (.call (ff 231) [tt 33, tt 40, tt 44])), dh 17 [15, 11, 8, 4] (oo 46 (.bs 1 [tt 45])), dh 18 [15, 11, 8, 4] (oo 47 (.ap 1 8 [.int .i64 0] (tt 29) (tt 46))), dl 19 (oo 7 (.mv (tt 47)))]
abbrev c_spec_l20Project_8 : List GOp := [oo 27 (.mv (tt 8)), oo 28 (.bin .add (tt 27) (ci 1)), oo 8 (.mv (tt 28))]
abbrev c_spec_l20Project_l0 : GCode := .seq (.seq (.reg c_spec_l20Project_6) (.cond (tt 26) (.skip) (.exit 2))) (.seq (.blk 3 (.dreg c_spec_l20Project_7)) (.reg c_spec_l20Project_8))
abbrev c_spec_l20Project_10 : List GOp := [oo 48 (.fa 1 (tt 5)), oo 49 (.ld (tt 48)), oo 50 (.mv (tt 7)), oo 51 (.call (ff 179) [tt 49, tt 50]), oo 52 (.fa 1 (tt 5)), on (.st 1 (tt 52) (tt 51))]
abbrev c_spec_l20Project_11 : List GOp := [oo 20 (.mv (tt 6)), oo 21 (.bin .add (tt 20) (ci 1)), oo 6 (.mv (tt 21))]
abbrev c_spec_l20Project_l1 : GCode := .seq (.seq (.reg c_spec_l20Project_3) (.cond (tt 19) (.skip) (.exit 0))) (.seq (.blk 1 (.seq (.reg c_spec_l20Project_4) (.seq (.seq (.reg c_spec_l20Project_5) (.blk 2 (.loop c_spec_l20Project_l0))) (.reg c_spec_l20Project_10)))) (.reg c_spec_l20Project_11))
abbrev c_spec_l20Project_13 : List GOp := [oo 53 (.ldn 2 (tt 5)), on (.st 2 (tt 4) (tt 53))]
abbrev c_spec_l20Project : GCode := .seq (.reg c_spec_l20Project_0) (.seq (.reg c_spec_l20Project_1) (.seq (.seq (.reg c_spec_l20Project_2) (.blk 0 (.loop c_spec_l20Project_l1))) (.seq (.reg c_spec_l20Project_13) (.ret))))
theorem c_spec_l20Project_d : decFn Tryz.prog Tryz.f194 = some (54, [.cn 4 2], c_spec_l20Project) := by kernel_rfl
theorem c_spec_l20Project_i {args : List Value} {G : GH} {K : Value → GH → Prop} (hn : args.length ≤ 54) (h : gW Tryz.prog c_spec_l20Project (RetK [.cn 4 2] K) (T0 args) G) : GC Tryz.prog 194 args G K := GC_intro mixed Tryz.func194 c_spec_l20Project_d hn h
abbrev c_spec_l20Put_0 : List GOp := [oo 4 (.mv (.const (.slice none 0 0)))]
abbrev c_spec_l20Put_1 : List GOp := [oo 8 (.bs 1 []), oo 5 (.mv (tt 8))]
abbrev c_spec_l20Put_2 : List GOp := [oo 6 (.mv (cb  false))]
abbrev c_spec_l20Put_3 : List GOp := [oo 7 (.mv (ci 0))]
abbrev c_spec_l20Put_4 : List GOp := [oo 9 (.mv (tt 7)), oo 10 (.mv (tt 0)), oo 11 (.len (tt 10)), oo 12 (.bin .lss (tt 9) (tt 11))]
abbrev c_spec_l20Put_5 : List GOp := [oo 15 (.mv (tt 0)), oo 16 (.mv (tt 7)), oo 17 (.ia 1 (tt 15) (tt 16)), oo 18 (.ld (tt 17)), oo 19 (.mv (tt 1)), oo 20 (.call (ff 192) [tt 18, tt 19])]
abbrev c_spec_l20Put_6 : List GOp := [oo 6 (.mv (cb  true))]
abbrev c_spec_l20Put_7 : List GOp := [oo 21 (.mv (tt 6)), oo 22 (.un .not (tt 21)), oo 23 (.mv (tt 22)), og 24 23 true (.mv (tt 1)), og 25 23 true (.mv (tt 0)), og 26 23 true (.mv (tt 7)), og 27 23 true (.ia 1 (tt 25) (tt 26)), og 28 23 true (.ld (tt 27)), og 29 23 true (.call (ff 191) [tt 24, tt 28]), oo 30 (.pick (tt 23) (tt 29) (cb  false))]
abbrev c_spec_l20Put_8 : List GOp := [oo 31 (.mv (tt 5)), oo 32 (.mv (tt 1)), oo 33 (.call (ff 73) [tt 32]), oo 34 (.bs 1 [tt 33]), oo 35 (.ap 1 24 [.slice none 0 0] (tt 31) (tt 34)), oo 5 (.mv (tt 35))]
abbrev c_spec_l20Put_9 : List GOp := [oo 6 (.mv (cb  true))]
abbrev c_spec_l20Put_10 : List GOp := [oo 36 (.mv (tt 5)), oo 37 (.mv (tt 0)), oo 38 (.mv (tt 7)), oo 39 (.ia 1 (tt 37) (tt 38)), oo 40 (.ld (tt 39)), oo 41 (.bs 1 [tt 40]), oo 42 (.ap 1 24 [.slice none 0 0] (tt 36) (tt 41)), oo 5 (.mv (tt 42))]
abbrev c_spec_l20Put_11 : List GOp := [oo 13 (.mv (tt 7)), oo 14 (.bin .add (tt 13) (ci 1)), oo 7 (.mv (tt 14))]
abbrev c_spec_l20Put_l0 : GCode := .seq (.seq (.reg c_spec_l20Put_4) (.cond (tt 12) (.skip) (.exit 0))) (.seq (.blk 1 (.seq (.seq (.reg c_spec_l20Put_5) (.cond (tt 20) (.reg c_spec_l20Put_6) (.skip))) (.seq (.seq (.reg c_spec_l20Put_7) (.cond (tt 30) (.seq (.reg c_spec_l20Put_8) (.reg c_spec_l20Put_9)) (.skip))) (.reg c_spec_l20Put_10)))) (.reg c_spec_l20Put_11))
abbrev c_spec_l20Put_13 : List GOp := [oo 43 (.mv (tt 6)), oo 44 (.un .not (tt 43))]
abbrev c_spec_l20Put_14 : List GOp := [oo 45 (.mv (tt 5)), oo 46 (.mv (tt 1)), oo 47 (.call (ff 73) [tt 46]), oo 48 (.bs 1 [tt 47]), oo 49 (.ap 1 24 [.slice none 0 0] (tt 45) (tt 48)), oo 5 (.mv (tt 49))]
abbrev c_spec_l20Put_15 : List GOp := [oo 50 (.mv (tt 5)), oo 4 (.mv (tt 50))]
abbrev c_spec_l20Put : GCode := .seq (.reg c_spec_l20Put_0) (.seq (.reg c_spec_l20Put_1) (.seq (.reg c_spec_l20Put_2) (.seq (.seq (.reg c_spec_l20Put_3) (.blk 0 (.loop c_spec_l20Put_l0))) (.seq (.seq (.reg c_spec_l20Put_13) (.cond (tt 44) (.reg c_spec_l20Put_14) (.skip))) (.seq (.reg c_spec_l20Put_15) (.ret))))))
theorem c_spec_l20Put_d : decFn Tryz.prog Tryz.f179 = some (51, [.t 4], c_spec_l20Put) := by kernel_rfl
theorem c_spec_l20Put_i {args : List Value} {G : GH} {K : Value → GH → Prop} (hn : args.length ≤ 51) (h : gW Tryz.prog c_spec_l20Put (RetK [.t 4] K) (T0 args) G) : GC Tryz.prog 179 args G K := GC_intro mixed Tryz.func179 c_spec_l20Put_d hn h
abbrev c_spec_l20Same_0 : List GOp := [oo 4 (.mv (cb  false))]
abbrev c_spec_l20Same_1 : List DOp := [dl 0 (oo 5 (.mv (tt 0))), dl 1 (oo 6 (.nc (tt 5))), dl 2 (oo 7 (.fa 0 (tt 6))), dl 3 (oo 8 (.ld (tt 7))), dl 4 (oo 9 (.mv (tt 1))), dl 5 (oo 10 (.nc (tt 9))), dl 6 (oo 11 (.fa 0 (tt 10))), dl 7 (oo 12 (.ld (tt 11))), dh 8 [] (oo 13 (.call (ff 192) [tt 8, tt 12])), dl 9 (oo 14 (.mv (tt 13))), dl 10 (og 15 14 true (.mv (tt 0))), dl 11 (og 16 14 true (.nc (tt 15))), dl 12 (og 17 14 true (.fa 1 (tt 16))), dl 13 (og 18 14 true (.ld (tt 17))), dl 14 (og 19 14 true (.mv (tt 1))), dl 15 (og 20 14 true (.nc (tt 19))), dl 16 (og 21 14 true (.fa 1 (tt 20))), dl 17 (og 22 14 true (.ld (tt 21))), dh 18 [7, 3] (og 23 14 true (.call (ff 193) [tt 18, tt 22])), dl 19 (oo 24 (.pick (tt 14) (tt 23) (cb  false))), dl 20 (oo 4 (.mv (tt 24)))]
abbrev c_spec_l20Same : GCode := .seq (.reg c_spec_l20Same_0) (.seq (.dreg c_spec_l20Same_1) (.ret))
theorem c_spec_l20Same_d : decFn Tryz.prog Tryz.f114 = some (25, [.t 4], c_spec_l20Same) := by kernel_rfl
theorem c_spec_l20Same_i {args : List Value} {G : GH} {K : Value → GH → Prop} (hn : args.length ≤ 25) (h : gW Tryz.prog c_spec_l20Same (RetK [.t 4] K) (T0 args) G) : GC Tryz.prog 114 args G K := GC_intro mixed Tryz.func114 c_spec_l20Same_d hn h

end Go.Proofs.YtanpmilodaejpaaGreat.Gh
