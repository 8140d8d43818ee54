/- Code trees that the law AgreesWithin reaches: each is what the decoding gives (checked by the kernel). -/
import Derived.Test.YtdnipjkpfpahmaaGreatC0
import Derived.Test.YtdnipjkpfpahmaaGreatFm
import Derived.Test.YtdnipjkpfpahmaaGreatFn
import Derived.Test.YtdnipjkpfpahmaaGreatFz
namespace Go.Proofs.YtdnipjkpfpahmaaGreat.Gh
open Go Go.RowKit Go.Proofs
set_option linter.unusedVariables false
set_option linter.unusedSimpArgs false
set_option maxHeartbeats 4000000

abbrev c_cmp_Compare_int_0 : List GOp := [oo 4 (.mv (ci 0))]
abbrev c_cmp_Compare_int_1 : List GOp := [oo 7 (.mv (tt 0)), oo 8 (.call (ff 219) [tt 7]), oo 5 (.mv (tt 8))]
abbrev c_cmp_Compare_int_2 : List GOp := [oo 9 (.mv (tt 1)), oo 10 (.call (ff 219) [tt 9]), oo 6 (.mv (tt 10))]
abbrev c_cmp_Compare_int_3 : List GOp := [oo 11 (.mv (tt 5))]
abbrev c_cmp_Compare_int_4 : List GOp := [oo 12 (.mv (tt 6))]
abbrev c_cmp_Compare_int_5 : List GOp := [oo 4 (.mv (ci 0))]
abbrev c_cmp_Compare_int_6 : List GOp := [oo 4 (.mv (ci (-1)))]
abbrev c_cmp_Compare_int_7 : List GOp := [oo 13 (.mv (tt 6))]
abbrev c_cmp_Compare_int_8 : List GOp := [oo 4 (.mv (ci 1))]
abbrev c_cmp_Compare_int_9 : List GOp := [oo 14 (.mv (tt 0)), oo 15 (.mv (tt 1)), oo 16 (.bin .lss (tt 14) (tt 15))]
abbrev c_cmp_Compare_int_10 : List GOp := [oo 4 (.mv (ci (-1)))]
abbrev c_cmp_Compare_int_11 : List GOp := [oo 17 (.mv (tt 0)), oo 18 (.mv (tt 1)), oo 19 (.bin .gtr (tt 17) (tt 18))]
abbrev c_cmp_Compare_int_12 : List GOp := [oo 4 (.mv (ci 1))]
abbrev c_cmp_Compare_int_13 : List GOp := [oo 4 (.mv (ci 0))]
abbrev c_cmp_Compare_int : GCode := .seq (.reg c_cmp_Compare_int_0) (.seq (.reg c_cmp_Compare_int_1) (.seq (.reg c_cmp_Compare_int_2) (.seq (.seq (.reg c_cmp_Compare_int_3) (.cond (tt 11) (.seq (.seq (.reg c_cmp_Compare_int_4) (.cond (tt 12) (.seq (.reg c_cmp_Compare_int_5) (.ret)) (.skip))) (.seq (.reg c_cmp_Compare_int_6) (.ret))) (.skip))) (.seq (.seq (.reg c_cmp_Compare_int_7) (.cond (tt 13) (.seq (.reg c_cmp_Compare_int_8) (.ret)) (.skip))) (.seq (.seq (.reg c_cmp_Compare_int_9) (.cond (tt 16) (.seq (.reg c_cmp_Compare_int_10) (.ret)) (.skip))) (.seq (.seq (.reg c_cmp_Compare_int_11) (.cond (tt 19) (.seq (.reg c_cmp_Compare_int_12) (.ret)) (.skip))) (.seq (.reg c_cmp_Compare_int_13) (.ret))))))))
theorem c_cmp_Compare_int_d : decFn Tryz.prog Tryz.f212 = some (20, [.t 4], c_cmp_Compare_int) := by kernel_rfl
theorem c_cmp_Compare_int_i {args : List Value} {G : GH} {K : Value → GH → Prop} (hn : args.length ≤ 20) (h : gW Tryz.prog c_cmp_Compare_int (RetK [.t 4] K) (T0 args) G) : GC Tryz.prog 212 args G K := GC_intro mixed Tryz.func212 c_cmp_Compare_int_d hn h
abbrev c_cmp_Compare_int64_0 : List GOp := [oo 4 (.mv (ci 0))]
abbrev c_cmp_Compare_int64_1 : List GOp := [oo 7 (.mv (tt 0)), oo 8 (.call (ff 222) [tt 7]), oo 5 (.mv (tt 8))]
abbrev c_cmp_Compare_int64_2 : List GOp := [oo 9 (.mv (tt 1)), oo 10 (.call (ff 222) [tt 9]), oo 6 (.mv (tt 10))]
abbrev c_cmp_Compare_int64_3 : List GOp := [oo 11 (.mv (tt 5))]
abbrev c_cmp_Compare_int64_4 : List GOp := [oo 12 (.mv (tt 6))]
abbrev c_cmp_Compare_int64_5 : List GOp := [oo 4 (.mv (ci 0))]
abbrev c_cmp_Compare_int64_6 : List GOp := [oo 4 (.mv (ci (-1)))]
abbrev c_cmp_Compare_int64_7 : List GOp := [oo 13 (.mv (tt 6))]
abbrev c_cmp_Compare_int64_8 : List GOp := [oo 4 (.mv (ci 1))]
abbrev c_cmp_Compare_int64_9 : List GOp := [oo 14 (.mv (tt 0)), oo 15 (.mv (tt 1)), oo 16 (.bin .lss (tt 14) (tt 15))]
abbrev c_cmp_Compare_int64_10 : List GOp := [oo 4 (.mv (ci (-1)))]
abbrev c_cmp_Compare_int64_11 : List GOp := [oo 17 (.mv (tt 0)), oo 18 (.mv (tt 1)), oo 19 (.bin .gtr (tt 17) (tt 18))]
abbrev c_cmp_Compare_int64_12 : List GOp := [oo 4 (.mv (ci 1))]
abbrev c_cmp_Compare_int64_13 : List GOp := [oo 4 (.mv (ci 0))]
abbrev c_cmp_Compare_int64 : GCode := .seq (.reg c_cmp_Compare_int64_0) (.seq (.reg c_cmp_Compare_int64_1) (.seq (.reg c_cmp_Compare_int64_2) (.seq (.seq (.reg c_cmp_Compare_int64_3) (.cond (tt 11) (.seq (.seq (.reg c_cmp_Compare_int64_4) (.cond (tt 12) (.seq (.reg c_cmp_Compare_int64_5) (.ret)) (.skip))) (.seq (.reg c_cmp_Compare_int64_6) (.ret))) (.skip))) (.seq (.seq (.reg c_cmp_Compare_int64_7) (.cond (tt 13) (.seq (.reg c_cmp_Compare_int64_8) (.ret)) (.skip))) (.seq (.seq (.reg c_cmp_Compare_int64_9) (.cond (tt 16) (.seq (.reg c_cmp_Compare_int64_10) (.ret)) (.skip))) (.seq (.seq (.reg c_cmp_Compare_int64_11) (.cond (tt 19) (.seq (.reg c_cmp_Compare_int64_12) (.ret)) (.skip))) (.seq (.reg c_cmp_Compare_int64_13) (.ret))))))))
theorem c_cmp_Compare_int64_d : decFn Tryz.prog Tryz.f220 = some (20, [.t 4], c_cmp_Compare_int64) := by kernel_rfl
theorem c_cmp_Compare_int64_i {args : List Value} {G : GH} {K : Value → GH → Prop} (hn : args.length ≤ 20) (h : gW Tryz.prog c_cmp_Compare_int64 (RetK [.t 4] K) (T0 args) G) : GC Tryz.prog 220 args G K := GC_intro mixed Tryz.func220 c_cmp_Compare_int64_d hn h
abbrev c_cmp_Or_int_0 : List GOp := [oo 2 (.mv (ci 0))]
abbrev c_cmp_Or_int_1 : List GOp := [oo 3 (.mv (ci 0))]
abbrev c_cmp_Or_int_2 : List GOp := [oo 6 (.mv (tt 0)), oo 7 (.len (tt 6)), oo 8 (.mv (ci 0))]
abbrev c_cmp_Or_int_3 : List GOp := [oo 9 (.bin .lss (tt 8) (tt 7))]
abbrev c_cmp_Or_int_4 : List GOp := [oo 10 (.ia 1 (tt 6) (tt 8)), oo 11 (.ld (tt 10)), oo 5 (.mv (tt 11))]
abbrev c_cmp_Or_int_5 : List GOp := [oo 12 (.mv (tt 5)), oo 13 (.mv (tt 3)), oo 14 (.bin .neq (tt 12) (tt 13))]
abbrev c_cmp_Or_int_6 : List GOp := [oo 15 (.mv (tt 5)), oo 2 (.mv (tt 15))]
abbrev c_cmp_Or_int_7 : List GOp := [oo 16 (.bin .add (tt 8) (ci 1)), oo 8 (.mv (tt 16))]
abbrev c_cmp_Or_int_l0 : GCode := .seq (.reg c_cmp_Or_int_3) (.seq (.cond (tt 9) (.skip) (.exit 0)) (.seq (.blk 1 (.seq (.reg c_cmp_Or_int_4) (.seq (.reg c_cmp_Or_int_5) (.cond (tt 14) (.seq (.reg c_cmp_Or_int_6) (.ret)) (.skip))))) (.reg c_cmp_Or_int_7)))
abbrev c_cmp_Or_int_9 : List GOp := [oo 17 (.mv (tt 3)), oo 2 (.mv (tt 17))]
abbrev c_cmp_Or_int : GCode := .seq (.reg c_cmp_Or_int_0) (.seq (.reg c_cmp_Or_int_1) (.seq (.seq (.reg c_cmp_Or_int_2) (.blk 0 (.loop c_cmp_Or_int_l0))) (.seq (.reg c_cmp_Or_int_9) (.ret))))
theorem c_cmp_Or_int_d : decFn Tryz.prog Tryz.f211 = some (18, [.t 2], c_cmp_Or_int) := by kernel_rfl
theorem c_cmp_Or_int_i {args : List Value} {G : GH} {K : Value → GH → Prop} (hn : args.length ≤ 18) (h : gW Tryz.prog c_cmp_Or_int (RetK [.t 2] K) (T0 args) G) : GC Tryz.prog 211 args G K := GC_intro mixed Tryz.func211 c_cmp_Or_int_d hn h
abbrev c_cmp_isNaN_int_0 : List GOp := [oo 2 (.mv (cb  false))]
abbrev c_cmp_isNaN_int_1 : List GOp := [oo 3 (.mv (tt 0)), oo 4 (.mv (tt 0)), oo 5 (.bin .neq (tt 3) (tt 4)), oo 2 (.mv (tt 5))]
abbrev c_cmp_isNaN_int : GCode := .seq (.reg c_cmp_isNaN_int_0) (.seq (.reg c_cmp_isNaN_int_1) (.ret))
theorem c_cmp_isNaN_int_d : decFn Tryz.prog Tryz.f219 = some (6, [.t 2], c_cmp_isNaN_int) := by kernel_rfl
theorem c_cmp_isNaN_int_i {args : List Value} {G : GH} {K : Value → GH → Prop} (hn : args.length ≤ 6) (h : gW Tryz.prog c_cmp_isNaN_int (RetK [.t 2] K) (T0 args) G) : GC Tryz.prog 219 args G K := GC_intro mixed Tryz.func219 c_cmp_isNaN_int_d hn h
abbrev c_cmp_isNaN_int64_0 : List GOp := [oo 2 (.mv (cb  false))]
abbrev c_cmp_isNaN_int64_1 : List GOp := [oo 3 (.mv (tt 0)), oo 4 (.mv (tt 0)), oo 5 (.bin .neq (tt 3) (tt 4)), oo 2 (.mv (tt 5))]
abbrev c_cmp_isNaN_int64 : GCode := .seq (.reg c_cmp_isNaN_int64_0) (.seq (.reg c_cmp_isNaN_int64_1) (.ret))
theorem c_cmp_isNaN_int64_d : decFn Tryz.prog Tryz.f222 = some (6, [.t 2], c_cmp_isNaN_int64) := by kernel_rfl
theorem c_cmp_isNaN_int64_i {args : List Value} {G : GH} {K : Value → GH → Prop} (hn : args.length ≤ 6) (h : gW Tryz.prog c_cmp_isNaN_int64 (RetK [.t 2] K) (T0 args) G) : GC Tryz.prog 222 args G K := GC_intro mixed Tryz.func222 c_cmp_isNaN_int64_d hn h
abbrev c_impl_AgreesWithin_0 : List GOp := [oo 3 (.bx (tt 0)), oo 5 (.bx (tt 2)), oo 6 (.mv (cb  false))]
abbrev c_impl_AgreesWithin_1 : List GOp := [oo 7 (.ldn 4 (tt 3)), oo 8 (.mv (tt 1)), oo 9 (.ld (tt 5)), oo 10 (.call (ff 49) [tt 7, tt 8, tt 9]), oo 11 (.bin .eql (tt 10) (ci 0)), oo 12 (.mv (tt 11)), og 13 12 true (.ldn 4 (tt 3)), og 14 12 true (.mv (tt 1)), og 15 12 true (.call (ff 50) [tt 13, tt 14]), og 16 12 true (.mf (.func 58) [] [tt 3, tt 5]), og 17 12 true (.call (ff 57) [tt 15, tt 16]), og 18 12 true (.un .not (tt 17)), oo 19 (.pick (tt 12) (tt 18) (cb  false)), oo 6 (.mv (tt 19))]
abbrev c_impl_AgreesWithin : GCode := .seq (.reg c_impl_AgreesWithin_0) (.seq (.reg c_impl_AgreesWithin_1) (.ret))
theorem c_impl_AgreesWithin_d : decFn Tryz.prog Tryz.f24 = some (20, [.t 6], c_impl_AgreesWithin) := by kernel_rfl
theorem c_impl_AgreesWithin_i {args : List Value} {G : GH} {K : Value → GH → Prop} (hn : args.length ≤ 20) (h : gW Tryz.prog c_impl_AgreesWithin (RetK [.t 6] K) (T0 args) G) : GC Tryz.prog 24 args G K := GC_intro mixed Tryz.func24 c_impl_AgreesWithin_d hn h
abbrev c_impl_AgreesWithin_fn1_0 : List GOp := [oo 4 (.mv (cb  false))]
abbrev c_impl_AgreesWithin_fn1_1 : List GOp := [oo 5 (.ldn 4 (tt 1)), oo 6 (.mv (tt 0)), oo 7 (.ld (tt 2)), oo 8 (.call (ff 59) [tt 5, tt 6, tt 7]), oo 4 (.mv (tt 8))]
abbrev c_impl_AgreesWithin_fn1 : GCode := .seq (.reg c_impl_AgreesWithin_fn1_0) (.seq (.reg c_impl_AgreesWithin_fn1_1) (.ret))
theorem c_impl_AgreesWithin_fn1_d : decFn Tryz.prog Tryz.f58 = some (9, [.t 4], c_impl_AgreesWithin_fn1) := by kernel_rfl
theorem c_impl_AgreesWithin_fn1_i {args : List Value} {G : GH} {K : Value → GH → Prop} (hn : args.length ≤ 9) (h : gW Tryz.prog c_impl_AgreesWithin_fn1 (RetK [.t 4] K) (T0 args) G) : GC Tryz.prog 58 args G K := GC_intro mixed Tryz.func58 c_impl_AgreesWithin_fn1_d hn h
abbrev c_impl_IsSheaf_0 : List GOp := [oo 1 (.bx (tt 0)), oo 2 (.mv (cb  false))]
abbrev c_impl_IsSheaf_1 : List GOp := [oo 6 (.ldn 4 (tt 1)), oo 7 (.call (ff 152) [tt 6]), oo 8 (.un .not (tt 7))]
abbrev c_impl_IsSheaf_2 : List GOp := [oo 2 (.mv (cb  false))]
abbrev c_impl_IsSheaf_3 : List GOp := [oo 10 (.ldn 4 (tt 1)), oo 11 (.call (ff 153) [tt 10]), oo 9 (.mv (tt 11)), oo 12 (.ex 0 (tt 9)), oo 13 (.ex 1 (tt 9)), oo 14 (.ex 2 (tt 9)), oo 3 (.mv (tt 12)), oo 4 (.mv (tt 13)), oo 5 (.mv (tt 14))]
abbrev c_impl_IsSheaf_4 : List GOp := [oo 15 (.mv (tt 5)), oo 16 (.un .not (tt 15)), oo 2 (.mv (tt 16))]
abbrev c_impl_IsSheaf : GCode := .seq (.reg c_impl_IsSheaf_0) (.seq (.seq (.reg c_impl_IsSheaf_1) (.cond (tt 8) (.seq (.reg c_impl_IsSheaf_2) (.ret)) (.skip))) (.seq (.reg c_impl_IsSheaf_3) (.seq (.reg c_impl_IsSheaf_4) (.ret))))
theorem c_impl_IsSheaf_d : decFn Tryz.prog Tryz.f98 = some (17, [.t 2], c_impl_IsSheaf) := by kernel_rfl
theorem c_impl_IsSheaf_i {args : List Value} {G : GH} {K : Value → GH → Prop} (hn : args.length ≤ 17) (h : gW Tryz.prog c_impl_IsSheaf (RetK [.t 2] K) (T0 args) G) : GC Tryz.prog 98 args G K := GC_intro mixed Tryz.func98 c_impl_IsSheaf_d hn h
abbrev c_impl_Matrix_at_0 : List GOp := [oo 3 (.bx (tt 0)), oo 6 (.mv (ci 0))]
abbrev c_impl_Matrix_at_1 : List GOp := [oo 7 (.fa 3 (tt 3)), oo 8 (.ld (tt 7)), oo 9 (.mv (tt 1)), oo 10 (.fa 2 (tt 3)), oo 11 (.ld (tt 10)), oo 12 (.bin .mul (tt 9) (tt 11)), oo 13 (.mv (tt 2)), oo 14 (.bin .add (tt 12) (tt 13)), oo 15 (.ia 1 (tt 8) (tt 14)), oo 16 (.ld (tt 15)), oo 6 (.mv (tt 16))]
abbrev c_impl_Matrix_at : GCode := .seq (.reg c_impl_Matrix_at_0) (.seq (.reg c_impl_Matrix_at_1) (.ret))
theorem c_impl_Matrix_at_d : decFn Tryz.prog Tryz.f126 = some (17, [.t 6], c_impl_Matrix_at) := by kernel_rfl
theorem c_impl_Matrix_at_i {args : List Value} {G : GH} {K : Value → GH → Prop} (hn : args.length ≤ 17) (h : gW Tryz.prog c_impl_Matrix_at (RetK [.t 6] K) (T0 args) G) : GC Tryz.prog 126 args G K := GC_intro mixed Tryz.func126 c_impl_Matrix_at_d hn h
abbrev c_impl_Matrix_row_0 : List GOp := [oo 2 (.bx (tt 0)), oo 4 (.mv (.const (.slice none 0 0)))]
abbrev c_impl_Matrix_row_1 : List GOp := [oo 5 (.fa 3 (tt 2)), oo 6 (.ld (tt 5)), oo 7 (.mv (tt 1)), oo 8 (.fa 2 (tt 2)), oo 9 (.ld (tt 8)), oo 10 (.bin .mul (tt 7) (tt 9)), oo 11 (.mv (tt 1)), oo 12 (.bin .add (tt 11) (ci 1)), oo 13 (.fa 2 (tt 2)), oo 14 (.ld (tt 13)), oo 15 (.bin .mul (tt 12) (tt 14)), oo 16 (.sl 1 (tt 6) (some (tt 10)) (some (tt 15))), oo 4 (.mv (tt 16))]
abbrev c_impl_Matrix_row : GCode := .seq (.reg c_impl_Matrix_row_0) (.seq (.reg c_impl_Matrix_row_1) (.ret))
theorem c_impl_Matrix_row_d : decFn Tryz.prog Tryz.f157 = some (17, [.t 4], c_impl_Matrix_row) := by kernel_rfl
theorem c_impl_Matrix_row_i {args : List Value} {G : GH} {K : Value → GH → Prop} (hn : args.length ≤ 17) (h : gW Tryz.prog c_impl_Matrix_row (RetK [.t 4] K) (T0 args) G) : GC Tryz.prog 157 args G K := GC_intro mixed Tryz.func157 c_impl_Matrix_row_d hn h
abbrev c_impl_SameMatrix_0 : List GOp := [oo 2 (.bx (tt 0)), oo 3 (.bx (tt 1)), oo 4 (.mv (cb  false))]
abbrev c_impl_SameMatrix_1 : List GOp := [oo 5 (.fa 0 (tt 2)), oo 6 (.ld (tt 5)), oo 7 (.fa 0 (tt 3)), oo 8 (.ld (tt 7)), oo 9 (.bin .eql (tt 6) (tt 8)), oo 10 (.mv (tt 9)), og 11 10 true (.fa 1 (tt 2)), og 12 10 true (.ld (tt 11)), og 13 10 true (.fa 1 (tt 3)), og 14 10 true (.ld (tt 13)), og 15 10 true (.bin .eql (tt 12) (tt 14)), oo 16 (.pick (tt 10) (tt 15) (cb  false)), oo 17 (.mv (tt 16)), og 18 17 true (.fa 2 (tt 2)), og 19 17 true (.ld (tt 18)), og 20 17 true (.fa 2 (tt 3)), og 21 17 true (.ld (tt 20)), og 22 17 true (.bin .eql (tt 19) (tt 21)), oo 23 (.pick (tt 17) (tt 22) (cb  false)), oo 24 (.mv (tt 23)), og 25 24 true (.fa 3 (tt 2)), og 26 24 true (.ld (tt 25)), og 27 24 true (.fa 3 (tt 3)), og 28 24 true (.ld (tt 27)), og 29 24 true (.call (ff 209) [tt 26, tt 28]), oo 30 (.pick (tt 24) (tt 29) (cb  false)), oo 4 (.mv (tt 30))]
abbrev c_impl_SameMatrix : GCode := .seq (.reg c_impl_SameMatrix_0) (.seq (.reg c_impl_SameMatrix_1) (.ret))
theorem c_impl_SameMatrix_d : decFn Tryz.prog Tryz.f185 = some (31, [.t 4], c_impl_SameMatrix) := by kernel_rfl
theorem c_impl_SameMatrix_i {args : List Value} {G : GH} {K : Value → GH → Prop} (hn : args.length ≤ 31) (h : gW Tryz.prog c_impl_SameMatrix (RetK [.t 4] K) (T0 args) G) : GC Tryz.prog 185 args G K := GC_intro mixed Tryz.func185 c_impl_SameMatrix_d hn h
abbrev c_impl_ValidComplex_0 : List GOp := [oo 1 (.bx (tt 0)), oo 2 (.mv (cb  false))]
abbrev c_impl_ValidComplex_1 : List GOp := [oo 5 (.fa 0 (tt 1)), oo 6 (.ld (tt 5)), oo 7 (.len (tt 6)), oo 8 (.mv (ci 0))]
abbrev c_impl_ValidComplex_2 : List GOp := [oo 9 (.bin .lss (tt 8) (tt 7))]
abbrev c_impl_ValidComplex_3 : List GOp := [oo 10 (.mv (tt 8)), oo 11 (.ia 1 (tt 6) (tt 8)), oo 12 (.ld (tt 11)), oo 3 (.al [.int .i64 0]), on (.st 1 (tt 3) (tt 10)), oo 4 (.mv (tt 12))]
abbrev c_impl_ValidComplex_4 : List GOp := [oo 13 (.mv (tt 4)), oo 14 (.call (ff 201) [tt 13]), oo 15 (.un .not (tt 14)), oo 16 (.mv (tt 15)), og 17 16 false (.ld (tt 3)), og 18 16 false (.bin .gtr (tt 17) (ci 0)), og 19 16 false (.mv (tt 18)), og 20 19 true (.fa 0 (tt 1)), og 21 19 true (.ld (tt 20)), og 22 19 true (.ld (tt 3)), og 23 19 true (.bin .sub (tt 22) (ci 1)), og 24 19 true (.ia 1 (tt 21) (tt 23)), og 25 19 true (.ld (tt 24)), og 26 19 true (.mv (tt 4)), og 27 19 true (.call (ff 190) [tt 25, tt 26]), og 28 19 true (.bin .geq (tt 27) (ci 0)), og 29 16 false (.pick (tt 19) (tt 28) (cb  false)), oo 30 (.pick (tt 16) (cb  true) (tt 29))]
abbrev c_impl_ValidComplex_5 : List GOp := [oo 2 (.mv (cb  false))]
abbrev c_impl_ValidComplex_6 : List GOp := [oo 31 (.mv (tt 4)), oo 32 (.call (ff 161) [tt 31]), oo 33 (.mf (.func 203) [] [tt 1, tt 3]), oo 34 (.call (ff 202) [tt 32, tt 33])]
abbrev c_impl_ValidComplex_7 : List GOp := [oo 2 (.mv (cb  false))]
abbrev c_impl_ValidComplex_8 : List GOp := [oo 35 (.bin .add (tt 8) (ci 1)), oo 8 (.mv (tt 35))]
abbrev c_impl_ValidComplex_l0 : GCode := .seq (.reg c_impl_ValidComplex_2) (.seq (.cond (tt 9) (.skip) (.exit 0)) (.seq (.blk 1 (.seq (.reg c_impl_ValidComplex_3) (.seq (.seq (.reg c_impl_ValidComplex_4) (.cond (tt 30) (.seq (.reg c_impl_ValidComplex_5) (.ret)) (.skip))) (.seq (.reg c_impl_ValidComplex_6) (.cond (tt 34) (.seq (.reg c_impl_ValidComplex_7) (.ret)) (.skip)))))) (.reg c_impl_ValidComplex_8)))
abbrev c_impl_ValidComplex_10 : List GOp := [oo 36 (.fa 0 (tt 1)), oo 37 (.ld (tt 36)), oo 38 (.len (tt 37)), oo 39 (.bin .leq (tt 38) (ci 48)), oo 2 (.mv (tt 39))]
abbrev c_impl_ValidComplex : GCode := .seq (.reg c_impl_ValidComplex_0) (.seq (.seq (.reg c_impl_ValidComplex_1) (.blk 0 (.loop c_impl_ValidComplex_l0))) (.seq (.reg c_impl_ValidComplex_10) (.ret)))
theorem c_impl_ValidComplex_d : decFn Tryz.prog Tryz.f179 = some (40, [.t 2], c_impl_ValidComplex) := by kernel_rfl
theorem c_impl_ValidComplex_i {args : List Value} {G : GH} {K : Value → GH → Prop} (hn : args.length ≤ 40) (h : gW Tryz.prog c_impl_ValidComplex (RetK [.t 2] K) (T0 args) G) : GC Tryz.prog 179 args G K := GC_intro mixed Tryz.func179 c_impl_ValidComplex_d hn h
abbrev c_impl_ValidComplex_fn1_0 : List GOp := [oo 4 (.mv (cb  false))]
abbrev c_impl_ValidComplex_fn1_1 : List GOp := [oo 5 (.fa 0 (tt 1)), oo 6 (.ld (tt 5)), oo 7 (.ld (tt 2)), oo 8 (.sl 1 (tt 6) none (some (tt 7))), oo 9 (.bld [.slice none 0 0] [(0, 1, (tt 8))]), oo 10 (.mv (tt 0)), oo 11 (.call (ff 162) [tt 9, tt 10]), oo 12 (.bin .lss (tt 11) (ci 0)), oo 4 (.mv (tt 12))]
abbrev c_impl_ValidComplex_fn1 : GCode := .seq (.reg c_impl_ValidComplex_fn1_0) (.seq (.reg c_impl_ValidComplex_fn1_1) (.ret))
theorem c_impl_ValidComplex_fn1_d : decFn Tryz.prog Tryz.f203 = some (13, [.t 4], c_impl_ValidComplex_fn1) := by kernel_rfl
theorem c_impl_ValidComplex_fn1_i {args : List Value} {G : GH} {K : Value → GH → Prop} (hn : args.length ≤ 13) (h : gW Tryz.prog c_impl_ValidComplex_fn1 (RetK [.t 4] K) (T0 args) G) : GC Tryz.prog 203 args G K := GC_intro mixed Tryz.func203 c_impl_ValidComplex_fn1_d hn h
abbrev c_impl_ValidMatrix_0 : List GOp := [oo 1 (.bx (tt 0)), oo 2 (.mv (cb  false))]
abbrev c_impl_ValidMatrix_1 : List DOp := [dl 0 (oo 3 (.fa 0 (tt 1))), dl 1 (oo 4 (.ld (tt 3))), dh 2 [] (oo 5 (.call (ff 180) [tt 4])), dl 3 (oo 6 (.mv (tt 5))), dl 4 (og 7 6 true (.fa 1 (tt 1))), dl 5 (og 8 6 true (.ld (tt 7))), dh 6 [1] (og 9 6 true (.call (ff 217) [tt 8])), dl 7 (oo 10 (.pick (tt 6) (tt 9) (cb  false))), dl 8 (oo 11 (.mv (tt 10))), dl 9 (og 12 11 true (.fa 2 (tt 1))), dl 10 (og 13 11 true (.ld (tt 12))), dh 11 [5, 1] (og 14 11 true (.call (ff 217) [tt 13])), dl 12 (oo 15 (.pick (tt 11) (tt 14) (cb  false))), dl 13 (oo 16 (.mv (tt 15))), dl 14 (og 17 16 true (.fa 3 (tt 1))), dl 15 (og 18 16 true (.ld (tt 17))), dl 17 (og 20 16 true (.fa 1 (tt 1))), dl 18 (og 21 16 true (.ld (tt 20))), dl 19 (og 22 16 true (.fa 2 (tt 1))), dl 20 (og 23 16 true (.ld (tt 22))), dl 21 (og 24 16 true (.bin .mul (tt 21) (tt 23))), dh 16 [20, 18, 10, 5, 1] (og 19 16 true (.call (ff 74) [tt 18])), dl 22 (og 25 16 true (.bin .eql (tt 19) (tt 24))), dl 23 (oo 26 (.pick (tt 16) (tt 25) (cb  false))), dl 24 (oo 27 (.mv (tt 26))), dl 25 (og 28 27 true (.fa 3 (tt 1))), dl 26 (og 29 27 true (.ld (tt 28))), dl 27 (og 30 27 true (.fa 0 (tt 1))), dl 28 (og 31 27 true (.ld (tt 30))), dh 29 [20, 18, 15, 10, 5, 1] (og 32 27 true (.call (ff 102) [tt 29, tt 31])), dl 30 (oo 33 (.pick (tt 27) (tt 32) (cb  false))), dl 31 (oo 2 (.mv (tt 33)))]
abbrev c_impl_ValidMatrix : GCode := .seq (.reg c_impl_ValidMatrix_0) (.seq (.dreg c_impl_ValidMatrix_1) (.ret))
theorem c_impl_ValidMatrix_d : decFn Tryz.prog Tryz.f206 = some (34, [.t 2], c_impl_ValidMatrix) := by kernel_rfl
theorem c_impl_ValidMatrix_i {args : List Value} {G : GH} {K : Value → GH → Prop} (hn : args.length ≤ 34) (h : gW Tryz.prog c_impl_ValidMatrix (RetK [.t 2] K) (T0 args) G) : GC Tryz.prog 206 args G K := GC_intro mixed Tryz.func206 c_impl_ValidMatrix_d hn h
abbrev c_impl_ValidPrime_0 : List GOp := [oo 2 (.mv (cb  false))]
abbrev c_impl_ValidPrime_1 : List GOp := [oo 4 (.mv (tt 0)), oo 5 (.call (ff 167) [tt 4, (ci 2), (ci 251)]), oo 6 (.un .not (tt 5))]
abbrev c_impl_ValidPrime_2 : List GOp := [oo 2 (.mv (cb  false))]
abbrev c_impl_ValidPrime_3 : List GOp := [oo 3 (.mv (ci 2))]
abbrev c_impl_ValidPrime_4 : List GOp := [oo 7 (.mv (tt 3)), oo 8 (.mv (tt 3)), oo 9 (.bin .mul (tt 7) (tt 8)), oo 10 (.mv (tt 0)), oo 11 (.bin .leq (tt 9) (tt 10))]
abbrev c_impl_ValidPrime_5 : List GOp := [oo 14 (.mv (tt 0)), oo 15 (.mv (tt 3)), oo 16 (.bin .rem (tt 14) (tt 15)), oo 17 (.bin .eql (tt 16) (ci 0))]
abbrev c_impl_ValidPrime_6 : List GOp := [oo 2 (.mv (cb  false))]
abbrev c_impl_ValidPrime_7 : List GOp := [oo 12 (.mv (tt 3)), oo 13 (.bin .add (tt 12) (ci 1)), oo 3 (.mv (tt 13))]
abbrev c_impl_ValidPrime_l0 : GCode := .seq (.seq (.reg c_impl_ValidPrime_4) (.cond (tt 11) (.skip) (.exit 0))) (.seq (.blk 1 (.seq (.reg c_impl_ValidPrime_5) (.cond (tt 17) (.seq (.reg c_impl_ValidPrime_6) (.ret)) (.skip)))) (.reg c_impl_ValidPrime_7))
abbrev c_impl_ValidPrime_9 : List GOp := [oo 2 (.mv (cb  true))]
abbrev c_impl_ValidPrime : GCode := .seq (.reg c_impl_ValidPrime_0) (.seq (.seq (.reg c_impl_ValidPrime_1) (.cond (tt 6) (.seq (.reg c_impl_ValidPrime_2) (.ret)) (.skip))) (.seq (.seq (.reg c_impl_ValidPrime_3) (.blk 0 (.loop c_impl_ValidPrime_l0))) (.seq (.reg c_impl_ValidPrime_9) (.ret))))
theorem c_impl_ValidPrime_d : decFn Tryz.prog Tryz.f180 = some (18, [.t 2], c_impl_ValidPrime) := by kernel_rfl
theorem c_impl_ValidPrime_i {args : List Value} {G : GH} {K : Value → GH → Prop} (hn : args.length ≤ 18) (h : gW Tryz.prog c_impl_ValidPrime (RetK [.t 2] K) (T0 args) G) : GC Tryz.prog 180 args G K := GC_intro mixed Tryz.func180 c_impl_ValidPrime_d hn h
abbrev c_impl_ValidSheaf_0 : List GOp := [oo 1 (.bx (tt 0)), oo 2 (.mv (cb  false))]
abbrev c_impl_ValidSheaf_1 : List GOp := [oo 6 (.fa 0 (tt 1)), oo 7 (.ldn 1 (tt 6)), oo 8 (.call (ff 179) [tt 7]), oo 9 (.un .not (tt 8)), oo 10 (.mv (tt 9)), og 11 10 false (.fa 1 (tt 1)), og 12 10 false (.ld (tt 11)), og 13 10 false (.call (ff 180) [tt 12]), og 14 10 false (.un .not (tt 13)), oo 15 (.pick (tt 10) (cb  true) (tt 14)), oo 16 (.mv (tt 15)), og 17 16 false (.fa 0 (tt 1)), og 18 16 false (.ldn 1 (tt 17)), og 19 16 false (.fa 2 (tt 1)), og 20 16 false (.ld (tt 19)), og 21 16 false (.call (ff 181) [tt 18, tt 20]), og 22 16 false (.un .not (tt 21)), oo 23 (.pick (tt 16) (cb  true) (tt 22))]
abbrev c_impl_ValidSheaf_2 : List GOp := [oo 2 (.mv (cb  false))]
abbrev c_impl_ValidSheaf_3 : List GOp := [oo 24 (.fa 0 (tt 1)), oo 25 (.ldn 1 (tt 24)), oo 26 (.call (ff 182) [tt 25]), oo 3 (.mv (tt 26))]
abbrev c_impl_ValidSheaf_4 : List GOp := [oo 27 (.mv (tt 3)), oo 28 (.len (tt 27)), oo 29 (.mv (ci 0))]
abbrev c_impl_ValidSheaf_5 : List GOp := [oo 30 (.bin .lss (tt 29) (tt 28))]
abbrev c_impl_ValidSheaf_6 : List GOp := [oo 31 (.mv (tt 29)), oo 32 (.ia 3 (tt 27) (tt 29)), oo 33 (.ldn 3 (tt 32)), oo 5 (.al [.int .i64 0, .int .i64 0, .int .i64 0]), oo 4 (.mv (tt 31)), on (.st 3 (tt 5) (tt 33))]
abbrev c_impl_ValidSheaf_7 : List DOp := [dl 0 (oo 34 (.mv (tt 4))), dl 1 (oo 35 (.fa 3 (tt 1))), dl 2 (oo 36 (.ld (tt 35))), dl 3 (oo 37 (.len (tt 36))), dl 4 (oo 38 (.bin .geq (tt 34) (tt 37))), dl 5 (oo 39 (.mv (tt 38))), dl 6 (og 40 39 false (.fa 3 (tt 1))), dl 7 (og 41 39 false (.ld (tt 40))), dl 8 (og 42 39 false (.mv (tt 4))), dl 9 (og 43 39 false (.ia 4 (tt 41) (tt 42))), dl 10 (og 44 39 false (.ldn 4 (tt 43))), dl 11 (og 45 39 false (.fa 1 (tt 1))), dl 12 (og 46 39 false (.ld (tt 45))), dl 13 (og 47 39 false (.fa 2 (tt 1))), dl 14 (og 48 39 false (.ld (tt 47))), dl 15 (og 49 39 false (.fa 2 (tt 5))), dl 16 (og 50 39 false (.ld (tt 49))), dl 17 (og 51 39 false (.ia 1 (tt 48) (tt 50))), dl 18 (og 52 39 false (.ld (tt 51))), dl 19 (og 53 39 false (.fa 2 (tt 1))), dl 20 (og 54 39 false (.ld (tt 53))), dl 21 (og 55 39 false (.fa 0 (tt 5))), dl 22 (og 56 39 false (.ld (tt 55))), dl 23 (og 57 39 false (.ia 1 (tt 54) (tt 56))), dl 24 (og 58 39 false (.ld (tt 57))), dh 25 [22, 20, 16, 14, 7, 2] (og 59 39 false (.call (ff 183) [tt 44, tt 46, tt 52, tt 58])), dl 26 (og 60 39 false (.un .not (tt 59))), dl 27 (oo 61 (.pick (tt 39) (cb  true) (tt 60)))]
abbrev c_impl_ValidSheaf_8 : List GOp := [oo 2 (.mv (cb  false))]
abbrev c_impl_ValidSheaf_9 : List GOp := [oo 62 (.bin .add (tt 29) (ci 1)), oo 29 (.mv (tt 62))]
abbrev c_impl_ValidSheaf_l0 : GCode := .seq (.reg c_impl_ValidSheaf_5) (.seq (.cond (tt 30) (.skip) (.exit 0)) (.seq (.blk 1 (.seq (.reg c_impl_ValidSheaf_6) (.seq (.dreg c_impl_ValidSheaf_7) (.cond (tt 61) (.seq (.reg c_impl_ValidSheaf_8) (.ret)) (.skip))))) (.reg c_impl_ValidSheaf_9)))
abbrev c_impl_ValidSheaf_11 : List GOp := [oo 63 (.mv (tt 3)), oo 64 (.len (tt 63)), oo 65 (.fa 3 (tt 1)), oo 66 (.ld (tt 65)), oo 67 (.len (tt 66)), oo 68 (.bin .eql (tt 64) (tt 67)), oo 2 (.mv (tt 68))]
abbrev c_impl_ValidSheaf : GCode := .seq (.reg c_impl_ValidSheaf_0) (.seq (.seq (.reg c_impl_ValidSheaf_1) (.cond (tt 23) (.seq (.reg c_impl_ValidSheaf_2) (.ret)) (.skip))) (.seq (.reg c_impl_ValidSheaf_3) (.seq (.seq (.reg c_impl_ValidSheaf_4) (.blk 0 (.loop c_impl_ValidSheaf_l0))) (.seq (.reg c_impl_ValidSheaf_11) (.ret)))))
theorem c_impl_ValidSheaf_d : decFn Tryz.prog Tryz.f152 = some (69, [.t 2], c_impl_ValidSheaf) := by kernel_rfl
theorem c_impl_ValidSheaf_i {args : List Value} {G : GH} {K : Value → GH → Prop} (hn : args.length ≤ 69) (h : gW Tryz.prog c_impl_ValidSheaf (RetK [.t 2] K) (T0 args) G) : GC Tryz.prog 152 args G K := GC_intro mixed Tryz.func152 c_impl_ValidSheaf_d hn h
abbrev c_impl_ValidSimplex_0 : List GOp := [oo 2 (.mv (cb  false))]
abbrev c_impl_ValidSimplex_1 : List GOp := [oo 3 (.mv (tt 0)), oo 4 (.len (tt 3)), oo 5 (.bin .geq (tt 4) (ci 1)), oo 6 (.mv (tt 5)), og 7 6 true (.mv (tt 0)), og 8 6 true (.len (tt 7)), og 9 6 true (.bin .leq (tt 8) (ci 4)), oo 10 (.pick (tt 6) (tt 9) (cb  false)), oo 11 (.mv (tt 10)), og 12 11 true (.mv (tt 0)), og 13 11 true (.call (ff 101) [tt 12]), oo 14 (.pick (tt 11) (tt 13) (cb  false)), oo 15 (.mv (tt 14)), og 16 15 true (.mv (tt 0)), og 17 15 true (.call (ff 57) [tt 16, (ff 215)]), og 18 15 true (.un .not (tt 17)), oo 19 (.pick (tt 15) (tt 18) (cb  false)), oo 2 (.mv (tt 19))]
abbrev c_impl_ValidSimplex : GCode := .seq (.reg c_impl_ValidSimplex_0) (.seq (.reg c_impl_ValidSimplex_1) (.ret))
theorem c_impl_ValidSimplex_d : decFn Tryz.prog Tryz.f201 = some (20, [.t 2], c_impl_ValidSimplex) := by kernel_rfl
theorem c_impl_ValidSimplex_i {args : List Value} {G : GH} {K : Value → GH → Prop} (hn : args.length ≤ 20) (h : gW Tryz.prog c_impl_ValidSimplex (RetK [.t 2] K) (T0 args) G) : GC Tryz.prog 201 args G K := GC_intro mixed Tryz.func201 c_impl_ValidSimplex_d hn h
abbrev c_impl_ValidSimplex_fn1_0 : List GOp := [oo 2 (.mv (cb  false))]
abbrev c_impl_ValidSimplex_fn1_1 : List GOp := [oo 3 (.mv (tt 0)), oo 4 (.call (ff 216) [tt 3]), oo 5 (.un .not (tt 4)), oo 2 (.mv (tt 5))]
abbrev c_impl_ValidSimplex_fn1 : GCode := .seq (.reg c_impl_ValidSimplex_fn1_0) (.seq (.reg c_impl_ValidSimplex_fn1_1) (.ret))
theorem c_impl_ValidSimplex_fn1_d : decFn Tryz.prog Tryz.f215 = some (6, [.t 2], c_impl_ValidSimplex_fn1) := by kernel_rfl
theorem c_impl_ValidSimplex_fn1_i {args : List Value} {G : GH} {K : Value → GH → Prop} (hn : args.length ≤ 6) (h : gW Tryz.prog c_impl_ValidSimplex_fn1 (RetK [.t 2] K) (T0 args) G) : GC Tryz.prog 215 args G K := GC_intro mixed Tryz.func215 c_impl_ValidSimplex_fn1_d hn h
abbrev c_impl_alternating_0 : List GOp := [oo 4 (.mv (ci 0))]
abbrev c_impl_alternating_1 : List GOp := [oo 5 (.mv (tt 0)), oo 6 (.bin .rem (tt 5) (ci 2)), oo 7 (.bin .eql (tt 6) (ci 0))]
abbrev c_impl_alternating_2 : List GOp := [oo 4 (.mv (ci 1))]
abbrev c_impl_alternating_3 : List GOp := [oo 8 (.mv (tt 1)), oo 9 (.bin .sub (tt 8) (ci 1)), oo 4 (.mv (tt 9))]
abbrev c_impl_alternating : GCode := .seq (.reg c_impl_alternating_0) (.seq (.seq (.reg c_impl_alternating_1) (.cond (tt 7) (.seq (.reg c_impl_alternating_2) (.ret)) (.skip))) (.seq (.reg c_impl_alternating_3) (.ret)))
theorem c_impl_alternating_d : decFn Tryz.prog Tryz.f160 = some (10, [.t 4], c_impl_alternating) := by kernel_rfl
theorem c_impl_alternating_i {args : List Value} {G : GH} {K : Value → GH → Prop} (hn : args.length ≤ 10) (h : gW Tryz.prog c_impl_alternating (RetK [.t 4] K) (T0 args) G) : GC Tryz.prog 160 args G K := GC_intro mixed Tryz.func160 c_impl_alternating_d hn h
abbrev c_impl_apply_0 : List GOp := [oo 2 (.bx (tt 0)), oo 4 (.mv (.const (.slice none 0 0)))]
abbrev c_impl_apply_1 : List GOp := [oo 5 (.mv (.const (.slice none 0 0)))]
abbrev c_impl_apply_2 : List GOp := [oo 7 (.fa 1 (tt 2)), oo 8 (.ld (tt 7)), oo 9 (.mv (ci 0))]
abbrev c_impl_apply_3 : List GOp := [oo 10 (.bin .lss (tt 9) (tt 8))]
abbrev c_impl_apply_4 : List GOp := [oo 11 (.mv (tt 9)), oo 6 (.mv (tt 11))]
abbrev c_impl_apply_5 : List DOp := [dl 0 (oo 12 (.mv (tt 5))), dl 1 (oo 13 (.ldn 4 (tt 2))), dl 2 (oo 14 (.mv (tt 6))), dl 4 (oo 16 (.mv (tt 1))), dl 5 (oo 17 (.fa 0 (tt 2))), dl 6 (oo 18 (.ld (tt 17))), dh 3 [6] (oo 15 (.call (ff 157) [tt 13, tt 14])), dh 7 [1] (oo 19 (.call (ff 156) [tt 15, tt 16, tt 18])), dh 8 [6, 1] (oo 20 (.bs 1 [tt 19])), dh 9 [6, 1] (oo 21 (.ap 1 8 [.int .i64 0] (tt 12) (tt 20))), dl 10 (oo 5 (.mv (tt 21)))]
abbrev c_impl_apply_6 : List GOp := [oo 22 (.bin .add (tt 9) (ci 1)), oo 9 (.mv (tt 22))]
abbrev c_impl_apply_l0 : GCode := .seq (.reg c_impl_apply_3) (.seq (.cond (tt 10) (.skip) (.exit 0)) (.seq (.blk 1 (.seq (.reg c_impl_apply_4) (.dreg c_impl_apply_5))) (.reg c_impl_apply_6)))
abbrev c_impl_apply_8 : List GOp := [oo 23 (.mv (tt 5)), oo 4 (.mv (tt 23))]
abbrev c_impl_apply : GCode := .seq (.reg c_impl_apply_0) (.seq (.reg c_impl_apply_1) (.seq (.seq (.reg c_impl_apply_2) (.blk 0 (.loop c_impl_apply_l0))) (.seq (.reg c_impl_apply_8) (.ret))))
theorem c_impl_apply_d : decFn Tryz.prog Tryz.f103 = some (24, [.t 4], c_impl_apply) := by kernel_rfl
theorem c_impl_apply_i {args : List Value} {G : GH} {K : Value → GH → Prop} (hn : args.length ≤ 24) (h : gW Tryz.prog c_impl_apply (RetK [.t 4] K) (T0 args) G) : GC Tryz.prog 103 args G K := GC_intro mixed Tryz.func103 c_impl_apply_d hn h
abbrev c_impl_areElements_0 : List GOp := [oo 3 (.bx (tt 1)), oo 4 (.mv (cb  false))]
abbrev c_impl_areElements_1 : List GOp := [oo 5 (.mv (tt 0)), oo 6 (.mf (.func 154) [] [tt 3]), oo 7 (.call (ff 57) [tt 5, tt 6]), oo 8 (.un .not (tt 7)), oo 4 (.mv (tt 8))]
abbrev c_impl_areElements : GCode := .seq (.reg c_impl_areElements_0) (.seq (.reg c_impl_areElements_1) (.ret))
theorem c_impl_areElements_d : decFn Tryz.prog Tryz.f102 = some (9, [.t 4], c_impl_areElements) := by kernel_rfl
theorem c_impl_areElements_i {args : List Value} {G : GH} {K : Value → GH → Prop} (hn : args.length ≤ 9) (h : gW Tryz.prog c_impl_areElements (RetK [.t 4] K) (T0 args) G) : GC Tryz.prog 102 args G K := GC_intro mixed Tryz.func102 c_impl_areElements_d hn h
abbrev c_impl_areElements_fn1_0 : List GOp := [oo 3 (.mv (cb  false))]
abbrev c_impl_areElements_fn1_1 : List GOp := [oo 4 (.mv (tt 0)), oo 5 (.ld (tt 1)), oo 6 (.call (ff 155) [tt 4, tt 5]), oo 7 (.un .not (tt 6)), oo 3 (.mv (tt 7))]
abbrev c_impl_areElements_fn1 : GCode := .seq (.reg c_impl_areElements_fn1_0) (.seq (.reg c_impl_areElements_fn1_1) (.ret))
theorem c_impl_areElements_fn1_d : decFn Tryz.prog Tryz.f154 = some (8, [.t 3], c_impl_areElements_fn1) := by kernel_rfl
theorem c_impl_areElements_fn1_i {args : List Value} {G : GH} {K : Value → GH → Prop} (hn : args.length ≤ 8) (h : gW Tryz.prog c_impl_areElements_fn1 (RetK [.t 3] K) (T0 args) G) : GC Tryz.prog 154 args G K := GC_intro mixed Tryz.func154 c_impl_areElements_fn1_d hn h
abbrev c_impl_areStalks_0 : List GOp := [oo 2 (.bx (tt 0)), oo 4 (.mv (cb  false))]
abbrev c_impl_areStalks_1 : List GOp := [oo 6 (.mv (tt 1)), oo 7 (.len (tt 6)), oo 8 (.fa 0 (tt 2)), oo 9 (.ld (tt 8)), oo 10 (.len (tt 9)), oo 11 (.bin .neq (tt 7) (tt 10)), oo 12 (.mv (tt 11)), og 13 12 false (.mv (tt 1)), og 14 12 false (.call (ff 57) [tt 13, (ff 204)]), oo 15 (.pick (tt 12) (cb  true) (tt 14))]
abbrev c_impl_areStalks_2 : List GOp := [oo 4 (.mv (cb  false))]
abbrev c_impl_areStalks_3 : List GOp := [oo 16 (.mv (ci 0))]
abbrev c_impl_areStalks_4 : List GOp := [oo 17 (.bin .lss (tt 16) (ci 4))]
abbrev c_impl_areStalks_5 : List GOp := [oo 18 (.mv (tt 16)), oo 5 (.mv (tt 18))]
abbrev c_impl_areStalks_6 : List GOp := [oo 19 (.ldn 1 (tt 2)), oo 20 (.mv (tt 1)), oo 21 (.bld [.slice none 0 0, .int .i64 0, .slice none 0 0, .slice none 0 0] [(0, 1, (tt 19)), (2, 1, (tt 20))]), oo 22 (.mv (tt 5)), oo 23 (.call (ff 100) [tt 21, tt 22]), oo 24 (.bin .gtr (tt 23) (ci 32))]
abbrev c_impl_areStalks_7 : List GOp := [oo 4 (.mv (cb  false))]
abbrev c_impl_areStalks_8 : List GOp := [oo 25 (.bin .add (tt 16) (ci 1)), oo 16 (.mv (tt 25))]
abbrev c_impl_areStalks_l0 : GCode := .seq (.reg c_impl_areStalks_4) (.seq (.cond (tt 17) (.skip) (.exit 0)) (.seq (.blk 1 (.seq (.reg c_impl_areStalks_5) (.seq (.reg c_impl_areStalks_6) (.cond (tt 24) (.seq (.reg c_impl_areStalks_7) (.ret)) (.skip))))) (.reg c_impl_areStalks_8)))
abbrev c_impl_areStalks_10 : List GOp := [oo 4 (.mv (cb  true))]
abbrev c_impl_areStalks : GCode := .seq (.reg c_impl_areStalks_0) (.seq (.seq (.reg c_impl_areStalks_1) (.cond (tt 15) (.seq (.reg c_impl_areStalks_2) (.ret)) (.skip))) (.seq (.seq (.reg c_impl_areStalks_3) (.blk 0 (.loop c_impl_areStalks_l0))) (.seq (.reg c_impl_areStalks_10) (.ret))))
theorem c_impl_areStalks_d : decFn Tryz.prog Tryz.f181 = some (26, [.t 4], c_impl_areStalks) := by kernel_rfl
theorem c_impl_areStalks_i {args : List Value} {G : GH} {K : Value → GH → Prop} (hn : args.length ≤ 26) (h : gW Tryz.prog c_impl_areStalks (RetK [.t 4] K) (T0 args) G) : GC Tryz.prog 181 args G K := GC_intro mixed Tryz.func181 c_impl_areStalks_d hn h
abbrev c_impl_areStalks_fn1_0 : List GOp := [oo 2 (.mv (cb  false))]
abbrev c_impl_areStalks_fn1_1 : List GOp := [oo 3 (.mv (tt 0)), oo 4 (.call (ff 167) [tt 3, (ci 0), (ci 3)]), oo 5 (.un .not (tt 4)), oo 2 (.mv (tt 5))]
abbrev c_impl_areStalks_fn1 : GCode := .seq (.reg c_impl_areStalks_fn1_0) (.seq (.reg c_impl_areStalks_fn1_1) (.ret))
theorem c_impl_areStalks_fn1_d : decFn Tryz.prog Tryz.f204 = some (6, [.t 2], c_impl_areStalks_fn1) := by kernel_rfl
theorem c_impl_areStalks_fn1_i {args : List Value} {G : GH} {K : Value → GH → Prop} (hn : args.length ≤ 6) (h : gW Tryz.prog c_impl_areStalks_fn1 (RetK [.t 2] K) (T0 args) G) : GC Tryz.prog 204 args G K := GC_intro mixed Tryz.func204 c_impl_areStalks_fn1_d hn h
abbrev c_impl_arrows_0 : List GOp := [oo 1 (.bx (tt 0)), oo 2 (.mv (.const (.slice none 0 0)))]
abbrev c_impl_arrows_1 : List GOp := [oo 3 (.mv (.const (.slice none 0 0)))]
abbrev c_impl_arrows_2 : List GOp := [oo 7 (.fa 0 (tt 1)), oo 8 (.ld (tt 7)), oo 9 (.call (ff 205) [tt 8]), oo 10 (.mv (ci 0))]
abbrev c_impl_arrows_3 : List GOp := [oo 11 (.bin .lss (tt 10) (tt 9))]
abbrev c_impl_arrows_4 : List GOp := [oo 12 (.mv (tt 10)), oo 4 (.mv (tt 12))]
abbrev c_impl_arrows_5 : List GOp := [oo 13 (.ldn 1 (tt 1)), oo 14 (.mv (tt 4)), oo 15 (.call (ff 113) [tt 13, tt 14]), oo 16 (.len (tt 15)), oo 17 (.mv (ci 0))]
abbrev c_impl_arrows_6 : List GOp := [oo 18 (.bin .lss (tt 17) (tt 16))]
abbrev c_impl_arrows_7 : List GOp := [oo 19 (.mv (tt 17)), oo 20 (.ia 1 (tt 15) (tt 17)), oo 21 (.ld (tt 20)), oo 5 (.mv (tt 19)), oo 6 (.mv (tt 21))]
abbrev c_impl_arrows_8 : List GOp := [oo 22 (.mv (tt 3)), oo 23 (.mv (tt 4)), oo 24 (.mv (tt 5)), oo 25 (.mv (tt 6)), oo 26 (.bld [.int .i64 0, .int .i64 0, .int .i64 0] [(0, 1, (tt 23)), (1, 1, (tt 24)), (2, 1, (tt 25))]), oo 27 (.bs 3 [tt 26]), oo 28 (.ap 3 24 [.int .i64 0, .int .i64 0, .int .i64 0] (tt 22) (tt 27)), oo 3 (.mv (tt 28))]
abbrev c_impl_arrows_9 : List GOp := [oo 29 (.bin .add (tt 17) (ci 1)), oo 17 (.mv (tt 29))]
abbrev c_impl_arrows_l0 : GCode := .seq (.reg c_impl_arrows_6) (.seq (.cond (tt 18) (.skip) (.exit 2)) (.seq (.blk 3 (.seq (.reg c_impl_arrows_7) (.reg c_impl_arrows_8))) (.reg c_impl_arrows_9)))
abbrev c_impl_arrows_11 : List GOp := [oo 30 (.bin .add (tt 10) (ci 1)), oo 10 (.mv (tt 30))]
abbrev c_impl_arrows_l1 : GCode := .seq (.reg c_impl_arrows_3) (.seq (.cond (tt 11) (.skip) (.exit 0)) (.seq (.blk 1 (.seq (.reg c_impl_arrows_4) (.seq (.reg c_impl_arrows_5) (.blk 2 (.loop c_impl_arrows_l0))))) (.reg c_impl_arrows_11)))
abbrev c_impl_arrows_13 : List GOp := [oo 31 (.mv (tt 3)), oo 2 (.mv (tt 31))]
abbrev c_impl_arrows : GCode := .seq (.reg c_impl_arrows_0) (.seq (.reg c_impl_arrows_1) (.seq (.seq (.reg c_impl_arrows_2) (.blk 0 (.loop c_impl_arrows_l1))) (.seq (.reg c_impl_arrows_13) (.ret))))
theorem c_impl_arrows_d : decFn Tryz.prog Tryz.f182 = some (32, [.t 2], c_impl_arrows) := by kernel_rfl
theorem c_impl_arrows_i {args : List Value} {G : GH} {K : Value → GH → Prop} (hn : args.length ≤ 32) (h : gW Tryz.prog c_impl_arrows (RetK [.t 2] K) (T0 args) G) : GC Tryz.prog 182 args G K := GC_intro mixed Tryz.func182 c_impl_arrows_d hn h
abbrev c_impl_coboundaryMatrix_0 : List GOp := [oo 2 (.bx (tt 0)), oo 4 (.al [.int .i64 0, .int .i64 0, .int .i64 0, .slice none 0 0])]
abbrev c_impl_coboundaryMatrix_1 : DT := (.path [dl 0 (oo 15 (.fa 1 (tt 2)))] (.path [dl 1 (oo 16 (.ld (tt 15)))] (.path [dl 2 (oo 17 (.ldn 4 (tt 2)))] (.path [dl 3 (oo 18 (.mv (tt 1)))] (.path [dl 4 (oo 19 (.bin .add (tt 18) (ci 1)))] (.path [dl 6 (oo 21 (.ldn 4 (tt 2)))] (.path [dl 7 (oo 22 (.mv (tt 1)))] (.both (.path [dh 5 [6, 1] (oo 20 (.call (ff 100) [tt 17, tt 19]))] (.both (.path [dh 8 [2, 1] (oo 23 (.call (ff 100) [tt 21, tt 22]))] (.both (.path [dh 9 [6, 2] (oo 24 (.call (ff 158) [tt 16, tt 20, tt 23]))] (.path [dh 10 [6, 2, 1] (oo 5 (.al [.int .i64 0, .int .i64 0, .int .i64 0, .slice none 0 0]))] (.path [dh 11 [] (on (.st 4 (tt 5) (tt 24)))] .fin))) (.path [dh 10 [6, 2, 1] (oo 5 (.al [.int .i64 0, .int .i64 0, .int .i64 0, .slice none 0 0]))] (.path [dh 9 [6, 2] (oo 24 (.call (ff 158) [tt 16, tt 20, tt 23]))] (.path [dh 11 [] (on (.st 4 (tt 5) (tt 24)))] .fin))))) (.path [dh 10 [6, 2, 1] (oo 5 (.al [.int .i64 0, .int .i64 0, .int .i64 0, .slice none 0 0]))] (.path [dh 8 [2, 1] (oo 23 (.call (ff 100) [tt 21, tt 22]))] (.path [dh 9 [6, 2] (oo 24 (.call (ff 158) [tt 16, tt 20, tt 23]))] (.path [dh 11 [] (on (.st 4 (tt 5) (tt 24)))] .fin)))))) (.path [dh 10 [6, 2, 1] (oo 5 (.al [.int .i64 0, .int .i64 0, .int .i64 0, .slice none 0 0]))] (.path [dh 5 [6, 1] (oo 20 (.call (ff 100) [tt 17, tt 19]))] (.path [dh 8 [2, 1] (oo 23 (.call (ff 100) [tt 21, tt 22]))] (.path [dh 9 [6, 2] (oo 24 (.call (ff 158) [tt 16, tt 20, tt 23]))] (.path [dh 11 [] (on (.st 4 (tt 5) (tt 24)))] .fin)))))))))))))
abbrev c_impl_coboundaryMatrix_2 : List GOp := [oo 25 (.fa 0 (tt 2)), oo 26 (.ldn 1 (tt 25)), oo 27 (.mv (tt 1)), oo 28 (.bin .add (tt 27) (ci 1)), oo 29 (.call (ff 66) [tt 26, tt 28]), oo 30 (.len (tt 29)), oo 31 (.mv (ci 0))]
abbrev c_impl_coboundaryMatrix_3 : List GOp := [oo 32 (.bin .lss (tt 31) (tt 30))]
abbrev c_impl_coboundaryMatrix_4 : List GOp := [oo 33 (.ia 1 (tt 29) (tt 31)), oo 34 (.ld (tt 33)), oo 7 (.mv (tt 34))]
abbrev c_impl_coboundaryMatrix_5 : List GOp := [oo 35 (.mv (tt 1)), oo 36 (.bin .lss (tt 35) (ci 0))]
abbrev c_impl_coboundaryMatrix_6 : List GOp := [oo 37 (.fa 0 (tt 2)), oo 38 (.ldn 1 (tt 37)), oo 39 (.mv (tt 7)), oo 40 (.call (ff 113) [tt 38, tt 39]), oo 41 (.len (tt 40)), oo 42 (.mv (ci 0))]
abbrev c_impl_coboundaryMatrix_7 : List GOp := [oo 43 (.bin .lss (tt 42) (tt 41))]
abbrev c_impl_coboundaryMatrix_8 : List GOp := [oo 44 (.mv (tt 42)), oo 45 (.ia 1 (tt 40) (tt 42)), oo 46 (.ld (tt 45)), oo 8 (.mv (tt 44)), oo 9 (.mv (tt 46))]
abbrev c_impl_coboundaryMatrix_9 : List GOp := [oo 47 (.ldn 4 (tt 2)), oo 48 (.mv (tt 7)), oo 49 (.mv (tt 8)), oo 50 (.call (ff 159) [tt 47, tt 48, tt 49]), oo 10 (.al [.int .i64 0, .int .i64 0, .int .i64 0, .slice none 0 0]), on (.st 4 (tt 10) (tt 50))]
abbrev c_impl_coboundaryMatrix_10 : List DOp := [dl 0 (oo 51 (.ldn 4 (tt 2))), dl 1 (oo 52 (.mv (tt 7))), dl 3 (oo 54 (.ldn 4 (tt 2))), dl 4 (oo 55 (.mv (tt 9))), dh 2 [3] (oo 53 (.call (ff 123) [tt 51, tt 52])), dh 5 [0] (oo 56 (.call (ff 123) [tt 54, tt 55])), dl 6 (oo 11 (.mv (tt 53))), dl 7 (oo 12 (.mv (tt 56)))]
abbrev c_impl_coboundaryMatrix_11 : List GOp := [oo 57 (.fa 1 (tt 10)), oo 58 (.ld (tt 57)), oo 59 (.mv (ci 0))]
abbrev c_impl_coboundaryMatrix_12 : List GOp := [oo 60 (.bin .lss (tt 59) (tt 58))]
abbrev c_impl_coboundaryMatrix_13 : List GOp := [oo 61 (.mv (tt 59)), oo 13 (.mv (tt 61))]
abbrev c_impl_coboundaryMatrix_14 : List GOp := [oo 62 (.fa 2 (tt 10)), oo 63 (.ld (tt 62)), oo 64 (.mv (ci 0))]
abbrev c_impl_coboundaryMatrix_15 : List GOp := [oo 65 (.bin .lss (tt 64) (tt 63))]
abbrev c_impl_coboundaryMatrix_16 : List GOp := [oo 66 (.mv (tt 64)), oo 14 (.mv (tt 66))]
abbrev c_impl_coboundaryMatrix_17 : List DOp := [dl 0 (oo 67 (.fa 3 (tt 5))), dl 1 (oo 68 (.ld (tt 67))), dl 2 (oo 69 (.mv (tt 11))), dl 3 (oo 70 (.mv (tt 13))), dl 4 (oo 71 (.bin .add (tt 69) (tt 70))), dl 5 (oo 72 (.fa 2 (tt 5))), dl 6 (oo 73 (.ld (tt 72))), dl 7 (oo 74 (.bin .mul (tt 71) (tt 73))), dl 8 (oo 75 (.mv (tt 12))), dl 9 (oo 76 (.bin .add (tt 74) (tt 75))), dl 10 (oo 77 (.mv (tt 14))), dl 11 (oo 78 (.bin .add (tt 76) (tt 77))), dl 12 (oo 79 (.ldn 4 (tt 10))), dl 13 (oo 80 (.mv (tt 13))), dl 14 (oo 81 (.mv (tt 14))), dl 16 (oo 83 (.mv (tt 8))), dl 17 (oo 84 (.fa 1 (tt 2))), dl 18 (oo 85 (.ld (tt 84))), dl 21 (oo 88 (.fa 1 (tt 2))), dl 22 (oo 89 (.ld (tt 88))), dh 15 [22, 18, 6, 1] (oo 82 (.call (ff 126) [tt 79, tt 80, tt 81])), dh 19 [22, 12, 6, 1] (oo 86 (.call (ff 160) [tt 83, tt 85])), dl 20 (oo 87 (.bin .mul (tt 82) (tt 86))), dl 23 (oo 90 (.bin .rem (tt 87) (tt 89))), dl 24 (oo 91 (.ia 1 (tt 68) (tt 78))), dh 25 [] (on (.st 1 (tt 91) (tt 90)))]
abbrev c_impl_coboundaryMatrix_18 : List GOp := [oo 92 (.bin .add (tt 64) (ci 1)), oo 64 (.mv (tt 92))]
abbrev c_impl_coboundaryMatrix_l0 : GCode := .seq (.reg c_impl_coboundaryMatrix_15) (.seq (.cond (tt 65) (.skip) (.exit 6)) (.seq (.blk 7 (.seq (.reg c_impl_coboundaryMatrix_16) (.dreg c_impl_coboundaryMatrix_17))) (.reg c_impl_coboundaryMatrix_18)))
abbrev c_impl_coboundaryMatrix_20 : List GOp := [oo 93 (.bin .add (tt 59) (ci 1)), oo 59 (.mv (tt 93))]
abbrev c_impl_coboundaryMatrix_l1 : GCode := .seq (.reg c_impl_coboundaryMatrix_12) (.seq (.cond (tt 60) (.skip) (.exit 4)) (.seq (.blk 5 (.seq (.reg c_impl_coboundaryMatrix_13) (.seq (.reg c_impl_coboundaryMatrix_14) (.blk 6 (.loop c_impl_coboundaryMatrix_l0))))) (.reg c_impl_coboundaryMatrix_20)))
abbrev c_impl_coboundaryMatrix_22 : List GOp := [oo 94 (.bin .add (tt 42) (ci 1)), oo 42 (.mv (tt 94))]
abbrev c_impl_coboundaryMatrix_l2 : GCode := .seq (.reg c_impl_coboundaryMatrix_7) (.seq (.cond (tt 43) (.skip) (.exit 2)) (.seq (.blk 3 (.seq (.reg c_impl_coboundaryMatrix_8) (.seq (.reg c_impl_coboundaryMatrix_9) (.seq (.dreg c_impl_coboundaryMatrix_10) (.seq (.reg c_impl_coboundaryMatrix_11) (.blk 4 (.loop c_impl_coboundaryMatrix_l1))))))) (.reg c_impl_coboundaryMatrix_22)))
abbrev c_impl_coboundaryMatrix_24 : List GOp := [oo 95 (.bin .add (tt 31) (ci 1)), oo 31 (.mv (tt 95))]
abbrev c_impl_coboundaryMatrix_l3 : GCode := .seq (.reg c_impl_coboundaryMatrix_3) (.seq (.cond (tt 32) (.skip) (.exit 0)) (.seq (.blk 1 (.seq (.reg c_impl_coboundaryMatrix_4) (.seq (.seq (.reg c_impl_coboundaryMatrix_5) (.cond (tt 36) (.exit 0) (.skip))) (.seq (.reg c_impl_coboundaryMatrix_6) (.blk 2 (.loop c_impl_coboundaryMatrix_l2)))))) (.reg c_impl_coboundaryMatrix_24)))
abbrev c_impl_coboundaryMatrix_26 : List GOp := [oo 96 (.ldn 4 (tt 5)), on (.st 4 (tt 4) (tt 96))]
abbrev c_impl_coboundaryMatrix : GCode := .seq (.reg c_impl_coboundaryMatrix_0) (.seq (.dtree c_impl_coboundaryMatrix_1) (.seq (.seq (.reg c_impl_coboundaryMatrix_2) (.blk 0 (.loop c_impl_coboundaryMatrix_l3))) (.seq (.reg c_impl_coboundaryMatrix_26) (.ret))))
theorem c_impl_coboundaryMatrix_d : decFn Tryz.prog Tryz.f104 = some (97, [.cn 4 4], c_impl_coboundaryMatrix) := by kernel_rfl
theorem c_impl_coboundaryMatrix_i {args : List Value} {G : GH} {K : Value → GH → Prop} (hn : args.length ≤ 97) (h : gW Tryz.prog c_impl_coboundaryMatrix (RetK [.cn 4 4] K) (T0 args) G) : GC Tryz.prog 104 args G K := GC_intro mixed Tryz.func104 c_impl_coboundaryMatrix_d hn h
abbrev c_impl_columnsOf_0 : List GOp := [oo 1 (.bx (tt 0)), oo 2 (.mv (.const (.slice none 0 0)))]
abbrev c_impl_columnsOf_1 : List GOp := [oo 3 (.ldn 4 (tt 1)), oo 4 (.call (ff 218) [tt 3]), oo 5 (.call (ff 165) [tt 4]), oo 2 (.mv (tt 5))]
abbrev c_impl_columnsOf : GCode := .seq (.reg c_impl_columnsOf_0) (.seq (.reg c_impl_columnsOf_1) (.ret))
theorem c_impl_columnsOf_d : decFn Tryz.prog Tryz.f207 = some (6, [.t 2], c_impl_columnsOf) := by kernel_rfl
theorem c_impl_columnsOf_i {args : List Value} {G : GH} {K : Value → GH → Prop} (hn : args.length ≤ 6) (h : gW Tryz.prog c_impl_columnsOf (RetK [.t 2] K) (T0 args) G) : GC Tryz.prog 207 args G K := GC_intro mixed Tryz.func207 c_impl_columnsOf_d hn h
abbrev c_impl_compareSimplices_0 : List GOp := [oo 4 (.mv (ci 0))]
abbrev c_impl_compareSimplices_1 : List GOp := [oo 5 (.mv (tt 0)), oo 6 (.len (tt 5)), oo 7 (.mv (tt 1)), oo 8 (.len (tt 7)), oo 9 (.call (ff 212) [tt 6, tt 8]), oo 10 (.mv (tt 0)), oo 11 (.mv (tt 1)), oo 12 (.call (ff 213) [tt 10, tt 11]), oo 13 (.bs 1 [tt 9, tt 12]), oo 14 (.call (ff 211) [tt 13]), oo 4 (.mv (tt 14))]
abbrev c_impl_compareSimplices : GCode := .seq (.reg c_impl_compareSimplices_0) (.seq (.reg c_impl_compareSimplices_1) (.ret))
theorem c_impl_compareSimplices_d : decFn Tryz.prog Tryz.f190 = some (15, [.t 4], c_impl_compareSimplices) := by kernel_rfl
theorem c_impl_compareSimplices_i {args : List Value} {G : GH} {K : Value → GH → Prop} (hn : args.length ≤ 15) (h : gW Tryz.prog c_impl_compareSimplices (RetK [.t 4] K) (T0 args) G) : GC Tryz.prog 190 args G K := GC_intro mixed Tryz.func190 c_impl_compareSimplices_d hn h
abbrev c_impl_direct_0 : List GOp := [oo 3 (.bx (tt 0)), oo 6 (.al [.int .i64 0, .int .i64 0, .int .i64 0, .slice none 0 0])]
abbrev c_impl_direct_1 : List DOp := [dl 0 (oo 7 (.fa 3 (tt 3))), dl 1 (oo 8 (.ld (tt 7))), dl 2 (oo 9 (.ldn 4 (tt 3))), dl 3 (oo 10 (.mv (tt 1))), dl 5 (oo 12 (.mv (tt 2))), dh 4 [1] (oo 11 (.call (ff 187) [tt 9, tt 10])), dl 6 (oo 13 (.bin .add (tt 11) (tt 12))), dl 7 (oo 14 (.ia 4 (tt 8) (tt 13))), dl 8 (oo 15 (.ldn 4 (tt 14))), dh 9 [] (on (.st 4 (tt 6) (tt 15)))]
abbrev c_impl_direct : GCode := .seq (.reg c_impl_direct_0) (.seq (.dreg c_impl_direct_1) (.ret))
theorem c_impl_direct_d : decFn Tryz.prog Tryz.f159 = some (16, [.cn 6 4], c_impl_direct) := by kernel_rfl
theorem c_impl_direct_i {args : List Value} {G : GH} {K : Value → GH → Prop} (hn : args.length ≤ 16) (h : gW Tryz.prog c_impl_direct (RetK [.cn 6 4] K) (T0 args) G) : GC Tryz.prog 159 args G K := GC_intro mixed Tryz.func159 c_impl_direct_d hn h
abbrev c_impl_disagreements_0 : List GOp := [oo 2 (.bx (tt 0)), oo 4 (.mv (.const (.slice none 0 0)))]
abbrev c_impl_disagreements_1 : List GOp := [oo 9 (.ldn 4 (tt 2)), oo 10 (.call (ff 104) [tt 9, (ci 0)]), oo 11 (.mv (tt 1)), oo 12 (.call (ff 103) [tt 10, tt 11]), oo 5 (.mv (tt 12))]
abbrev c_impl_disagreements_2 : List GOp := [oo 6 (.mv (.const (.slice none 0 0)))]
abbrev c_impl_disagreements_3 : List GOp := [oo 13 (.fa 0 (tt 2)), oo 14 (.ldn 1 (tt 13)), oo 15 (.call (ff 66) [tt 14, (ci 1)]), oo 16 (.len (tt 15)), oo 17 (.mv (ci 0))]
abbrev c_impl_disagreements_4 : List GOp := [oo 18 (.bin .lss (tt 17) (tt 16))]
abbrev c_impl_disagreements_5 : List GOp := [oo 19 (.ia 1 (tt 15) (tt 17)), oo 20 (.ld (tt 19)), oo 8 (.mv (tt 20))]
abbrev c_impl_disagreements_6 : List GOp := [oo 21 (.ldn 4 (tt 2)), oo 22 (.mv (tt 5)), oo 23 (.mv (tt 8)), oo 24 (.call (ff 105) [tt 21, tt 22, tt 23]), oo 25 (.call (ff 62) [tt 24]), oo 26 (.un .not (tt 25))]
abbrev c_impl_disagreements_7 : List GOp := [oo 27 (.mv (tt 6)), oo 28 (.mv (tt 8)), oo 29 (.bs 1 [tt 28]), oo 30 (.ap 1 8 [.int .i64 0] (tt 27) (tt 29)), oo 6 (.mv (tt 30))]
abbrev c_impl_disagreements_8 : List GOp := [oo 31 (.bin .add (tt 17) (ci 1)), oo 17 (.mv (tt 31))]
abbrev c_impl_disagreements_l0 : GCode := .seq (.reg c_impl_disagreements_4) (.seq (.cond (tt 18) (.skip) (.exit 0)) (.seq (.blk 1 (.seq (.reg c_impl_disagreements_5) (.seq (.reg c_impl_disagreements_6) (.cond (tt 26) (.reg c_impl_disagreements_7) (.skip))))) (.reg c_impl_disagreements_8)))
abbrev c_impl_disagreements_10 : List GOp := [oo 32 (.mv (tt 6)), oo 4 (.mv (tt 32))]
abbrev c_impl_disagreements : GCode := .seq (.reg c_impl_disagreements_0) (.seq (.reg c_impl_disagreements_1) (.seq (.reg c_impl_disagreements_2) (.seq (.seq (.reg c_impl_disagreements_3) (.blk 0 (.loop c_impl_disagreements_l0))) (.seq (.reg c_impl_disagreements_10) (.ret)))))
theorem c_impl_disagreements_d : decFn Tryz.prog Tryz.f50 = some (33, [.t 4], c_impl_disagreements) := by kernel_rfl
theorem c_impl_disagreements_i {args : List Value} {G : GH} {K : Value → GH → Prop} (hn : args.length ≤ 33) (h : gW Tryz.prog c_impl_disagreements (RetK [.t 4] K) (T0 args) G) : GC Tryz.prog 50 args G K := GC_intro mixed Tryz.func50 c_impl_disagreements_d hn h
abbrev c_impl_dot_0 : List GOp := [oo 6 (.mv (ci 0))]
abbrev c_impl_dot_1 : List GOp := [oo 7 (.mv (ci 0))]
abbrev c_impl_dot_2 : List GOp := [oo 9 (.mv (tt 0)), oo 10 (.len (tt 9)), oo 11 (.mv (ci 0))]
abbrev c_impl_dot_3 : List GOp := [oo 12 (.bin .lss (tt 11) (tt 10))]
abbrev c_impl_dot_4 : List GOp := [oo 13 (.mv (tt 11)), oo 8 (.mv (tt 13))]
abbrev c_impl_dot_5 : List DOp := [dl 0 (oo 14 (.mv (tt 7))), dl 1 (oo 15 (.mv (tt 0))), dl 2 (oo 16 (.mv (tt 8))), dl 3 (oo 17 (.ia 1 (tt 15) (tt 16))), dl 4 (oo 18 (.ld (tt 17))), dl 5 (oo 19 (.mv (tt 1))), dl 6 (oo 20 (.mv (tt 8))), dl 7 (oo 21 (.ia 1 (tt 19) (tt 20))), dl 8 (oo 22 (.ld (tt 21))), dl 9 (oo 23 (.bin .mul (tt 18) (tt 22))), dl 10 (oo 24 (.bin .add (tt 14) (tt 23))), dl 11 (oo 25 (.mv (tt 2))), dl 12 (oo 26 (.bin .rem (tt 24) (tt 25))), dl 13 (oo 7 (.mv (tt 26)))]
abbrev c_impl_dot_6 : List GOp := [oo 27 (.bin .add (tt 11) (ci 1)), oo 11 (.mv (tt 27))]
abbrev c_impl_dot_l0 : GCode := .seq (.reg c_impl_dot_3) (.seq (.cond (tt 12) (.skip) (.exit 0)) (.seq (.blk 1 (.seq (.reg c_impl_dot_4) (.dreg c_impl_dot_5))) (.reg c_impl_dot_6)))
abbrev c_impl_dot_8 : List GOp := [oo 28 (.mv (tt 7)), oo 6 (.mv (tt 28))]
abbrev c_impl_dot : GCode := .seq (.reg c_impl_dot_0) (.seq (.reg c_impl_dot_1) (.seq (.seq (.reg c_impl_dot_2) (.blk 0 (.loop c_impl_dot_l0))) (.seq (.reg c_impl_dot_8) (.ret))))
theorem c_impl_dot_d : decFn Tryz.prog Tryz.f156 = some (29, [.t 6], c_impl_dot) := by kernel_rfl
theorem c_impl_dot_i {args : List Value} {G : GH} {K : Value → GH → Prop} (hn : args.length ≤ 29) (h : gW Tryz.prog c_impl_dot (RetK [.t 6] K) (T0 args) G) : GC Tryz.prog 156 args G K := GC_intro mixed Tryz.func156 c_impl_dot_d hn h
abbrev c_impl_faceIndices_0 : List GOp := [oo 2 (.bx (tt 0)), oo 4 (.mv (.const (.slice none 0 0)))]
abbrev c_impl_faceIndices_1 : List GOp := [oo 5 (.mv (.const (.slice none 0 0)))]
abbrev c_impl_faceIndices_2 : List GOp := [oo 8 (.fa 0 (tt 2)), oo 9 (.ld (tt 8)), oo 10 (.mv (tt 1)), oo 11 (.ia 1 (tt 9) (tt 10)), oo 12 (.ld (tt 11)), oo 13 (.call (ff 161) [tt 12]), oo 14 (.len (tt 13)), oo 15 (.mv (ci 0))]
abbrev c_impl_faceIndices_3 : List GOp := [oo 16 (.bin .lss (tt 15) (tt 14))]
abbrev c_impl_faceIndices_4 : List GOp := [oo 17 (.ia 1 (tt 13) (tt 15)), oo 18 (.ld (tt 17)), oo 7 (.mv (tt 18))]
abbrev c_impl_faceIndices_5 : List GOp := [oo 19 (.mv (tt 5)), oo 20 (.ldn 1 (tt 2)), oo 21 (.mv (tt 7)), oo 22 (.call (ff 162) [tt 20, tt 21]), oo 23 (.bs 1 [tt 22]), oo 24 (.ap 1 8 [.int .i64 0] (tt 19) (tt 23)), oo 5 (.mv (tt 24))]
abbrev c_impl_faceIndices_6 : List GOp := [oo 25 (.bin .add (tt 15) (ci 1)), oo 15 (.mv (tt 25))]
abbrev c_impl_faceIndices_l0 : GCode := .seq (.reg c_impl_faceIndices_3) (.seq (.cond (tt 16) (.skip) (.exit 0)) (.seq (.blk 1 (.seq (.reg c_impl_faceIndices_4) (.reg c_impl_faceIndices_5))) (.reg c_impl_faceIndices_6)))
abbrev c_impl_faceIndices_8 : List GOp := [oo 26 (.mv (tt 5)), oo 4 (.mv (tt 26))]
abbrev c_impl_faceIndices : GCode := .seq (.reg c_impl_faceIndices_0) (.seq (.reg c_impl_faceIndices_1) (.seq (.seq (.reg c_impl_faceIndices_2) (.blk 0 (.loop c_impl_faceIndices_l0))) (.seq (.reg c_impl_faceIndices_8) (.ret))))
theorem c_impl_faceIndices_d : decFn Tryz.prog Tryz.f113 = some (27, [.t 4], c_impl_faceIndices) := by kernel_rfl
theorem c_impl_faceIndices_i {args : List Value} {G : GH} {K : Value → GH → Prop} (hn : args.length ≤ 27) (h : gW Tryz.prog c_impl_faceIndices (RetK [.t 4] K) (T0 args) G) : GC Tryz.prog 113 args G K := GC_intro mixed Tryz.func113 c_impl_faceIndices_d hn h
abbrev c_impl_facesOf_0 : List GOp := [oo 2 (.mv (.const (.slice none 0 0)))]
abbrev c_impl_facesOf_1 : List GOp := [oo 3 (.mv (.const (.slice none 0 0)))]
abbrev c_impl_facesOf_2 : List GOp := [oo 5 (.mv (tt 0)), oo 6 (.len (tt 5)), oo 7 (.mv (ci 0))]
abbrev c_impl_facesOf_3 : List GOp := [oo 8 (.bin .lss (tt 7) (tt 6))]
abbrev c_impl_facesOf_4 : List GOp := [oo 9 (.mv (tt 7)), oo 4 (.mv (tt 9))]
abbrev c_impl_facesOf_5 : List GOp := [oo 10 (.mv (tt 0)), oo 11 (.len (tt 10)), oo 12 (.bin .gtr (tt 11) (ci 1))]
abbrev c_impl_facesOf_6 : List DOp := [dl 0 (oo 13 (.mv (tt 3))), dl 1 (oo 14 (.mv (tt 0))), dl 2 (oo 15 (.mv (tt 4))), dl 3 (oo 16 (.sl 1 (tt 14) none (some (tt 15)))), dl 4 (oo 17 (.mv (tt 0))), dl 5 (oo 18 (.mv (tt 4))), dl 6 (oo 19 (.bin .add (tt 18) (ci 1))), dl 7 (oo 20 (.sl 1 (tt 17) (some (tt 19)) none)), dh 8 [] (oo 21 (.bs 1 [tt 16, tt 20])), dh 9 [] (oo 22 (.call (ff 188) [tt 21])), dh 10 [] (oo 23 (.bs 1 [tt 22])), dh 11 [] (oo 24 (.ap 1 24 [.slice none 0 0] (tt 13) (tt 23))), dl 12 (oo 3 (.mv (tt 24)))]
abbrev c_impl_facesOf_7 : List GOp := [oo 25 (.bin .add (tt 7) (ci 1)), oo 7 (.mv (tt 25))]
abbrev c_impl_facesOf_l0 : GCode := .seq (.reg c_impl_facesOf_3) (.seq (.cond (tt 8) (.skip) (.exit 0)) (.seq (.blk 1 (.seq (.reg c_impl_facesOf_4) (.seq (.reg c_impl_facesOf_5) (.cond (tt 12) (.dreg c_impl_facesOf_6) (.skip))))) (.reg c_impl_facesOf_7)))
abbrev c_impl_facesOf_9 : List GOp := [oo 26 (.mv (tt 3)), oo 2 (.mv (tt 26))]
abbrev c_impl_facesOf : GCode := .seq (.reg c_impl_facesOf_0) (.seq (.reg c_impl_facesOf_1) (.seq (.seq (.reg c_impl_facesOf_2) (.blk 0 (.loop c_impl_facesOf_l0))) (.seq (.reg c_impl_facesOf_9) (.ret))))
theorem c_impl_facesOf_d : decFn Tryz.prog Tryz.f161 = some (27, [.t 2], c_impl_facesOf) := by kernel_rfl
theorem c_impl_facesOf_i {args : List Value} {G : GH} {K : Value → GH → Prop} (hn : args.length ≤ 27) (h : gW Tryz.prog c_impl_facesOf (RetK [.t 2] K) (T0 args) G) : GC Tryz.prog 161 args G K := GC_intro mixed Tryz.func161 c_impl_facesOf_d hn h
abbrev c_impl_filled_0 : List GOp := [oo 8 (.al [.int .i64 0, .int .i64 0, .int .i64 0, .slice none 0 0])]
abbrev c_impl_filled_1 : List GOp := [oo 12 (.mv (tt 0)), oo 13 (.mv (tt 1)), oo 14 (.mv (tt 2)), oo 15 (.bld [.int .i64 0, .int .i64 0, .int .i64 0, .slice none 0 0] [(0, 1, (tt 12)), (1, 1, (tt 13)), (2, 1, (tt 14))]), oo 9 (.al [.int .i64 0, .int .i64 0, .int .i64 0, .slice none 0 0]), on (.st 4 (tt 9) (tt 15))]
abbrev c_impl_filled_2 : List GOp := [oo 16 (.mv (tt 1)), oo 17 (.mv (ci 0))]
abbrev c_impl_filled_3 : List GOp := [oo 18 (.bin .lss (tt 17) (tt 16))]
abbrev c_impl_filled_4 : List GOp := [oo 19 (.mv (tt 17)), oo 10 (.mv (tt 19))]
abbrev c_impl_filled_5 : List GOp := [oo 20 (.mv (tt 2)), oo 21 (.mv (ci 0))]
abbrev c_impl_filled_6 : List GOp := [oo 22 (.bin .lss (tt 21) (tt 20))]
abbrev c_impl_filled_7 : List GOp := [oo 23 (.mv (tt 21)), oo 11 (.mv (tt 23))]
abbrev c_impl_filled_8 : List DOp := [dl 0 (oo 24 (.fa 3 (tt 9))), dl 1 (oo 25 (.ld (tt 24))), dl 2 (oo 26 (.mv (tt 3))), dl 3 (oo 27 (.mv (tt 10))), dl 4 (oo 28 (.mv (tt 11))), dh 5 [1] (oo 29 (.call (tt 26) [tt 27, tt 28])), dh 6 [1] (oo 30 (.bs 1 [tt 29])), dh 7 [] (oo 31 (.ap 1 8 [.int .i64 0] (tt 25) (tt 30))), dl 8 (oo 32 (.fa 3 (tt 9))), dh 9 [] (on (.st 1 (tt 32) (tt 31)))]
abbrev c_impl_filled_9 : List GOp := [oo 33 (.bin .add (tt 21) (ci 1)), oo 21 (.mv (tt 33))]
abbrev c_impl_filled_l0 : GCode := .seq (.reg c_impl_filled_6) (.seq (.cond (tt 22) (.skip) (.exit 2)) (.seq (.blk 3 (.seq (.reg c_impl_filled_7) (.dreg c_impl_filled_8))) (.reg c_impl_filled_9)))
abbrev c_impl_filled_11 : List GOp := [oo 34 (.bin .add (tt 17) (ci 1)), oo 17 (.mv (tt 34))]
abbrev c_impl_filled_l1 : GCode := .seq (.reg c_impl_filled_3) (.seq (.cond (tt 18) (.skip) (.exit 0)) (.seq (.blk 1 (.seq (.reg c_impl_filled_4) (.seq (.reg c_impl_filled_5) (.blk 2 (.loop c_impl_filled_l0))))) (.reg c_impl_filled_11)))
abbrev c_impl_filled_13 : List GOp := [oo 35 (.ldn 4 (tt 9)), on (.st 4 (tt 8) (tt 35))]
abbrev c_impl_filled : GCode := .seq (.reg c_impl_filled_0) (.seq (.reg c_impl_filled_1) (.seq (.seq (.reg c_impl_filled_2) (.blk 0 (.loop c_impl_filled_l1))) (.seq (.reg c_impl_filled_13) (.ret))))
theorem c_impl_filled_d : decFn Tryz.prog Tryz.f124 = some (36, [.cn 8 4], c_impl_filled) := by kernel_rfl
theorem c_impl_filled_i {args : List Value} {G : GH} {K : Value → GH → Prop} (hn : args.length ≤ 36) (h : gW Tryz.prog c_impl_filled (RetK [.cn 8 4] K) (T0 args) G) : GC Tryz.prog 124 args G K := GC_intro mixed Tryz.func124 c_impl_filled_d hn h
abbrev c_impl_firstColumn_0 : List GOp := [oo 2 (.bx (tt 0)), oo 4 (.mv (ci 0))]
abbrev c_impl_firstColumn_1 : List GOp := [oo 5 (.mv (ci 0))]
abbrev c_impl_firstColumn_2 : List DOp := [dl 0 (oo 8 (.fa 0 (tt 2))), dl 1 (oo 9 (.ldn 1 (tt 8))), dl 2 (oo 10 (.fa 0 (tt 2))), dl 3 (oo 11 (.fa 0 (tt 10))), dl 4 (oo 12 (.ld (tt 11))), dl 5 (oo 13 (.mv (tt 1))), dl 6 (oo 14 (.ia 1 (tt 12) (tt 13))), dl 7 (oo 15 (.ld (tt 14))), dl 12 (oo 20 (.mv (ci 0))), dh 8 [4, 1] (oo 16 (.call (ff 74) [tt 15])), dl 9 (oo 17 (.bin .sub (tt 16) (ci 1))), dh 10 [7, 4] (oo 18 (.call (ff 66) [tt 9, tt 17])), dl 11 (oo 19 (.len (tt 18)))]
abbrev c_impl_firstColumn_3 : List GOp := [oo 21 (.bin .lss (tt 20) (tt 19))]
abbrev c_impl_firstColumn_4 : List GOp := [oo 22 (.ia 1 (tt 18) (tt 20)), oo 23 (.ld (tt 22)), oo 7 (.mv (tt 23))]
abbrev c_impl_firstColumn_5 : List GOp := [oo 24 (.mv (tt 7)), oo 25 (.mv (tt 1)), oo 26 (.bin .eql (tt 24) (tt 25))]
abbrev c_impl_firstColumn_6 : List GOp := [oo 27 (.mv (tt 5)), oo 28 (.fa 2 (tt 2)), oo 29 (.ld (tt 28)), oo 30 (.mv (tt 7)), oo 31 (.ia 1 (tt 29) (tt 30)), oo 32 (.ld (tt 31)), oo 33 (.bin .add (tt 27) (tt 32)), oo 5 (.mv (tt 33))]
abbrev c_impl_firstColumn_7 : List GOp := [oo 34 (.bin .add (tt 20) (ci 1)), oo 20 (.mv (tt 34))]
abbrev c_impl_firstColumn_l0 : GCode := .seq (.reg c_impl_firstColumn_3) (.seq (.cond (tt 21) (.skip) (.exit 0)) (.seq (.blk 1 (.seq (.reg c_impl_firstColumn_4) (.seq (.seq (.reg c_impl_firstColumn_5) (.cond (tt 26) (.exit 0) (.skip))) (.reg c_impl_firstColumn_6)))) (.reg c_impl_firstColumn_7)))
abbrev c_impl_firstColumn_9 : List GOp := [oo 35 (.mv (tt 5)), oo 4 (.mv (tt 35))]
abbrev c_impl_firstColumn : GCode := .seq (.reg c_impl_firstColumn_0) (.seq (.reg c_impl_firstColumn_1) (.seq (.seq (.dreg c_impl_firstColumn_2) (.blk 0 (.loop c_impl_firstColumn_l0))) (.seq (.reg c_impl_firstColumn_9) (.ret))))
theorem c_impl_firstColumn_d : decFn Tryz.prog Tryz.f123 = some (36, [.t 4], c_impl_firstColumn) := by kernel_rfl
theorem c_impl_firstColumn_i {args : List Value} {G : GH} {K : Value → GH → Prop} (hn : args.length ≤ 36) (h : gW Tryz.prog c_impl_firstColumn (RetK [.t 4] K) (T0 args) G) : GC Tryz.prog 123 args G K := GC_intro mixed Tryz.func123 c_impl_firstColumn_d hn h
abbrev c_impl_firstMap_0 : List GOp := [oo 2 (.bx (tt 0)), oo 4 (.mv (ci 0))]
abbrev c_impl_firstMap_1 : List GOp := [oo 5 (.mv (ci 0))]
abbrev c_impl_firstMap_2 : List GOp := [oo 8 (.fa 0 (tt 2)), oo 9 (.fa 0 (tt 8)), oo 10 (.ld (tt 9)), oo 11 (.mv (tt 1)), oo 12 (.sl 1 (tt 10) none (some (tt 11))), oo 13 (.len (tt 12)), oo 14 (.mv (ci 0))]
abbrev c_impl_firstMap_3 : List GOp := [oo 15 (.bin .lss (tt 14) (tt 13))]
abbrev c_impl_firstMap_4 : List GOp := [oo 16 (.ia 1 (tt 12) (tt 14)), oo 17 (.ld (tt 16)), oo 7 (.mv (tt 17))]
abbrev c_impl_firstMap_5 : List GOp := [oo 18 (.mv (tt 7)), oo 19 (.len (tt 18)), oo 20 (.bin .gtr (tt 19) (ci 1))]
abbrev c_impl_firstMap_6 : List GOp := [oo 21 (.mv (tt 5)), oo 22 (.mv (tt 7)), oo 23 (.call (ff 74) [tt 22]), oo 24 (.bin .add (tt 21) (tt 23)), oo 5 (.mv (tt 24))]
abbrev c_impl_firstMap_7 : List GOp := [oo 25 (.bin .add (tt 14) (ci 1)), oo 14 (.mv (tt 25))]
abbrev c_impl_firstMap_l0 : GCode := .seq (.reg c_impl_firstMap_3) (.seq (.cond (tt 15) (.skip) (.exit 0)) (.seq (.blk 1 (.seq (.reg c_impl_firstMap_4) (.seq (.reg c_impl_firstMap_5) (.cond (tt 20) (.reg c_impl_firstMap_6) (.skip))))) (.reg c_impl_firstMap_7)))
abbrev c_impl_firstMap_9 : List GOp := [oo 26 (.mv (tt 5)), oo 4 (.mv (tt 26))]
abbrev c_impl_firstMap : GCode := .seq (.reg c_impl_firstMap_0) (.seq (.reg c_impl_firstMap_1) (.seq (.seq (.reg c_impl_firstMap_2) (.blk 0 (.loop c_impl_firstMap_l0))) (.seq (.reg c_impl_firstMap_9) (.ret))))
theorem c_impl_firstMap_d : decFn Tryz.prog Tryz.f187 = some (27, [.t 4], c_impl_firstMap) := by kernel_rfl
theorem c_impl_firstMap_i {args : List Value} {G : GH} {K : Value → GH → Prop} (hn : args.length ≤ 27) (h : gW Tryz.prog c_impl_firstMap (RetK [.t 4] K) (T0 args) G) : GC Tryz.prog 187 args G K := GC_intro mixed Tryz.func187 c_impl_firstMap_d hn h
abbrev c_impl_indexOf_0 : List GOp := [oo 2 (.bx (tt 0)), oo 4 (.mv (ci 0))]
abbrev c_impl_indexOf_1 : List GOp := [oo 8 (.fa 0 (tt 2)), oo 9 (.ld (tt 8)), oo 10 (.mv (tt 1)), oo 11 (.call (ff 189) [tt 9, tt 10, (ff 190)]), oo 7 (.mv (tt 11)), oo 12 (.ex 0 (tt 7)), oo 13 (.ex 1 (tt 7)), oo 5 (.mv (tt 12)), oo 6 (.mv (tt 13))]
abbrev c_impl_indexOf_2 : List GOp := [oo 14 (.mv (tt 6)), oo 15 (.un .not (tt 14))]
abbrev c_impl_indexOf_3 : List GOp := [oo 4 (.mv (ci (-1)))]
abbrev c_impl_indexOf_4 : List GOp := [oo 16 (.mv (tt 5)), oo 4 (.mv (tt 16))]
abbrev c_impl_indexOf : GCode := .seq (.reg c_impl_indexOf_0) (.seq (.reg c_impl_indexOf_1) (.seq (.seq (.reg c_impl_indexOf_2) (.cond (tt 15) (.seq (.reg c_impl_indexOf_3) (.ret)) (.skip))) (.seq (.reg c_impl_indexOf_4) (.ret))))
theorem c_impl_indexOf_d : decFn Tryz.prog Tryz.f162 = some (17, [.t 4], c_impl_indexOf) := by kernel_rfl
theorem c_impl_indexOf_i {args : List Value} {G : GH} {K : Value → GH → Prop} (hn : args.length ≤ 17) (h : gW Tryz.prog c_impl_indexOf (RetK [.t 4] K) (T0 args) G) : GC Tryz.prog 162 args G K := GC_intro mixed Tryz.func162 c_impl_indexOf_d hn h
abbrev c_impl_isBetween_0 : List GOp := [oo 4 (.bx (tt 0)), oo 8 (.mv (cb  false))]
abbrev c_impl_isBetween_1 : List GOp := [oo 9 (.ldn 4 (tt 4)), oo 10 (.call (ff 206) [tt 9]), oo 11 (.mv (tt 10)), og 12 11 true (.fa 0 (tt 4)), og 13 11 true (.ld (tt 12)), og 14 11 true (.mv (tt 1)), og 15 11 true (.bin .eql (tt 13) (tt 14)), oo 16 (.pick (tt 11) (tt 15) (cb  false)), oo 17 (.mv (tt 16)), og 18 17 true (.fa 1 (tt 4)), og 19 17 true (.ld (tt 18)), og 20 17 true (.mv (tt 3)), og 21 17 true (.bin .eql (tt 19) (tt 20)), oo 22 (.pick (tt 17) (tt 21) (cb  false)), oo 23 (.mv (tt 22)), og 24 23 true (.fa 2 (tt 4)), og 25 23 true (.ld (tt 24)), og 26 23 true (.mv (tt 2)), og 27 23 true (.bin .eql (tt 25) (tt 26)), oo 28 (.pick (tt 23) (tt 27) (cb  false)), oo 8 (.mv (tt 28))]
abbrev c_impl_isBetween : GCode := .seq (.reg c_impl_isBetween_0) (.seq (.reg c_impl_isBetween_1) (.ret))
theorem c_impl_isBetween_d : decFn Tryz.prog Tryz.f183 = some (29, [.t 8], c_impl_isBetween) := by kernel_rfl
theorem c_impl_isBetween_i {args : List Value} {G : GH} {K : Value → GH → Prop} (hn : args.length ≤ 29) (h : gW Tryz.prog c_impl_isBetween (RetK [.t 8] K) (T0 args) G) : GC Tryz.prog 183 args G K := GC_intro mixed Tryz.func183 c_impl_isBetween_d hn h
abbrev c_impl_isElement_0 : List GOp := [oo 4 (.mv (cb  false))]
abbrev c_impl_isElement_1 : List GOp := [oo 5 (.mv (tt 0)), oo 6 (.mv (tt 1)), oo 7 (.bin .sub (tt 6) (ci 1)), oo 8 (.call (ff 167) [tt 5, (ci 0), tt 7]), oo 4 (.mv (tt 8))]
abbrev c_impl_isElement : GCode := .seq (.reg c_impl_isElement_0) (.seq (.reg c_impl_isElement_1) (.ret))
theorem c_impl_isElement_d : decFn Tryz.prog Tryz.f155 = some (9, [.t 4], c_impl_isElement) := by kernel_rfl
theorem c_impl_isElement_i {args : List Value} {G : GH} {K : Value → GH → Prop} (hn : args.length ≤ 9) (h : gW Tryz.prog c_impl_isElement (RetK [.t 4] K) (T0 args) G) : GC Tryz.prog 155 args G K := GC_intro mixed Tryz.func155 c_impl_isElement_d hn h
abbrev c_impl_isRising_0 : List GOp := [oo 2 (.mv (cb  false))]
abbrev c_impl_isRising_1 : List GOp := [oo 3 (.mv (ci 1))]
abbrev c_impl_isRising_2 : List GOp := [oo 4 (.mv (tt 3)), oo 5 (.mv (tt 0)), oo 6 (.len (tt 5)), oo 7 (.bin .lss (tt 4) (tt 6))]
abbrev c_impl_isRising_3 : List DOp := [dl 0 (oo 10 (.mv (tt 0))), dl 1 (oo 11 (.mv (tt 3))), dl 2 (oo 12 (.bin .sub (tt 11) (ci 1))), dl 3 (oo 13 (.ia 1 (tt 10) (tt 12))), dl 4 (oo 14 (.ld (tt 13))), dl 5 (oo 15 (.mv (tt 0))), dl 6 (oo 16 (.mv (tt 3))), dl 7 (oo 17 (.ia 1 (tt 15) (tt 16))), dl 8 (oo 18 (.ld (tt 17))), dl 9 (oo 19 (.bin .geq (tt 14) (tt 18)))]
abbrev c_impl_isRising_4 : List GOp := [oo 2 (.mv (cb  false))]
abbrev c_impl_isRising_5 : List GOp := [oo 8 (.mv (tt 3)), oo 9 (.bin .add (tt 8) (ci 1)), oo 3 (.mv (tt 9))]
abbrev c_impl_isRising_l0 : GCode := .seq (.seq (.reg c_impl_isRising_2) (.cond (tt 7) (.skip) (.exit 0))) (.seq (.blk 1 (.seq (.dreg c_impl_isRising_3) (.cond (tt 19) (.seq (.reg c_impl_isRising_4) (.ret)) (.skip)))) (.reg c_impl_isRising_5))
abbrev c_impl_isRising_7 : List GOp := [oo 2 (.mv (cb  true))]
abbrev c_impl_isRising : GCode := .seq (.reg c_impl_isRising_0) (.seq (.seq (.reg c_impl_isRising_1) (.blk 0 (.loop c_impl_isRising_l0))) (.seq (.reg c_impl_isRising_7) (.ret)))
theorem c_impl_isRising_d : decFn Tryz.prog Tryz.f101 = some (20, [.t 2], c_impl_isRising) := by kernel_rfl
theorem c_impl_isRising_i {args : List Value} {G : GH} {K : Value → GH → Prop} (hn : args.length ≤ 20) (h : gW Tryz.prog c_impl_isRising (RetK [.t 2] K) (T0 args) G) : GC Tryz.prog 101 args G K := GC_intro mixed Tryz.func101 c_impl_isRising_d hn h
abbrev c_impl_isSide_0 : List GOp := [oo 2 (.mv (cb  false))]
abbrev c_impl_isSide_1 : List GOp := [oo 3 (.mv (tt 0)), oo 4 (.call (ff 167) [tt 3, (ci 0), (ci 32)]), oo 2 (.mv (tt 4))]
abbrev c_impl_isSide : GCode := .seq (.reg c_impl_isSide_0) (.seq (.reg c_impl_isSide_1) (.ret))
theorem c_impl_isSide_d : decFn Tryz.prog Tryz.f217 = some (5, [.t 2], c_impl_isSide) := by kernel_rfl
theorem c_impl_isSide_i {args : List Value} {G : GH} {K : Value → GH → Prop} (hn : args.length ≤ 5) (h : gW Tryz.prog c_impl_isSide (RetK [.t 2] K) (T0 args) G) : GC Tryz.prog 217 args G K := GC_intro mixed Tryz.func217 c_impl_isSide_d hn h
abbrev c_impl_isVector_0 : List GOp := [oo 6 (.mv (cb  false))]
abbrev c_impl_isVector_1 : List GOp := [oo 7 (.mv (tt 0)), oo 8 (.call (ff 74) [tt 7]), oo 9 (.mv (tt 1)), oo 10 (.bin .eql (tt 8) (tt 9)), oo 11 (.mv (tt 10)), og 12 11 true (.mv (tt 0)), og 13 11 true (.mv (tt 2)), og 14 11 true (.call (ff 102) [tt 12, tt 13]), oo 15 (.pick (tt 11) (tt 14) (cb  false)), oo 6 (.mv (tt 15))]
abbrev c_impl_isVector : GCode := .seq (.reg c_impl_isVector_0) (.seq (.reg c_impl_isVector_1) (.ret))
theorem c_impl_isVector_d : decFn Tryz.prog Tryz.f99 = some (16, [.t 6], c_impl_isVector) := by kernel_rfl
theorem c_impl_isVector_i {args : List Value} {G : GH} {K : Value → GH → Prop} (hn : args.length ≤ 16) (h : gW Tryz.prog c_impl_isVector (RetK [.t 6] K) (T0 args) G) : GC Tryz.prog 99 args G K := GC_intro mixed Tryz.func99 c_impl_isVector_d hn h
abbrev c_impl_isVertex_0 : List GOp := [oo 2 (.mv (cb  false))]
abbrev c_impl_isVertex_1 : List GOp := [oo 3 (.mv (tt 0)), oo 4 (.call (ff 167) [tt 3, (ci 0), (ci 9)]), oo 2 (.mv (tt 4))]
abbrev c_impl_isVertex : GCode := .seq (.reg c_impl_isVertex_0) (.seq (.reg c_impl_isVertex_1) (.ret))
theorem c_impl_isVertex_d : decFn Tryz.prog Tryz.f216 = some (5, [.t 2], c_impl_isVertex) := by kernel_rfl
theorem c_impl_isVertex_i {args : List Value} {G : GH} {K : Value → GH → Prop} (hn : args.length ≤ 5) (h : gW Tryz.prog c_impl_isVertex (RetK [.t 2] K) (T0 args) G) : GC Tryz.prog 216 args G K := GC_intro mixed Tryz.func216 c_impl_isVertex_d hn h
abbrev c_impl_isWithin_0 : List GOp := [oo 3 (.bx (tt 0)), oo 5 (.bx (tt 2)), oo 6 (.mv (cb  false))]
abbrev c_impl_isWithin_1 : List GOp := [oo 7 (.fa 0 (tt 3)), oo 8 (.ldn 1 (tt 7)), oo 9 (.mv (tt 1)), oo 10 (.call (ff 113) [tt 8, tt 9]), oo 11 (.mf (.func 114) [] [tt 5]), oo 12 (.call (ff 57) [tt 10, tt 11]), oo 13 (.un .not (tt 12)), oo 6 (.mv (tt 13))]
abbrev c_impl_isWithin : GCode := .seq (.reg c_impl_isWithin_0) (.seq (.reg c_impl_isWithin_1) (.ret))
theorem c_impl_isWithin_d : decFn Tryz.prog Tryz.f59 = some (14, [.t 6], c_impl_isWithin) := by kernel_rfl
theorem c_impl_isWithin_i {args : List Value} {G : GH} {K : Value → GH → Prop} (hn : args.length ≤ 14) (h : gW Tryz.prog c_impl_isWithin (RetK [.t 6] K) (T0 args) G) : GC Tryz.prog 59 args G K := GC_intro mixed Tryz.func59 c_impl_isWithin_d hn h
abbrev c_impl_isWithin_fn1_0 : List GOp := [oo 3 (.mv (cb  false))]
abbrev c_impl_isWithin_fn1_1 : List GOp := [oo 4 (.ld (tt 1)), oo 5 (.mv (tt 0)), oo 6 (.call (ff 115) [tt 4, tt 5]), oo 7 (.un .not (tt 6)), oo 3 (.mv (tt 7))]
abbrev c_impl_isWithin_fn1 : GCode := .seq (.reg c_impl_isWithin_fn1_0) (.seq (.reg c_impl_isWithin_fn1_1) (.ret))
theorem c_impl_isWithin_fn1_d : decFn Tryz.prog Tryz.f114 = some (8, [.t 3], c_impl_isWithin_fn1) := by kernel_rfl
theorem c_impl_isWithin_fn1_i {args : List Value} {G : GH} {K : Value → GH → Prop} (hn : args.length ≤ 8) (h : gW Tryz.prog c_impl_isWithin_fn1 (RetK [.t 3] K) (T0 args) G) : GC Tryz.prog 114 args G K := GC_intro mixed Tryz.func114 c_impl_isWithin_fn1_d hn h
abbrev c_impl_isZero_0 : List GOp := [oo 2 (.mv (cb  false))]
abbrev c_impl_isZero_1 : List GOp := [oo 3 (.mv (tt 0)), oo 4 (.call (ff 57) [tt 3, (ff 116)]), oo 5 (.un .not (tt 4)), oo 2 (.mv (tt 5))]
abbrev c_impl_isZero : GCode := .seq (.reg c_impl_isZero_0) (.seq (.reg c_impl_isZero_1) (.ret))
theorem c_impl_isZero_d : decFn Tryz.prog Tryz.f62 = some (6, [.t 2], c_impl_isZero) := by kernel_rfl
theorem c_impl_isZero_i {args : List Value} {G : GH} {K : Value → GH → Prop} (hn : args.length ≤ 6) (h : gW Tryz.prog c_impl_isZero (RetK [.t 2] K) (T0 args) G) : GC Tryz.prog 62 args G K := GC_intro mixed Tryz.func62 c_impl_isZero_d hn h
abbrev c_impl_isZero_fn1_0 : List GOp := [oo 2 (.mv (cb  false))]
abbrev c_impl_isZero_fn1_1 : List GOp := [oo 3 (.mv (tt 0)), oo 4 (.bin .neq (tt 3) (ci 0)), oo 2 (.mv (tt 4))]
abbrev c_impl_isZero_fn1 : GCode := .seq (.reg c_impl_isZero_fn1_0) (.seq (.reg c_impl_isZero_fn1_1) (.ret))
theorem c_impl_isZero_fn1_d : decFn Tryz.prog Tryz.f116 = some (5, [.t 2], c_impl_isZero_fn1) := by kernel_rfl
theorem c_impl_isZero_fn1_i {args : List Value} {G : GH} {K : Value → GH → Prop} (hn : args.length ≤ 5) (h : gW Tryz.prog c_impl_isZero_fn1 (RetK [.t 2] K) (T0 args) G) : GC Tryz.prog 116 args G K := GC_intro mixed Tryz.func116 c_impl_isZero_fn1_d hn h
abbrev c_impl_part_0 : List GOp := [oo 3 (.bx (tt 0)), oo 6 (.mv (.const (.slice none 0 0)))]
abbrev c_impl_part_1 : List GOp := [oo 8 (.ldn 4 (tt 3)), oo 9 (.mv (tt 2)), oo 10 (.call (ff 123) [tt 8, tt 9]), oo 7 (.mv (tt 10))]
abbrev c_impl_part_2 : List GOp := [oo 11 (.mv (tt 1)), oo 12 (.mv (tt 7)), oo 13 (.mv (tt 7)), oo 14 (.fa 2 (tt 3)), oo 15 (.ld (tt 14)), oo 16 (.mv (tt 2)), oo 17 (.ia 1 (tt 15) (tt 16)), oo 18 (.ld (tt 17)), oo 19 (.bin .add (tt 13) (tt 18)), oo 20 (.sl 1 (tt 11) (some (tt 12)) (some (tt 19))), oo 21 (.call (ff 118) [tt 20]), oo 6 (.mv (tt 21))]
abbrev c_impl_part : GCode := .seq (.reg c_impl_part_0) (.seq (.reg c_impl_part_1) (.seq (.reg c_impl_part_2) (.ret)))
theorem c_impl_part_d : decFn Tryz.prog Tryz.f105 = some (22, [.t 6], c_impl_part) := by kernel_rfl
theorem c_impl_part_i {args : List Value} {G : GH} {K : Value → GH → Prop} (hn : args.length ≤ 22) (h : gW Tryz.prog c_impl_part (RetK [.t 6] K) (T0 args) G) : GC Tryz.prog 105 args G K := GC_intro mixed Tryz.func105 c_impl_part_d hn h
abbrev c_impl_product_0 : List GOp := [oo 2 (.bx (tt 0)), oo 3 (.bx (tt 1)), oo 4 (.al [.int .i64 0, .int .i64 0, .int .i64 0, .slice none 0 0])]
abbrev c_impl_product_1 : List GOp := [oo 6 (.ldn 4 (tt 3)), oo 7 (.call (ff 207) [tt 6]), oo 5 (.al [.slice none 0 0]), on (.st 1 (tt 5) (tt 7))]
abbrev c_impl_product_2 : List GOp := [oo 8 (.fa 0 (tt 2)), oo 9 (.ld (tt 8)), oo 10 (.fa 1 (tt 2)), oo 11 (.ld (tt 10)), oo 12 (.fa 2 (tt 3)), oo 13 (.ld (tt 12)), oo 14 (.mf (.func 208) [] [tt 2, tt 5]), oo 15 (.call (ff 124) [tt 9, tt 11, tt 13, tt 14]), on (.st 4 (tt 4) (tt 15))]
abbrev c_impl_product : GCode := .seq (.reg c_impl_product_0) (.seq (.reg c_impl_product_1) (.seq (.reg c_impl_product_2) (.ret)))
theorem c_impl_product_d : decFn Tryz.prog Tryz.f184 = some (16, [.cn 4 4], c_impl_product) := by kernel_rfl
theorem c_impl_product_i {args : List Value} {G : GH} {K : Value → GH → Prop} (hn : args.length ≤ 16) (h : gW Tryz.prog c_impl_product (RetK [.cn 4 4] K) (T0 args) G) : GC Tryz.prog 184 args G K := GC_intro mixed Tryz.func184 c_impl_product_d hn h
abbrev c_impl_product_fn1_0 : List GOp := [oo 6 (.mv (ci 0))]
abbrev c_impl_product_fn1_1 : List DOp := [dl 0 (oo 7 (.ldn 4 (tt 2))), dl 1 (oo 8 (.mv (tt 0))), dl 3 (oo 10 (.ld (tt 3))), dl 4 (oo 11 (.mv (tt 1))), dl 5 (oo 12 (.ia 1 (tt 10) (tt 11))), dl 6 (oo 13 (.ld (tt 12))), dl 7 (oo 14 (.fa 0 (tt 2))), dl 8 (oo 15 (.ld (tt 14))), dh 2 [8, 6, 3] (oo 9 (.call (ff 157) [tt 7, tt 8])), dh 9 [3, 0] (oo 16 (.call (ff 156) [tt 9, tt 13, tt 15])), dl 10 (oo 6 (.mv (tt 16)))]
abbrev c_impl_product_fn1 : GCode := .seq (.reg c_impl_product_fn1_0) (.seq (.dreg c_impl_product_fn1_1) (.ret))
theorem c_impl_product_fn1_d : decFn Tryz.prog Tryz.f208 = some (17, [.t 6], c_impl_product_fn1) := by kernel_rfl
theorem c_impl_product_fn1_i {args : List Value} {G : GH} {K : Value → GH → Prop} (hn : args.length ≤ 17) (h : gW Tryz.prog c_impl_product_fn1 (RetK [.t 6] K) (T0 args) G) : GC Tryz.prog 208 args G K := GC_intro mixed Tryz.func208 c_impl_product_fn1_d hn h
abbrev c_impl_read_0 : List GOp := [oo 3 (.bx (tt 0)), oo 6 (.mv (ci 0))]
abbrev c_impl_read_1 : List GOp := [oo 8 (.ldn 4 (tt 3)), oo 9 (.call (ff 98) [tt 8]), oo 10 (.un .not (tt 9)), oo 7 (.mv (tt 10))]
abbrev c_impl_read_2 : List GOp := [oo 6 (.mv (ci 1))]
abbrev c_impl_read_3 : List DOp := [dl 0 (oo 12 (.mv (tt 1))), dl 1 (oo 13 (.ldn 4 (tt 3))), dl 3 (oo 15 (.fa 1 (tt 3))), dl 4 (oo 16 (.ld (tt 15))), dh 2 [4] (oo 14 (.call (ff 100) [tt 13, (ci 0)])), dh 5 [1] (oo 17 (.call (ff 99) [tt 12, tt 14, tt 16])), dl 6 (oo 18 (.un .not (tt 17))), dl 7 (oo 11 (.mv (tt 18)))]
abbrev c_impl_read_4 : List GOp := [oo 6 (.mv (ci 7))]
abbrev c_impl_read_5 : List GOp := [oo 20 (.mv (tt 2)), oo 21 (.call (ff 101) [tt 20]), oo 22 (.un .not (tt 21)), oo 23 (.mv (tt 22)), og 24 23 false (.mv (tt 2)), og 25 23 false (.fa 0 (tt 3)), og 26 23 false (.ldn 1 (tt 25)), og 27 23 false (.call (ff 75) [tt 26]), og 28 23 false (.call (ff 74) [tt 27]), og 29 23 false (.call (ff 102) [tt 24, tt 28]), og 30 23 false (.un .not (tt 29)), oo 31 (.pick (tt 23) (cb  true) (tt 30)), oo 19 (.mv (tt 31))]
abbrev c_impl_read_6 : List GOp := [oo 6 (.mv (ci 7))]
abbrev c_impl_read_7 : List GOp := [oo 6 (.mv (ci 0))]
abbrev c_impl_read : GCode := .seq (.reg c_impl_read_0) (.seq (.blk 0 (.seq (.reg c_impl_read_1) (.cond (tt 7) (.seq (.reg c_impl_read_2) (.ret)) (.seq (.dreg c_impl_read_3) (.cond (tt 11) (.seq (.reg c_impl_read_4) (.ret)) (.seq (.reg c_impl_read_5) (.cond (tt 19) (.seq (.reg c_impl_read_6) (.ret)) (.skip)))))))) (.seq (.reg c_impl_read_7) (.ret)))
theorem c_impl_read_d : decFn Tryz.prog Tryz.f49 = some (32, [.t 6], c_impl_read) := by kernel_rfl
theorem c_impl_read_i {args : List Value} {G : GH} {K : Value → GH → Prop} (hn : args.length ≤ 32) (h : gW Tryz.prog c_impl_read (RetK [.t 6] K) (T0 args) G) : GC Tryz.prog 49 args G K := GC_intro mixed Tryz.func49 c_impl_read_d hn h
abbrev c_impl_rowsOf_0 : List GOp := [oo 1 (.bx (tt 0)), oo 2 (.mv (.const (.slice none 0 0)))]
abbrev c_impl_rowsOf_1 : List GOp := [oo 3 (.mv (.const (.slice none 0 0)))]
abbrev c_impl_rowsOf_2 : List GOp := [oo 5 (.fa 1 (tt 1)), oo 6 (.ld (tt 5)), oo 7 (.mv (ci 0))]
abbrev c_impl_rowsOf_3 : List GOp := [oo 8 (.bin .lss (tt 7) (tt 6))]
abbrev c_impl_rowsOf_4 : List GOp := [oo 9 (.mv (tt 7)), oo 4 (.mv (tt 9))]
abbrev c_impl_rowsOf_5 : List GOp := [oo 10 (.mv (tt 3)), oo 11 (.ldn 4 (tt 1)), oo 12 (.mv (tt 4)), oo 13 (.call (ff 157) [tt 11, tt 12]), oo 14 (.call (ff 118) [tt 13]), oo 15 (.bs 1 [tt 14]), oo 16 (.ap 1 24 [.slice none 0 0] (tt 10) (tt 15)), oo 3 (.mv (tt 16))]
abbrev c_impl_rowsOf_6 : List GOp := [oo 17 (.bin .add (tt 7) (ci 1)), oo 7 (.mv (tt 17))]
abbrev c_impl_rowsOf_l0 : GCode := .seq (.reg c_impl_rowsOf_3) (.seq (.cond (tt 8) (.skip) (.exit 0)) (.seq (.blk 1 (.seq (.reg c_impl_rowsOf_4) (.reg c_impl_rowsOf_5))) (.reg c_impl_rowsOf_6)))
abbrev c_impl_rowsOf_8 : List GOp := [oo 18 (.mv (tt 3)), oo 2 (.mv (tt 18))]
abbrev c_impl_rowsOf : GCode := .seq (.reg c_impl_rowsOf_0) (.seq (.reg c_impl_rowsOf_1) (.seq (.seq (.reg c_impl_rowsOf_2) (.blk 0 (.loop c_impl_rowsOf_l0))) (.seq (.reg c_impl_rowsOf_8) (.ret))))
theorem c_impl_rowsOf_d : decFn Tryz.prog Tryz.f165 = some (19, [.t 2], c_impl_rowsOf) := by kernel_rfl
theorem c_impl_rowsOf_i {args : List Value} {G : GH} {K : Value → GH → Prop} (hn : args.length ≤ 19) (h : gW Tryz.prog c_impl_rowsOf (RetK [.t 2] K) (T0 args) G) : GC Tryz.prog 165 args G K := GC_intro mixed Tryz.func165 c_impl_rowsOf_d hn h
abbrev c_impl_simplicesOf_0 : List GOp := [oo 2 (.bx (tt 0)), oo 4 (.mv (.const (.slice none 0 0)))]
abbrev c_impl_simplicesOf_1 : List GOp := [oo 5 (.mv (.const (.slice none 0 0)))]
abbrev c_impl_simplicesOf_2 : List GOp := [oo 8 (.fa 0 (tt 2)), oo 9 (.ld (tt 8)), oo 10 (.len (tt 9)), oo 11 (.mv (ci 0))]
abbrev c_impl_simplicesOf_3 : List GOp := [oo 12 (.bin .lss (tt 11) (tt 10))]
abbrev c_impl_simplicesOf_4 : List GOp := [oo 13 (.mv (tt 11)), oo 14 (.ia 1 (tt 9) (tt 11)), oo 15 (.ld (tt 14)), oo 6 (.mv (tt 13)), oo 7 (.mv (tt 15))]
abbrev c_impl_simplicesOf_5 : List GOp := [oo 16 (.mv (tt 7)), oo 17 (.call (ff 74) [tt 16]), oo 18 (.mv (tt 1)), oo 19 (.bin .add (tt 18) (ci 1)), oo 20 (.bin .eql (tt 17) (tt 19))]
abbrev c_impl_simplicesOf_6 : List GOp := [oo 21 (.mv (tt 5)), oo 22 (.mv (tt 6)), oo 23 (.bs 1 [tt 22]), oo 24 (.ap 1 8 [.int .i64 0] (tt 21) (tt 23)), oo 5 (.mv (tt 24))]
abbrev c_impl_simplicesOf_7 : List GOp := [oo 25 (.bin .add (tt 11) (ci 1)), oo 11 (.mv (tt 25))]
abbrev c_impl_simplicesOf_l0 : GCode := .seq (.reg c_impl_simplicesOf_3) (.seq (.cond (tt 12) (.skip) (.exit 0)) (.seq (.blk 1 (.seq (.reg c_impl_simplicesOf_4) (.seq (.reg c_impl_simplicesOf_5) (.cond (tt 20) (.reg c_impl_simplicesOf_6) (.skip))))) (.reg c_impl_simplicesOf_7)))
abbrev c_impl_simplicesOf_9 : List GOp := [oo 26 (.mv (tt 5)), oo 4 (.mv (tt 26))]
abbrev c_impl_simplicesOf : GCode := .seq (.reg c_impl_simplicesOf_0) (.seq (.reg c_impl_simplicesOf_1) (.seq (.seq (.reg c_impl_simplicesOf_2) (.blk 0 (.loop c_impl_simplicesOf_l0))) (.seq (.reg c_impl_simplicesOf_9) (.ret))))
theorem c_impl_simplicesOf_d : decFn Tryz.prog Tryz.f66 = some (27, [.t 4], c_impl_simplicesOf) := by kernel_rfl
theorem c_impl_simplicesOf_i {args : List Value} {G : GH} {K : Value → GH → Prop} (hn : args.length ≤ 27) (h : gW Tryz.prog c_impl_simplicesOf (RetK [.t 4] K) (T0 args) G) : GC Tryz.prog 66 args G K := GC_intro mixed Tryz.func66 c_impl_simplicesOf_d hn h
abbrev c_impl_size_S_int64_0 : List GOp := [oo 2 (.mv (ci 0))]
abbrev c_impl_size_S_int64_1 : List GOp := [oo 3 (.mv (tt 0)), oo 4 (.len (tt 3)), oo 2 (.mv (tt 4))]
abbrev c_impl_size_S_int64 : GCode := .seq (.reg c_impl_size_S_int64_0) (.seq (.reg c_impl_size_S_int64_1) (.ret))
theorem c_impl_size_S_int64_d : decFn Tryz.prog Tryz.f205 = some (5, [.t 2], c_impl_size_S_int64) := by kernel_rfl
theorem c_impl_size_S_int64_i {args : List Value} {G : GH} {K : Value → GH → Prop} (hn : args.length ≤ 5) (h : gW Tryz.prog c_impl_size_S_int64 (RetK [.t 2] K) (T0 args) G) : GC Tryz.prog 205 args G K := GC_intro mixed Tryz.func205 c_impl_size_S_int64_d hn h
abbrev c_impl_size_int64_0 : List GOp := [oo 2 (.mv (ci 0))]
abbrev c_impl_size_int64_1 : List GOp := [oo 3 (.mv (tt 0)), oo 4 (.len (tt 3)), oo 2 (.mv (tt 4))]
abbrev c_impl_size_int64 : GCode := .seq (.reg c_impl_size_int64_0) (.seq (.reg c_impl_size_int64_1) (.ret))
theorem c_impl_size_int64_d : decFn Tryz.prog Tryz.f74 = some (5, [.t 2], c_impl_size_int64) := by kernel_rfl
theorem c_impl_size_int64_i {args : List Value} {G : GH} {K : Value → GH → Prop} (hn : args.length ≤ 5) (h : gW Tryz.prog c_impl_size_int64 (RetK [.t 2] K) (T0 args) G) : GC Tryz.prog 74 args G K := GC_intro mixed Tryz.func74 c_impl_size_int64_d hn h
abbrev c_impl_stalkSum_0 : List GOp := [oo 2 (.bx (tt 0)), oo 4 (.mv (ci 0))]
abbrev c_impl_stalkSum_1 : List GOp := [oo 5 (.mv (ci 0))]
abbrev c_impl_stalkSum_2 : List GOp := [oo 8 (.fa 0 (tt 2)), oo 9 (.ldn 1 (tt 8)), oo 10 (.mv (tt 1)), oo 11 (.call (ff 66) [tt 9, tt 10]), oo 12 (.len (tt 11)), oo 13 (.mv (ci 0))]
abbrev c_impl_stalkSum_3 : List GOp := [oo 14 (.bin .lss (tt 13) (tt 12))]
abbrev c_impl_stalkSum_4 : List GOp := [oo 15 (.ia 1 (tt 11) (tt 13)), oo 16 (.ld (tt 15)), oo 7 (.mv (tt 16))]
abbrev c_impl_stalkSum_5 : List GOp := [oo 17 (.mv (tt 5)), oo 18 (.fa 2 (tt 2)), oo 19 (.ld (tt 18)), oo 20 (.mv (tt 7)), oo 21 (.ia 1 (tt 19) (tt 20)), oo 22 (.ld (tt 21)), oo 23 (.bin .add (tt 17) (tt 22)), oo 5 (.mv (tt 23))]
abbrev c_impl_stalkSum_6 : List GOp := [oo 24 (.bin .add (tt 13) (ci 1)), oo 13 (.mv (tt 24))]
abbrev c_impl_stalkSum_l0 : GCode := .seq (.reg c_impl_stalkSum_3) (.seq (.cond (tt 14) (.skip) (.exit 0)) (.seq (.blk 1 (.seq (.reg c_impl_stalkSum_4) (.reg c_impl_stalkSum_5))) (.reg c_impl_stalkSum_6)))
abbrev c_impl_stalkSum_8 : List GOp := [oo 25 (.mv (tt 5)), oo 4 (.mv (tt 25))]
abbrev c_impl_stalkSum : GCode := .seq (.reg c_impl_stalkSum_0) (.seq (.reg c_impl_stalkSum_1) (.seq (.seq (.reg c_impl_stalkSum_2) (.blk 0 (.loop c_impl_stalkSum_l0))) (.seq (.reg c_impl_stalkSum_8) (.ret))))
theorem c_impl_stalkSum_d : decFn Tryz.prog Tryz.f100 = some (26, [.t 4], c_impl_stalkSum) := by kernel_rfl
theorem c_impl_stalkSum_i {args : List Value} {G : GH} {K : Value → GH → Prop} (hn : args.length ≤ 26) (h : gW Tryz.prog c_impl_stalkSum (RetK [.t 4] K) (T0 args) G) : GC Tryz.prog 100 args G K := GC_intro mixed Tryz.func100 c_impl_stalkSum_d hn h
abbrev c_impl_transpose_0 : List GOp := [oo 1 (.bx (tt 0)), oo 2 (.al [.int .i64 0, .int .i64 0, .int .i64 0, .slice none 0 0])]
abbrev c_impl_transpose_1 : List GOp := [oo 3 (.fa 0 (tt 1)), oo 4 (.ld (tt 3)), oo 5 (.fa 2 (tt 1)), oo 6 (.ld (tt 5)), oo 7 (.fa 1 (tt 1)), oo 8 (.ld (tt 7)), oo 9 (.mf (.func 221) [] [tt 1]), oo 10 (.call (ff 124) [tt 4, tt 6, tt 8, tt 9]), on (.st 4 (tt 2) (tt 10))]
abbrev c_impl_transpose : GCode := .seq (.reg c_impl_transpose_0) (.seq (.reg c_impl_transpose_1) (.ret))
theorem c_impl_transpose_d : decFn Tryz.prog Tryz.f218 = some (11, [.cn 2 4], c_impl_transpose) := by kernel_rfl
theorem c_impl_transpose_i {args : List Value} {G : GH} {K : Value → GH → Prop} (hn : args.length ≤ 11) (h : gW Tryz.prog c_impl_transpose (RetK [.cn 2 4] K) (T0 args) G) : GC Tryz.prog 218 args G K := GC_intro mixed Tryz.func218 c_impl_transpose_d hn h
abbrev c_impl_transpose_fn1_0 : List GOp := [oo 5 (.mv (ci 0))]
abbrev c_impl_transpose_fn1_1 : List GOp := [oo 6 (.ldn 4 (tt 2)), oo 7 (.mv (tt 1)), oo 8 (.mv (tt 0)), oo 9 (.call (ff 126) [tt 6, tt 7, tt 8]), oo 5 (.mv (tt 9))]
abbrev c_impl_transpose_fn1 : GCode := .seq (.reg c_impl_transpose_fn1_0) (.seq (.reg c_impl_transpose_fn1_1) (.ret))
theorem c_impl_transpose_fn1_d : decFn Tryz.prog Tryz.f221 = some (10, [.t 5], c_impl_transpose_fn1) := by kernel_rfl
theorem c_impl_transpose_fn1_i {args : List Value} {G : GH} {K : Value → GH → Prop} (hn : args.length ≤ 10) (h : gW Tryz.prog c_impl_transpose_fn1 (RetK [.t 5] K) (T0 args) G) : GC Tryz.prog 221 args G K := GC_intro mixed Tryz.func221 c_impl_transpose_fn1_d hn h
abbrev c_impl_verticesOf_0 : List GOp := [oo 1 (.bx (tt 0)), oo 2 (.mv (.const (.slice none 0 0)))]
abbrev c_impl_verticesOf_1 : List GOp := [oo 3 (.mv (.const (.slice none 0 0)))]
abbrev c_impl_verticesOf_2 : List GOp := [oo 6 (.fa 0 (tt 1)), oo 7 (.ld (tt 6)), oo 8 (.len (tt 7)), oo 9 (.mv (ci 0))]
abbrev c_impl_verticesOf_3 : List GOp := [oo 10 (.bin .lss (tt 9) (tt 8))]
abbrev c_impl_verticesOf_4 : List GOp := [oo 11 (.ia 1 (tt 7) (tt 9)), oo 12 (.ld (tt 11)), oo 5 (.mv (tt 12))]
abbrev c_impl_verticesOf_5 : List GOp := [oo 13 (.mv (tt 5)), oo 14 (.len (tt 13)), oo 15 (.bin .eql (tt 14) (ci 1))]
abbrev c_impl_verticesOf_6 : List GOp := [oo 16 (.mv (tt 3)), oo 17 (.mv (tt 5)), oo 18 (.ia 1 (tt 17) (ci 0)), oo 19 (.ld (tt 18)), oo 20 (.bs 1 [tt 19]), oo 21 (.ap 1 8 [.int .i64 0] (tt 16) (tt 20)), oo 3 (.mv (tt 21))]
abbrev c_impl_verticesOf_7 : List GOp := [oo 22 (.bin .add (tt 9) (ci 1)), oo 9 (.mv (tt 22))]
abbrev c_impl_verticesOf_l0 : GCode := .seq (.reg c_impl_verticesOf_3) (.seq (.cond (tt 10) (.skip) (.exit 0)) (.seq (.blk 1 (.seq (.reg c_impl_verticesOf_4) (.seq (.reg c_impl_verticesOf_5) (.cond (tt 15) (.reg c_impl_verticesOf_6) (.skip))))) (.reg c_impl_verticesOf_7)))
abbrev c_impl_verticesOf_9 : List GOp := [oo 23 (.mv (tt 3)), oo 2 (.mv (tt 23))]
abbrev c_impl_verticesOf : GCode := .seq (.reg c_impl_verticesOf_0) (.seq (.reg c_impl_verticesOf_1) (.seq (.seq (.reg c_impl_verticesOf_2) (.blk 0 (.loop c_impl_verticesOf_l0))) (.seq (.reg c_impl_verticesOf_9) (.ret))))
theorem c_impl_verticesOf_d : decFn Tryz.prog Tryz.f75 = some (24, [.t 2], c_impl_verticesOf) := by kernel_rfl
theorem c_impl_verticesOf_i {args : List Value} {G : GH} {K : Value → GH → Prop} (hn : args.length ≤ 24) (h : gW Tryz.prog c_impl_verticesOf (RetK [.t 2] K) (T0 args) G) : GC Tryz.prog 75 args G K := GC_intro mixed Tryz.func75 c_impl_verticesOf_d hn h
abbrev c_impl_within_0 : List GOp := [oo 6 (.mv (cb  false))]
abbrev c_impl_within_1 : List GOp := [oo 7 (.mv (tt 0)), oo 8 (.mv (tt 1)), oo 9 (.bin .geq (tt 7) (tt 8)), oo 10 (.mv (tt 9)), og 11 10 true (.mv (tt 0)), og 12 10 true (.mv (tt 2)), og 13 10 true (.bin .leq (tt 11) (tt 12)), oo 14 (.pick (tt 10) (tt 13) (cb  false)), oo 6 (.mv (tt 14))]
abbrev c_impl_within : GCode := .seq (.reg c_impl_within_0) (.seq (.reg c_impl_within_1) (.ret))
theorem c_impl_within_d : decFn Tryz.prog Tryz.f167 = some (15, [.t 6], c_impl_within) := by kernel_rfl
theorem c_impl_within_i {args : List Value} {G : GH} {K : Value → GH → Prop} (hn : args.length ≤ 15) (h : gW Tryz.prog c_impl_within (RetK [.t 6] K) (T0 args) G) : GC Tryz.prog 167 args G K := GC_intro mixed Tryz.func167 c_impl_within_d hn h
abbrev c_impl_wrongSquare_0 : List GOp := [oo 1 (.bx (tt 0)), oo 2 (.mv (ci 0)), oo 3 (.mv (ci 0)), oo 4 (.mv (cb  false))]
abbrev c_impl_wrongSquare_1 : List GOp := [oo 13 (.fa 0 (tt 1)), oo 14 (.fa 0 (tt 13)), oo 15 (.ld (tt 14)), oo 16 (.len (tt 15)), oo 17 (.mv (ci 0))]
abbrev c_impl_wrongSquare_2 : List GOp := [oo 18 (.bin .lss (tt 17) (tt 16))]
abbrev c_impl_wrongSquare_3 : List GOp := [oo 19 (.mv (tt 17)), oo 20 (.ia 1 (tt 15) (tt 17)), oo 21 (.ld (tt 20)), oo 5 (.mv (tt 19)), oo 6 (.mv (tt 21))]
abbrev c_impl_wrongSquare_4 : List GOp := [oo 22 (.mv (tt 6)), oo 23 (.len (tt 22)), oo 24 (.bin .lss (tt 23) (ci 3))]
abbrev c_impl_wrongSquare_5 : List GOp := [oo 25 (.mv (tt 5)), oo 7 (.mv (tt 25))]
abbrev c_impl_wrongSquare_6 : List GOp := [oo 26 (.fa 0 (tt 1)), oo 27 (.ldn 1 (tt 26)), oo 28 (.mv (tt 7)), oo 29 (.call (ff 113) [tt 27, tt 28]), oo 8 (.mv (tt 29))]
abbrev c_impl_wrongSquare_7 : List GOp := [oo 30 (.mv (tt 6)), oo 31 (.len (tt 30)), oo 32 (.mv (ci 0))]
abbrev c_impl_wrongSquare_8 : List GOp := [oo 33 (.bin .lss (tt 32) (tt 31))]
abbrev c_impl_wrongSquare_9 : List GOp := [oo 34 (.mv (tt 32)), oo 9 (.mv (tt 34))]
abbrev c_impl_wrongSquare_10 : List GOp := [oo 35 (.mv (tt 9)), oo 36 (.bin .add (tt 35) (ci 1)), oo 10 (.mv (tt 36))]
abbrev c_impl_wrongSquare_11 : List GOp := [oo 37 (.mv (tt 10)), oo 38 (.mv (tt 6)), oo 39 (.len (tt 38)), oo 40 (.bin .lss (tt 37) (tt 39))]
abbrev c_impl_wrongSquare_12 : DT := (.path [dl 0 (oo 43 (.ldn 4 (tt 1)))] (.path [dl 1 (oo 44 (.mv (tt 7)))] (.path [dl 2 (oo 45 (.mv (tt 9)))] (.path [dl 4 (oo 47 (.ldn 4 (tt 1)))] (.path [dl 5 (oo 48 (.mv (tt 8)))] (.path [dl 6 (oo 49 (.mv (tt 9)))] (.path [dl 7 (oo 50 (.ia 1 (tt 48) (tt 49)))] (.path [dl 8 (oo 51 (.ld (tt 50)))] (.path [dl 9 (oo 52 (.mv (tt 10)))] (.path [dl 10 (oo 53 (.bin .sub (tt 52) (ci 1)))] (.both (.path [dh 3 [8, 4] (oo 46 (.call (ff 159) [tt 43, tt 44, tt 45]))] (.both (.path [dh 11 [0] (oo 54 (.call (ff 159) [tt 47, tt 51, tt 53]))] (.both (.path [dh 12 [8, 4, 0] (oo 55 (.call (ff 184) [tt 46, tt 54]))] (.path [dh 13 [8, 4, 0] (oo 11 (.al [.int .i64 0, .int .i64 0, .int .i64 0, .slice none 0 0]))] (.path [dh 14 [] (on (.st 4 (tt 11) (tt 55)))] .fin))) (.path [dh 13 [8, 4, 0] (oo 11 (.al [.int .i64 0, .int .i64 0, .int .i64 0, .slice none 0 0]))] (.path [dh 12 [8, 4, 0] (oo 55 (.call (ff 184) [tt 46, tt 54]))] (.path [dh 14 [] (on (.st 4 (tt 11) (tt 55)))] .fin))))) (.path [dh 13 [8, 4, 0] (oo 11 (.al [.int .i64 0, .int .i64 0, .int .i64 0, .slice none 0 0]))] (.path [dh 11 [0] (oo 54 (.call (ff 159) [tt 47, tt 51, tt 53]))] (.path [dh 12 [8, 4, 0] (oo 55 (.call (ff 184) [tt 46, tt 54]))] (.path [dh 14 [] (on (.st 4 (tt 11) (tt 55)))] .fin)))))) (.path [dh 13 [8, 4, 0] (oo 11 (.al [.int .i64 0, .int .i64 0, .int .i64 0, .slice none 0 0]))] (.path [dh 3 [8, 4] (oo 46 (.call (ff 159) [tt 43, tt 44, tt 45]))] (.path [dh 11 [0] (oo 54 (.call (ff 159) [tt 47, tt 51, tt 53]))] (.path [dh 12 [8, 4, 0] (oo 55 (.call (ff 184) [tt 46, tt 54]))] (.path [dh 14 [] (on (.st 4 (tt 11) (tt 55)))] .fin))))))))))))))))
abbrev c_impl_wrongSquare_13 : DT := (.path [dl 0 (oo 56 (.ldn 4 (tt 1)))] (.path [dl 1 (oo 57 (.mv (tt 7)))] (.path [dl 2 (oo 58 (.mv (tt 10)))] (.path [dl 4 (oo 60 (.ldn 4 (tt 1)))] (.path [dl 5 (oo 61 (.mv (tt 8)))] (.path [dl 6 (oo 62 (.mv (tt 10)))] (.path [dl 7 (oo 63 (.ia 1 (tt 61) (tt 62)))] (.path [dl 8 (oo 64 (.ld (tt 63)))] (.path [dl 9 (oo 65 (.mv (tt 9)))] (.both (.path [dh 3 [8, 4] (oo 59 (.call (ff 159) [tt 56, tt 57, tt 58]))] (.both (.path [dh 10 [0] (oo 66 (.call (ff 159) [tt 60, tt 64, tt 65]))] (.both (.path [dh 11 [8, 4, 0] (oo 67 (.call (ff 184) [tt 59, tt 66]))] (.path [dh 12 [8, 4, 0] (oo 12 (.al [.int .i64 0, .int .i64 0, .int .i64 0, .slice none 0 0]))] (.path [dh 13 [] (on (.st 4 (tt 12) (tt 67)))] .fin))) (.path [dh 12 [8, 4, 0] (oo 12 (.al [.int .i64 0, .int .i64 0, .int .i64 0, .slice none 0 0]))] (.path [dh 11 [8, 4, 0] (oo 67 (.call (ff 184) [tt 59, tt 66]))] (.path [dh 13 [] (on (.st 4 (tt 12) (tt 67)))] .fin))))) (.path [dh 12 [8, 4, 0] (oo 12 (.al [.int .i64 0, .int .i64 0, .int .i64 0, .slice none 0 0]))] (.path [dh 10 [0] (oo 66 (.call (ff 159) [tt 60, tt 64, tt 65]))] (.path [dh 11 [8, 4, 0] (oo 67 (.call (ff 184) [tt 59, tt 66]))] (.path [dh 13 [] (on (.st 4 (tt 12) (tt 67)))] .fin)))))) (.path [dh 12 [8, 4, 0] (oo 12 (.al [.int .i64 0, .int .i64 0, .int .i64 0, .slice none 0 0]))] (.path [dh 3 [8, 4] (oo 59 (.call (ff 159) [tt 56, tt 57, tt 58]))] (.path [dh 10 [0] (oo 66 (.call (ff 159) [tt 60, tt 64, tt 65]))] (.path [dh 11 [8, 4, 0] (oo 67 (.call (ff 184) [tt 59, tt 66]))] (.path [dh 13 [] (on (.st 4 (tt 12) (tt 67)))] .fin)))))))))))))))
abbrev c_impl_wrongSquare_14 : List GOp := [oo 68 (.ldn 4 (tt 11)), oo 69 (.ldn 4 (tt 12)), oo 70 (.call (ff 185) [tt 68, tt 69]), oo 71 (.un .not (tt 70))]
abbrev c_impl_wrongSquare_15 : List DOp := [dl 0 (oo 72 (.mv (tt 7))), dl 1 (oo 73 (.fa 0 (tt 1))), dl 2 (oo 74 (.ldn 1 (tt 73))), dl 3 (oo 75 (.mv (tt 8))), dl 4 (oo 76 (.mv (tt 9))), dl 5 (oo 77 (.ia 1 (tt 75) (tt 76))), dl 6 (oo 78 (.ld (tt 77))), dl 8 (oo 80 (.mv (tt 10))), dl 9 (oo 81 (.bin .sub (tt 80) (ci 1))), dh 7 [] (oo 79 (.call (ff 113) [tt 74, tt 78])), dl 10 (oo 82 (.ia 1 (tt 79) (tt 81))), dl 11 (oo 83 (.ld (tt 82))), dl 12 (oo 2 (.mv (tt 72))), dl 13 (oo 3 (.mv (tt 83))), dl 14 (oo 4 (.mv (cb  true)))]
abbrev c_impl_wrongSquare_16 : List GOp := [oo 41 (.mv (tt 10)), oo 42 (.bin .add (tt 41) (ci 1)), oo 10 (.mv (tt 42))]
abbrev c_impl_wrongSquare_l0 : GCode := .seq (.seq (.reg c_impl_wrongSquare_11) (.cond (tt 40) (.skip) (.exit 4))) (.seq (.blk 5 (.seq (.dtree c_impl_wrongSquare_12) (.seq (.dtree c_impl_wrongSquare_13) (.seq (.reg c_impl_wrongSquare_14) (.cond (tt 71) (.seq (.dreg c_impl_wrongSquare_15) (.ret)) (.skip)))))) (.reg c_impl_wrongSquare_16))
abbrev c_impl_wrongSquare_18 : List GOp := [oo 84 (.bin .add (tt 32) (ci 1)), oo 32 (.mv (tt 84))]
abbrev c_impl_wrongSquare_l1 : GCode := .seq (.reg c_impl_wrongSquare_8) (.seq (.cond (tt 33) (.skip) (.exit 2)) (.seq (.blk 3 (.seq (.reg c_impl_wrongSquare_9) (.seq (.reg c_impl_wrongSquare_10) (.blk 4 (.loop c_impl_wrongSquare_l0))))) (.reg c_impl_wrongSquare_18)))
abbrev c_impl_wrongSquare_20 : List GOp := [oo 85 (.bin .add (tt 17) (ci 1)), oo 17 (.mv (tt 85))]
abbrev c_impl_wrongSquare_l2 : GCode := .seq (.reg c_impl_wrongSquare_2) (.seq (.cond (tt 18) (.skip) (.exit 0)) (.seq (.blk 1 (.seq (.reg c_impl_wrongSquare_3) (.seq (.seq (.reg c_impl_wrongSquare_4) (.cond (tt 24) (.exit 1) (.skip))) (.seq (.reg c_impl_wrongSquare_5) (.seq (.reg c_impl_wrongSquare_6) (.seq (.reg c_impl_wrongSquare_7) (.blk 2 (.loop c_impl_wrongSquare_l1)))))))) (.reg c_impl_wrongSquare_20)))
abbrev c_impl_wrongSquare_22 : List GOp := [oo 2 (.mv (ci 0)), oo 3 (.mv (ci 0)), oo 4 (.mv (cb  false))]
abbrev c_impl_wrongSquare : GCode := .seq (.reg c_impl_wrongSquare_0) (.seq (.seq (.reg c_impl_wrongSquare_1) (.blk 0 (.loop c_impl_wrongSquare_l2))) (.seq (.reg c_impl_wrongSquare_22) (.ret)))
theorem c_impl_wrongSquare_d : decFn Tryz.prog Tryz.f153 = some (86, [.t 2, .t 3, .t 4], c_impl_wrongSquare) := by kernel_rfl
theorem c_impl_wrongSquare_i {args : List Value} {G : GH} {K : Value → GH → Prop} (hn : args.length ≤ 86) (h : gW Tryz.prog c_impl_wrongSquare (RetK [.t 2, .t 3, .t 4] K) (T0 args) G) : GC Tryz.prog 153 args G K := GC_intro mixed Tryz.func153 c_impl_wrongSquare_d hn h
abbrev c_impl_zero_0 : List GOp := [oo 6 (.al [.int .i64 0, .int .i64 0, .int .i64 0, .slice none 0 0])]
abbrev c_impl_zero_1 : List GOp := [oo 7 (.mv (tt 0)), oo 8 (.mv (tt 1)), oo 9 (.mv (tt 2)), oo 10 (.call (ff 124) [tt 7, tt 8, tt 9, (ff 186)]), on (.st 4 (tt 6) (tt 10))]
abbrev c_impl_zero : GCode := .seq (.reg c_impl_zero_0) (.seq (.reg c_impl_zero_1) (.ret))
theorem c_impl_zero_d : decFn Tryz.prog Tryz.f158 = some (11, [.cn 6 4], c_impl_zero) := by kernel_rfl
theorem c_impl_zero_i {args : List Value} {G : GH} {K : Value → GH → Prop} (hn : args.length ≤ 11) (h : gW Tryz.prog c_impl_zero (RetK [.cn 6 4] K) (T0 args) G) : GC Tryz.prog 158 args G K := GC_intro mixed Tryz.func158 c_impl_zero_d hn h
abbrev c_impl_zero_fn1_0 : List GOp := [oo 4 (.mv (ci 0))]
abbrev c_impl_zero_fn1_1 : List GOp := [oo 4 (.mv (ci 0))]
abbrev c_impl_zero_fn1 : GCode := .seq (.reg c_impl_zero_fn1_0) (.seq (.reg c_impl_zero_fn1_1) (.ret))
theorem c_impl_zero_fn1_d : decFn Tryz.prog Tryz.f186 = some (5, [.t 4], c_impl_zero_fn1) := by kernel_rfl
theorem c_impl_zero_fn1_i {args : List Value} {G : GH} {K : Value → GH → Prop} (hn : args.length ≤ 5) (h : gW Tryz.prog c_impl_zero_fn1 (RetK [.t 4] K) (T0 args) G) : GC Tryz.prog 186 args G K := GC_intro mixed Tryz.func186 c_impl_zero_fn1_d hn h
abbrev c_laws_FnExactAgreesWithin_0 : List GOp := [oo 3 (.bx (tt 0)), oo 6 (.mv (cb  false))]
abbrev c_laws_FnExactAgreesWithin_1 : List GOp := [oo 13 (.mv (tt 1)), oo 14 (.len (tt 13)), oo 15 (.bin .gtr (tt 14) (ci 1048576))]
abbrev c_laws_FnExactAgreesWithin_2 : List GOp := [oo 6 (.mv (cb  true))]
abbrev c_laws_FnExactAgreesWithin_3 : List GOp := [oo 16 (.mv (tt 2)), oo 17 (.len (tt 16)), oo 18 (.bin .gtr (tt 17) (ci 1048576))]
abbrev c_laws_FnExactAgreesWithin_4 : List GOp := [oo 6 (.mv (cb  true))]
abbrev c_laws_FnExactAgreesWithin_5 : List GOp := [oo 7 (.mv (ci 1048576))]
abbrev c_laws_FnExactAgreesWithin_6 : List GOp := [oo 19 (.ldn 4 (tt 3)), oo 20 (.mv (tt 7)), oo 21 (.call (ff 11) [tt 19, tt 20]), oo 7 (.mv (tt 21))]
abbrev c_laws_FnExactAgreesWithin_7 : List GOp := [oo 22 (.mv (tt 7)), oo 23 (.bin .lss (tt 22) (ci 0))]
abbrev c_laws_FnExactAgreesWithin_8 : List GOp := [oo 6 (.mv (cb  true))]
abbrev c_laws_FnExactAgreesWithin_9 : List GOp := [oo 24 (.ldn 4 (tt 3)), oo 25 (.call (ff 13) [tt 24]), oo 26 (.mv (tt 1)), oo 27 (.call (ff 14) [tt 26]), oo 28 (.mv (tt 2)), oo 29 (.call (ff 14) [tt 28]), oo 30 (.call (ff 23) [tt 25, tt 27, tt 29]), oo 8 (.mv (tt 30))]
abbrev c_laws_FnExactAgreesWithin_10 : List GOp := [oo 31 (.ldn 4 (tt 3)), oo 32 (.call (ff 13) [tt 31]), oo 9 (.al [.slice none 0 0, .int .i64 0, .slice none 0 0, .slice none 0 0]), on (.st 4 (tt 9) (tt 32))]
abbrev c_laws_FnExactAgreesWithin_11 : List GOp := [oo 33 (.mv (tt 1)), oo 34 (.call (ff 14) [tt 33]), oo 10 (.mv (tt 34))]
abbrev c_laws_FnExactAgreesWithin_12 : List GOp := [oo 35 (.mv (tt 2)), oo 36 (.call (ff 14) [tt 35]), oo 11 (.mv (tt 36))]
abbrev c_laws_FnExactAgreesWithin_13 : List GOp := [oo 37 (.ldn 4 (tt 9)), oo 38 (.mv (tt 10)), oo 39 (.mv (tt 11)), oo 40 (.call (ff 24) [tt 37, tt 38, tt 39]), oo 12 (.mv (tt 40))]
abbrev c_laws_FnExactAgreesWithin_14 : List GOp := [oo 41 (.mv (tt 12)), oo 42 (.mv (tt 8)), oo 43 (.eqb true (tt 41) (tt 42))]
abbrev c_laws_FnExactAgreesWithin_15 : List GOp := [oo 6 (.mv (cb  false))]
abbrev c_laws_FnExactAgreesWithin_16 : List DOp := [dl 0 (oo 44 (.ldn 4 (tt 9))), dl 1 (oo 45 (.ldn 4 (tt 3))), dh 2 [0] (oo 46 (.call (ff 13) [tt 45])), dh 3 [1] (oo 47 (.call (ff 17) [tt 44, tt 46])), dl 4 (oo 48 (.un .not (tt 47)))]
abbrev c_laws_FnExactAgreesWithin_17 : List GOp := [oo 6 (.mv (cb  false))]
abbrev c_laws_FnExactAgreesWithin_18 : List GOp := [oo 49 (.mv (tt 10)), oo 50 (.mv (tt 1)), oo 51 (.call (ff 14) [tt 50]), oo 52 (.call (ff 16) [tt 49, tt 51]), oo 53 (.un .not (tt 52))]
abbrev c_laws_FnExactAgreesWithin_19 : List GOp := [oo 6 (.mv (cb  false))]
abbrev c_laws_FnExactAgreesWithin_20 : List GOp := [oo 54 (.mv (tt 11)), oo 55 (.mv (tt 2)), oo 56 (.call (ff 14) [tt 55]), oo 57 (.call (ff 16) [tt 54, tt 56]), oo 58 (.un .not (tt 57))]
abbrev c_laws_FnExactAgreesWithin_21 : List GOp := [oo 6 (.mv (cb  false))]
abbrev c_laws_FnExactAgreesWithin_22 : List GOp := [oo 6 (.mv (cb  true))]
abbrev c_laws_FnExactAgreesWithin : GCode := .seq (.reg c_laws_FnExactAgreesWithin_0) (.seq (.seq (.reg c_laws_FnExactAgreesWithin_1) (.cond (tt 15) (.seq (.reg c_laws_FnExactAgreesWithin_2) (.ret)) (.skip))) (.seq (.seq (.reg c_laws_FnExactAgreesWithin_3) (.cond (tt 18) (.seq (.reg c_laws_FnExactAgreesWithin_4) (.ret)) (.skip))) (.seq (.reg c_laws_FnExactAgreesWithin_5) (.seq (.reg c_laws_FnExactAgreesWithin_6) (.seq (.seq (.reg c_laws_FnExactAgreesWithin_7) (.cond (tt 23) (.seq (.reg c_laws_FnExactAgreesWithin_8) (.ret)) (.skip))) (.seq (.reg c_laws_FnExactAgreesWithin_9) (.seq (.reg c_laws_FnExactAgreesWithin_10) (.seq (.reg c_laws_FnExactAgreesWithin_11) (.seq (.reg c_laws_FnExactAgreesWithin_12) (.seq (.reg c_laws_FnExactAgreesWithin_13) (.seq (.seq (.reg c_laws_FnExactAgreesWithin_14) (.cond (tt 43) (.seq (.reg c_laws_FnExactAgreesWithin_15) (.ret)) (.skip))) (.seq (.seq (.dreg c_laws_FnExactAgreesWithin_16) (.cond (tt 48) (.seq (.reg c_laws_FnExactAgreesWithin_17) (.ret)) (.skip))) (.seq (.seq (.reg c_laws_FnExactAgreesWithin_18) (.cond (tt 53) (.seq (.reg c_laws_FnExactAgreesWithin_19) (.ret)) (.skip))) (.seq (.seq (.reg c_laws_FnExactAgreesWithin_20) (.cond (tt 58) (.seq (.reg c_laws_FnExactAgreesWithin_21) (.ret)) (.skip))) (.seq (.reg c_laws_FnExactAgreesWithin_22) (.ret))))))))))))))))
theorem c_laws_FnExactAgreesWithin_d : decFn Tryz.prog Tryz.f5 = some (59, [.t 6], c_laws_FnExactAgreesWithin) := by kernel_rfl
theorem c_laws_FnExactAgreesWithin_i {args : List Value} {G : GH} {K : Value → GH → Prop} (hn : args.length ≤ 59) (h : gW Tryz.prog c_laws_FnExactAgreesWithin (RetK [.t 6] K) (T0 args) G) : GC Tryz.prog 5 args G K := GC_intro mixed Tryz.func5 c_laws_FnExactAgreesWithin_d hn h
abbrev c_laws_eqComplex_0 : List GOp := [oo 2 (.bx (tt 0)), oo 3 (.bx (tt 1)), oo 4 (.mv (cb  false))]
abbrev c_laws_eqComplex_1 : List GOp := [oo 5 (.fa 0 (tt 2)), oo 6 (.ld (tt 5)), oo 7 (.fa 0 (tt 3)), oo 8 (.ld (tt 7)), oo 9 (.call (ff 106) [tt 6, tt 8]), oo 10 (.un .not (tt 9))]
abbrev c_laws_eqComplex_2 : List GOp := [oo 4 (.mv (cb  false))]
abbrev c_laws_eqComplex_3 : List GOp := [oo 4 (.mv (cb  true))]
abbrev c_laws_eqComplex : GCode := .seq (.reg c_laws_eqComplex_0) (.seq (.seq (.reg c_laws_eqComplex_1) (.cond (tt 10) (.seq (.reg c_laws_eqComplex_2) (.ret)) (.skip))) (.seq (.reg c_laws_eqComplex_3) (.ret)))
theorem c_laws_eqComplex_d : decFn Tryz.prog Tryz.f51 = some (11, [.t 4], c_laws_eqComplex) := by kernel_rfl
theorem c_laws_eqComplex_i {args : List Value} {G : GH} {K : Value → GH → Prop} (hn : args.length ≤ 11) (h : gW Tryz.prog c_laws_eqComplex (RetK [.t 4] K) (T0 args) G) : GC Tryz.prog 51 args G K := GC_intro mixed Tryz.func51 c_laws_eqComplex_d hn h
abbrev c_laws_eqInt64S_0 : List GOp := [oo 4 (.mv (cb  false))]
abbrev c_laws_eqInt64S_1 : List GOp := [oo 6 (.mv (tt 0)), oo 7 (.len (tt 6)), oo 8 (.mv (tt 1)), oo 9 (.len (tt 8)), oo 10 (.bin .neq (tt 7) (tt 9))]
abbrev c_laws_eqInt64S_2 : List GOp := [oo 4 (.mv (cb  false))]
abbrev c_laws_eqInt64S_3 : List GOp := [oo 5 (.mv (ci 0))]
abbrev c_laws_eqInt64S_4 : List GOp := [oo 11 (.mv (tt 5)), oo 12 (.mv (tt 0)), oo 13 (.len (tt 12)), oo 14 (.bin .lss (tt 11) (tt 13))]
abbrev c_laws_eqInt64S_5 : List DOp := [dl 0 (oo 17 (.mv (tt 0))), dl 1 (oo 18 (.mv (tt 5))), dl 2 (oo 19 (.ia 1 (tt 17) (tt 18))), dl 3 (oo 20 (.ld (tt 19))), dl 4 (oo 21 (.mv (tt 1))), dl 5 (oo 22 (.mv (tt 5))), dl 6 (oo 23 (.ia 1 (tt 21) (tt 22))), dl 7 (oo 24 (.ld (tt 23))), dl 8 (oo 25 (.bin .neq (tt 20) (tt 24)))]
abbrev c_laws_eqInt64S_6 : List GOp := [oo 4 (.mv (cb  false))]
abbrev c_laws_eqInt64S_7 : List GOp := [oo 15 (.mv (tt 5)), oo 16 (.bin .add (tt 15) (ci 1)), oo 5 (.mv (tt 16))]
abbrev c_laws_eqInt64S_l0 : GCode := .seq (.seq (.reg c_laws_eqInt64S_4) (.cond (tt 14) (.skip) (.exit 0))) (.seq (.blk 1 (.seq (.dreg c_laws_eqInt64S_5) (.cond (tt 25) (.seq (.reg c_laws_eqInt64S_6) (.ret)) (.skip)))) (.reg c_laws_eqInt64S_7))
abbrev c_laws_eqInt64S_9 : List GOp := [oo 4 (.mv (cb  true))]
abbrev c_laws_eqInt64S : GCode := .seq (.reg c_laws_eqInt64S_0) (.seq (.seq (.reg c_laws_eqInt64S_1) (.cond (tt 10) (.seq (.reg c_laws_eqInt64S_2) (.ret)) (.skip))) (.seq (.seq (.reg c_laws_eqInt64S_3) (.blk 0 (.loop c_laws_eqInt64S_l0))) (.seq (.reg c_laws_eqInt64S_9) (.ret))))
theorem c_laws_eqInt64S_d : decFn Tryz.prog Tryz.f16 = some (26, [.t 4], c_laws_eqInt64S) := by kernel_rfl
theorem c_laws_eqInt64S_i {args : List Value} {G : GH} {K : Value → GH → Prop} (hn : args.length ≤ 26) (h : gW Tryz.prog c_laws_eqInt64S (RetK [.t 4] K) (T0 args) G) : GC Tryz.prog 16 args G K := GC_intro mixed Tryz.func16 c_laws_eqInt64S_d hn h
abbrev c_laws_eqInt64SS_0 : List GOp := [oo 4 (.mv (cb  false))]
abbrev c_laws_eqInt64SS_1 : List GOp := [oo 6 (.mv (tt 0)), oo 7 (.len (tt 6)), oo 8 (.mv (tt 1)), oo 9 (.len (tt 8)), oo 10 (.bin .neq (tt 7) (tt 9))]
abbrev c_laws_eqInt64SS_2 : List GOp := [oo 4 (.mv (cb  false))]
abbrev c_laws_eqInt64SS_3 : List GOp := [oo 5 (.mv (ci 0))]
abbrev c_laws_eqInt64SS_4 : List GOp := [oo 11 (.mv (tt 5)), oo 12 (.mv (tt 0)), oo 13 (.len (tt 12)), oo 14 (.bin .lss (tt 11) (tt 13))]
abbrev c_laws_eqInt64SS_5 : List DOp := [dl 0 (oo 17 (.mv (tt 0))), dl 1 (oo 18 (.mv (tt 5))), dl 2 (oo 19 (.ia 1 (tt 17) (tt 18))), dl 3 (oo 20 (.ld (tt 19))), dl 4 (oo 21 (.mv (tt 1))), dl 5 (oo 22 (.mv (tt 5))), dl 6 (oo 23 (.ia 1 (tt 21) (tt 22))), dl 7 (oo 24 (.ld (tt 23))), dh 8 [] (oo 25 (.call (ff 16) [tt 20, tt 24])), dl 9 (oo 26 (.un .not (tt 25)))]
abbrev c_laws_eqInt64SS_6 : List GOp := [oo 4 (.mv (cb  false))]
abbrev c_laws_eqInt64SS_7 : List GOp := [oo 15 (.mv (tt 5)), oo 16 (.bin .add (tt 15) (ci 1)), oo 5 (.mv (tt 16))]
abbrev c_laws_eqInt64SS_l0 : GCode := .seq (.seq (.reg c_laws_eqInt64SS_4) (.cond (tt 14) (.skip) (.exit 0))) (.seq (.blk 1 (.seq (.dreg c_laws_eqInt64SS_5) (.cond (tt 26) (.seq (.reg c_laws_eqInt64SS_6) (.ret)) (.skip)))) (.reg c_laws_eqInt64SS_7))
abbrev c_laws_eqInt64SS_9 : List GOp := [oo 4 (.mv (cb  true))]
abbrev c_laws_eqInt64SS : GCode := .seq (.reg c_laws_eqInt64SS_0) (.seq (.seq (.reg c_laws_eqInt64SS_1) (.cond (tt 10) (.seq (.reg c_laws_eqInt64SS_2) (.ret)) (.skip))) (.seq (.seq (.reg c_laws_eqInt64SS_3) (.blk 0 (.loop c_laws_eqInt64SS_l0))) (.seq (.reg c_laws_eqInt64SS_9) (.ret))))
theorem c_laws_eqInt64SS_d : decFn Tryz.prog Tryz.f106 = some (27, [.t 4], c_laws_eqInt64SS) := by kernel_rfl
theorem c_laws_eqInt64SS_i {args : List Value} {G : GH} {K : Value → GH → Prop} (hn : args.length ≤ 27) (h : gW Tryz.prog c_laws_eqInt64SS (RetK [.t 4] K) (T0 args) G) : GC Tryz.prog 106 args G K := GC_intro mixed Tryz.func106 c_laws_eqInt64SS_d hn h
abbrev c_laws_eqMatrix_0 : List GOp := [oo 2 (.bx (tt 0)), oo 3 (.bx (tt 1)), oo 4 (.mv (cb  false))]
abbrev c_laws_eqMatrix_1 : List GOp := [oo 5 (.fa 0 (tt 2)), oo 6 (.ld (tt 5)), oo 7 (.fa 0 (tt 3)), oo 8 (.ld (tt 7)), oo 9 (.bin .neq (tt 6) (tt 8))]
abbrev c_laws_eqMatrix_2 : List GOp := [oo 4 (.mv (cb  false))]
abbrev c_laws_eqMatrix_3 : List GOp := [oo 10 (.fa 1 (tt 2)), oo 11 (.ld (tt 10)), oo 12 (.fa 1 (tt 3)), oo 13 (.ld (tt 12)), oo 14 (.bin .neq (tt 11) (tt 13))]
abbrev c_laws_eqMatrix_4 : List GOp := [oo 4 (.mv (cb  false))]
abbrev c_laws_eqMatrix_5 : List GOp := [oo 15 (.fa 2 (tt 2)), oo 16 (.ld (tt 15)), oo 17 (.fa 2 (tt 3)), oo 18 (.ld (tt 17)), oo 19 (.bin .neq (tt 16) (tt 18))]
abbrev c_laws_eqMatrix_6 : List GOp := [oo 4 (.mv (cb  false))]
abbrev c_laws_eqMatrix_7 : List GOp := [oo 20 (.fa 3 (tt 2)), oo 21 (.ld (tt 20)), oo 22 (.fa 3 (tt 3)), oo 23 (.ld (tt 22)), oo 24 (.call (ff 16) [tt 21, tt 23]), oo 25 (.un .not (tt 24))]
abbrev c_laws_eqMatrix_8 : List GOp := [oo 4 (.mv (cb  false))]
abbrev c_laws_eqMatrix_9 : List GOp := [oo 4 (.mv (cb  true))]
abbrev c_laws_eqMatrix : GCode := .seq (.reg c_laws_eqMatrix_0) (.seq (.seq (.reg c_laws_eqMatrix_1) (.cond (tt 9) (.seq (.reg c_laws_eqMatrix_2) (.ret)) (.skip))) (.seq (.seq (.reg c_laws_eqMatrix_3) (.cond (tt 14) (.seq (.reg c_laws_eqMatrix_4) (.ret)) (.skip))) (.seq (.seq (.reg c_laws_eqMatrix_5) (.cond (tt 19) (.seq (.reg c_laws_eqMatrix_6) (.ret)) (.skip))) (.seq (.seq (.reg c_laws_eqMatrix_7) (.cond (tt 25) (.seq (.reg c_laws_eqMatrix_8) (.ret)) (.skip))) (.seq (.reg c_laws_eqMatrix_9) (.ret))))))
theorem c_laws_eqMatrix_d : decFn Tryz.prog Tryz.f107 = some (26, [.t 4], c_laws_eqMatrix) := by kernel_rfl
theorem c_laws_eqMatrix_i {args : List Value} {G : GH} {K : Value → GH → Prop} (hn : args.length ≤ 26) (h : gW Tryz.prog c_laws_eqMatrix (RetK [.t 4] K) (T0 args) G) : GC Tryz.prog 107 args G K := GC_intro mixed Tryz.func107 c_laws_eqMatrix_d hn h
abbrev c_laws_eqMatrixS_0 : List GOp := [oo 4 (.mv (cb  false))]
abbrev c_laws_eqMatrixS_1 : List GOp := [oo 6 (.mv (tt 0)), oo 7 (.len (tt 6)), oo 8 (.mv (tt 1)), oo 9 (.len (tt 8)), oo 10 (.bin .neq (tt 7) (tt 9))]
abbrev c_laws_eqMatrixS_2 : List GOp := [oo 4 (.mv (cb  false))]
abbrev c_laws_eqMatrixS_3 : List GOp := [oo 5 (.mv (ci 0))]
abbrev c_laws_eqMatrixS_4 : List GOp := [oo 11 (.mv (tt 5)), oo 12 (.mv (tt 0)), oo 13 (.len (tt 12)), oo 14 (.bin .lss (tt 11) (tt 13))]
abbrev c_laws_eqMatrixS_5 : List DOp := [dl 0 (oo 17 (.mv (tt 0))), dl 1 (oo 18 (.mv (tt 5))), dl 2 (oo 19 (.ia 4 (tt 17) (tt 18))), dl 3 (oo 20 (.ldn 4 (tt 19))), dl 4 (oo 21 (.mv (tt 1))), dl 5 (oo 22 (.mv (tt 5))), dl 6 (oo 23 (.ia 4 (tt 21) (tt 22))), dl 7 (oo 24 (.ldn 4 (tt 23))), dh 8 [] (oo 25 (.call (ff 107) [tt 20, tt 24])), dl 9 (oo 26 (.un .not (tt 25)))]
abbrev c_laws_eqMatrixS_6 : List GOp := [oo 4 (.mv (cb  false))]
abbrev c_laws_eqMatrixS_7 : List GOp := [oo 15 (.mv (tt 5)), oo 16 (.bin .add (tt 15) (ci 1)), oo 5 (.mv (tt 16))]
abbrev c_laws_eqMatrixS_l0 : GCode := .seq (.seq (.reg c_laws_eqMatrixS_4) (.cond (tt 14) (.skip) (.exit 0))) (.seq (.blk 1 (.seq (.dreg c_laws_eqMatrixS_5) (.cond (tt 26) (.seq (.reg c_laws_eqMatrixS_6) (.ret)) (.skip)))) (.reg c_laws_eqMatrixS_7))
abbrev c_laws_eqMatrixS_9 : List GOp := [oo 4 (.mv (cb  true))]
abbrev c_laws_eqMatrixS : GCode := .seq (.reg c_laws_eqMatrixS_0) (.seq (.seq (.reg c_laws_eqMatrixS_1) (.cond (tt 10) (.seq (.reg c_laws_eqMatrixS_2) (.ret)) (.skip))) (.seq (.seq (.reg c_laws_eqMatrixS_3) (.blk 0 (.loop c_laws_eqMatrixS_l0))) (.seq (.reg c_laws_eqMatrixS_9) (.ret))))
theorem c_laws_eqMatrixS_d : decFn Tryz.prog Tryz.f52 = some (27, [.t 4], c_laws_eqMatrixS) := by kernel_rfl
theorem c_laws_eqMatrixS_i {args : List Value} {G : GH} {K : Value → GH → Prop} (hn : args.length ≤ 27) (h : gW Tryz.prog c_laws_eqMatrixS (RetK [.t 4] K) (T0 args) G) : GC Tryz.prog 52 args G K := GC_intro mixed Tryz.func52 c_laws_eqMatrixS_d hn h
abbrev c_laws_eqSheaf_0 : List GOp := [oo 2 (.bx (tt 0)), oo 3 (.bx (tt 1)), oo 4 (.mv (cb  false))]
abbrev c_laws_eqSheaf_1 : List GOp := [oo 5 (.fa 0 (tt 2)), oo 6 (.ldn 1 (tt 5)), oo 7 (.fa 0 (tt 3)), oo 8 (.ldn 1 (tt 7)), oo 9 (.call (ff 51) [tt 6, tt 8]), oo 10 (.un .not (tt 9))]
abbrev c_laws_eqSheaf_2 : List GOp := [oo 4 (.mv (cb  false))]
abbrev c_laws_eqSheaf_3 : List GOp := [oo 11 (.fa 1 (tt 2)), oo 12 (.ld (tt 11)), oo 13 (.fa 1 (tt 3)), oo 14 (.ld (tt 13)), oo 15 (.bin .neq (tt 12) (tt 14))]
abbrev c_laws_eqSheaf_4 : List GOp := [oo 4 (.mv (cb  false))]
abbrev c_laws_eqSheaf_5 : List GOp := [oo 16 (.fa 2 (tt 2)), oo 17 (.ld (tt 16)), oo 18 (.fa 2 (tt 3)), oo 19 (.ld (tt 18)), oo 20 (.call (ff 16) [tt 17, tt 19]), oo 21 (.un .not (tt 20))]
abbrev c_laws_eqSheaf_6 : List GOp := [oo 4 (.mv (cb  false))]
abbrev c_laws_eqSheaf_7 : List GOp := [oo 22 (.fa 3 (tt 2)), oo 23 (.ld (tt 22)), oo 24 (.fa 3 (tt 3)), oo 25 (.ld (tt 24)), oo 26 (.call (ff 52) [tt 23, tt 25]), oo 27 (.un .not (tt 26))]
abbrev c_laws_eqSheaf_8 : List GOp := [oo 4 (.mv (cb  false))]
abbrev c_laws_eqSheaf_9 : List GOp := [oo 4 (.mv (cb  true))]
abbrev c_laws_eqSheaf : GCode := .seq (.reg c_laws_eqSheaf_0) (.seq (.seq (.reg c_laws_eqSheaf_1) (.cond (tt 10) (.seq (.reg c_laws_eqSheaf_2) (.ret)) (.skip))) (.seq (.seq (.reg c_laws_eqSheaf_3) (.cond (tt 15) (.seq (.reg c_laws_eqSheaf_4) (.ret)) (.skip))) (.seq (.seq (.reg c_laws_eqSheaf_5) (.cond (tt 21) (.seq (.reg c_laws_eqSheaf_6) (.ret)) (.skip))) (.seq (.seq (.reg c_laws_eqSheaf_7) (.cond (tt 27) (.seq (.reg c_laws_eqSheaf_8) (.ret)) (.skip))) (.seq (.reg c_laws_eqSheaf_9) (.ret))))))
theorem c_laws_eqSheaf_d : decFn Tryz.prog Tryz.f17 = some (28, [.t 4], c_laws_eqSheaf) := by kernel_rfl
theorem c_laws_eqSheaf_i {args : List Value} {G : GH} {K : Value → GH → Prop} (hn : args.length ≤ 28) (h : gW Tryz.prog c_laws_eqSheaf (RetK [.t 4] K) (T0 args) G) : GC Tryz.prog 17 args G K := GC_intro mixed Tryz.func17 c_laws_eqSheaf_d hn h
abbrev c_laws_szComplex_0 : List GOp := [oo 2 (.bx (tt 0)), oo 4 (.mv (ci 0))]
abbrev c_laws_szComplex_1 : List GOp := [oo 5 (.fa 0 (tt 2)), oo 6 (.ld (tt 5)), oo 7 (.mv (tt 1)), oo 8 (.call (ff 89) [tt 6, tt 7]), oo 1 (.mv (tt 8))]
abbrev c_laws_szComplex_2 : List GOp := [oo 9 (.mv (tt 1)), oo 10 (.bin .lss (tt 9) (ci 0))]
abbrev c_laws_szComplex_3 : List GOp := [oo 4 (.mv (ci (-1)))]
abbrev c_laws_szComplex_4 : List GOp := [oo 11 (.mv (tt 1)), oo 4 (.mv (tt 11))]
abbrev c_laws_szComplex : GCode := .seq (.reg c_laws_szComplex_0) (.seq (.reg c_laws_szComplex_1) (.seq (.seq (.reg c_laws_szComplex_2) (.cond (tt 10) (.seq (.reg c_laws_szComplex_3) (.ret)) (.skip))) (.seq (.reg c_laws_szComplex_4) (.ret))))
theorem c_laws_szComplex_d : decFn Tryz.prog Tryz.f42 = some (12, [.t 4], c_laws_szComplex) := by kernel_rfl
theorem c_laws_szComplex_i {args : List Value} {G : GH} {K : Value → GH → Prop} (hn : args.length ≤ 12) (h : gW Tryz.prog c_laws_szComplex (RetK [.t 4] K) (T0 args) G) : GC Tryz.prog 42 args G K := GC_intro mixed Tryz.func42 c_laws_szComplex_d hn h
abbrev c_laws_szInt64S_0 : List GOp := [oo 4 (.mv (ci 0))]
abbrev c_laws_szInt64S_1 : List GOp := [oo 5 (.mv (tt 1)), oo 6 (.mv (tt 0)), oo 7 (.len (tt 6)), oo 8 (.bin .sub (tt 5) (tt 7)), oo 1 (.mv (tt 8))]
abbrev c_laws_szInt64S_2 : List GOp := [oo 9 (.mv (tt 1)), oo 10 (.bin .lss (tt 9) (ci 0))]
abbrev c_laws_szInt64S_3 : List GOp := [oo 4 (.mv (ci (-1)))]
abbrev c_laws_szInt64S_4 : List GOp := [oo 11 (.mv (tt 1)), oo 4 (.mv (tt 11))]
abbrev c_laws_szInt64S : GCode := .seq (.reg c_laws_szInt64S_0) (.seq (.reg c_laws_szInt64S_1) (.seq (.seq (.reg c_laws_szInt64S_2) (.cond (tt 10) (.seq (.reg c_laws_szInt64S_3) (.ret)) (.skip))) (.seq (.reg c_laws_szInt64S_4) (.ret))))
theorem c_laws_szInt64S_d : decFn Tryz.prog Tryz.f43 = some (12, [.t 4], c_laws_szInt64S) := by kernel_rfl
theorem c_laws_szInt64S_i {args : List Value} {G : GH} {K : Value → GH → Prop} (hn : args.length ≤ 12) (h : gW Tryz.prog c_laws_szInt64S (RetK [.t 4] K) (T0 args) G) : GC Tryz.prog 43 args G K := GC_intro mixed Tryz.func43 c_laws_szInt64S_d hn h
abbrev c_laws_szInt64SS_0 : List GOp := [oo 4 (.mv (ci 0))]
abbrev c_laws_szInt64SS_1 : List GOp := [oo 6 (.mv (tt 1)), oo 7 (.mv (tt 0)), oo 8 (.len (tt 7)), oo 9 (.bin .sub (tt 6) (tt 8)), oo 1 (.mv (tt 9))]
abbrev c_laws_szInt64SS_2 : List GOp := [oo 10 (.mv (tt 1)), oo 11 (.bin .lss (tt 10) (ci 0))]
abbrev c_laws_szInt64SS_3 : List GOp := [oo 4 (.mv (ci (-1)))]
abbrev c_laws_szInt64SS_4 : List GOp := [oo 5 (.mv (ci 0))]
abbrev c_laws_szInt64SS_5 : List GOp := [oo 12 (.mv (tt 5)), oo 13 (.mv (tt 0)), oo 14 (.len (tt 13)), oo 15 (.bin .lss (tt 12) (tt 14))]
abbrev c_laws_szInt64SS_6 : List GOp := [oo 18 (.mv (tt 0)), oo 19 (.mv (tt 5)), oo 20 (.ia 1 (tt 18) (tt 19)), oo 21 (.ld (tt 20)), oo 22 (.mv (tt 1)), oo 23 (.call (ff 43) [tt 21, tt 22]), oo 1 (.mv (tt 23))]
abbrev c_laws_szInt64SS_7 : List GOp := [oo 24 (.mv (tt 1)), oo 25 (.bin .lss (tt 24) (ci 0))]
abbrev c_laws_szInt64SS_8 : List GOp := [oo 4 (.mv (ci (-1)))]
abbrev c_laws_szInt64SS_9 : List GOp := [oo 16 (.mv (tt 5)), oo 17 (.bin .add (tt 16) (ci 1)), oo 5 (.mv (tt 17))]
abbrev c_laws_szInt64SS_l0 : GCode := .seq (.seq (.reg c_laws_szInt64SS_5) (.cond (tt 15) (.skip) (.exit 0))) (.seq (.blk 1 (.seq (.reg c_laws_szInt64SS_6) (.seq (.reg c_laws_szInt64SS_7) (.cond (tt 25) (.seq (.reg c_laws_szInt64SS_8) (.ret)) (.skip))))) (.reg c_laws_szInt64SS_9))
abbrev c_laws_szInt64SS_11 : List GOp := [oo 26 (.mv (tt 1)), oo 4 (.mv (tt 26))]
abbrev c_laws_szInt64SS : GCode := .seq (.reg c_laws_szInt64SS_0) (.seq (.reg c_laws_szInt64SS_1) (.seq (.seq (.reg c_laws_szInt64SS_2) (.cond (tt 11) (.seq (.reg c_laws_szInt64SS_3) (.ret)) (.skip))) (.seq (.seq (.reg c_laws_szInt64SS_4) (.blk 0 (.loop c_laws_szInt64SS_l0))) (.seq (.reg c_laws_szInt64SS_11) (.ret)))))
theorem c_laws_szInt64SS_d : decFn Tryz.prog Tryz.f89 = some (27, [.t 4], c_laws_szInt64SS) := by kernel_rfl
theorem c_laws_szInt64SS_i {args : List Value} {G : GH} {K : Value → GH → Prop} (hn : args.length ≤ 27) (h : gW Tryz.prog c_laws_szInt64SS (RetK [.t 4] K) (T0 args) G) : GC Tryz.prog 89 args G K := GC_intro mixed Tryz.func89 c_laws_szInt64SS_d hn h
abbrev c_laws_szMatrix_0 : List GOp := [oo 2 (.bx (tt 0)), oo 4 (.mv (ci 0))]
abbrev c_laws_szMatrix_1 : List GOp := [oo 5 (.fa 3 (tt 2)), oo 6 (.ld (tt 5)), oo 7 (.mv (tt 1)), oo 8 (.call (ff 43) [tt 6, tt 7]), oo 1 (.mv (tt 8))]
abbrev c_laws_szMatrix_2 : List GOp := [oo 9 (.mv (tt 1)), oo 10 (.bin .lss (tt 9) (ci 0))]
abbrev c_laws_szMatrix_3 : List GOp := [oo 4 (.mv (ci (-1)))]
abbrev c_laws_szMatrix_4 : List GOp := [oo 11 (.mv (tt 1)), oo 4 (.mv (tt 11))]
abbrev c_laws_szMatrix : GCode := .seq (.reg c_laws_szMatrix_0) (.seq (.reg c_laws_szMatrix_1) (.seq (.seq (.reg c_laws_szMatrix_2) (.cond (tt 10) (.seq (.reg c_laws_szMatrix_3) (.ret)) (.skip))) (.seq (.reg c_laws_szMatrix_4) (.ret))))
theorem c_laws_szMatrix_d : decFn Tryz.prog Tryz.f90 = some (12, [.t 4], c_laws_szMatrix) := by kernel_rfl
theorem c_laws_szMatrix_i {args : List Value} {G : GH} {K : Value → GH → Prop} (hn : args.length ≤ 12) (h : gW Tryz.prog c_laws_szMatrix (RetK [.t 4] K) (T0 args) G) : GC Tryz.prog 90 args G K := GC_intro mixed Tryz.func90 c_laws_szMatrix_d hn h
abbrev c_laws_szMatrixS_0 : List GOp := [oo 4 (.mv (ci 0))]
abbrev c_laws_szMatrixS_1 : List GOp := [oo 6 (.mv (tt 1)), oo 7 (.mv (tt 0)), oo 8 (.len (tt 7)), oo 9 (.bin .sub (tt 6) (tt 8)), oo 1 (.mv (tt 9))]
abbrev c_laws_szMatrixS_2 : List GOp := [oo 10 (.mv (tt 1)), oo 11 (.bin .lss (tt 10) (ci 0))]
abbrev c_laws_szMatrixS_3 : List GOp := [oo 4 (.mv (ci (-1)))]
abbrev c_laws_szMatrixS_4 : List GOp := [oo 5 (.mv (ci 0))]
abbrev c_laws_szMatrixS_5 : List GOp := [oo 12 (.mv (tt 5)), oo 13 (.mv (tt 0)), oo 14 (.len (tt 13)), oo 15 (.bin .lss (tt 12) (tt 14))]
abbrev c_laws_szMatrixS_6 : List GOp := [oo 18 (.mv (tt 0)), oo 19 (.mv (tt 5)), oo 20 (.ia 4 (tt 18) (tt 19)), oo 21 (.ldn 4 (tt 20)), oo 22 (.mv (tt 1)), oo 23 (.call (ff 90) [tt 21, tt 22]), oo 1 (.mv (tt 23))]
abbrev c_laws_szMatrixS_7 : List GOp := [oo 24 (.mv (tt 1)), oo 25 (.bin .lss (tt 24) (ci 0))]
abbrev c_laws_szMatrixS_8 : List GOp := [oo 4 (.mv (ci (-1)))]
abbrev c_laws_szMatrixS_9 : List GOp := [oo 16 (.mv (tt 5)), oo 17 (.bin .add (tt 16) (ci 1)), oo 5 (.mv (tt 17))]
abbrev c_laws_szMatrixS_l0 : GCode := .seq (.seq (.reg c_laws_szMatrixS_5) (.cond (tt 15) (.skip) (.exit 0))) (.seq (.blk 1 (.seq (.reg c_laws_szMatrixS_6) (.seq (.reg c_laws_szMatrixS_7) (.cond (tt 25) (.seq (.reg c_laws_szMatrixS_8) (.ret)) (.skip))))) (.reg c_laws_szMatrixS_9))
abbrev c_laws_szMatrixS_11 : List GOp := [oo 26 (.mv (tt 1)), oo 4 (.mv (tt 26))]
abbrev c_laws_szMatrixS : GCode := .seq (.reg c_laws_szMatrixS_0) (.seq (.reg c_laws_szMatrixS_1) (.seq (.seq (.reg c_laws_szMatrixS_2) (.cond (tt 11) (.seq (.reg c_laws_szMatrixS_3) (.ret)) (.skip))) (.seq (.seq (.reg c_laws_szMatrixS_4) (.blk 0 (.loop c_laws_szMatrixS_l0))) (.seq (.reg c_laws_szMatrixS_11) (.ret)))))
theorem c_laws_szMatrixS_d : decFn Tryz.prog Tryz.f44 = some (27, [.t 4], c_laws_szMatrixS) := by kernel_rfl
theorem c_laws_szMatrixS_i {args : List Value} {G : GH} {K : Value → GH → Prop} (hn : args.length ≤ 27) (h : gW Tryz.prog c_laws_szMatrixS (RetK [.t 4] K) (T0 args) G) : GC Tryz.prog 44 args G K := GC_intro mixed Tryz.func44 c_laws_szMatrixS_d hn h
abbrev c_laws_szSheaf_0 : List GOp := [oo 2 (.bx (tt 0)), oo 4 (.mv (ci 0))]
abbrev c_laws_szSheaf_1 : List GOp := [oo 5 (.fa 0 (tt 2)), oo 6 (.ldn 1 (tt 5)), oo 7 (.mv (tt 1)), oo 8 (.call (ff 42) [tt 6, tt 7]), oo 1 (.mv (tt 8))]
abbrev c_laws_szSheaf_2 : List GOp := [oo 9 (.mv (tt 1)), oo 10 (.bin .lss (tt 9) (ci 0))]
abbrev c_laws_szSheaf_3 : List GOp := [oo 4 (.mv (ci (-1)))]
abbrev c_laws_szSheaf_4 : List GOp := [oo 11 (.fa 2 (tt 2)), oo 12 (.ld (tt 11)), oo 13 (.mv (tt 1)), oo 14 (.call (ff 43) [tt 12, tt 13]), oo 1 (.mv (tt 14))]
abbrev c_laws_szSheaf_5 : List GOp := [oo 15 (.mv (tt 1)), oo 16 (.bin .lss (tt 15) (ci 0))]
abbrev c_laws_szSheaf_6 : List GOp := [oo 4 (.mv (ci (-1)))]
abbrev c_laws_szSheaf_7 : List GOp := [oo 17 (.fa 3 (tt 2)), oo 18 (.ld (tt 17)), oo 19 (.mv (tt 1)), oo 20 (.call (ff 44) [tt 18, tt 19]), oo 1 (.mv (tt 20))]
abbrev c_laws_szSheaf_8 : List GOp := [oo 21 (.mv (tt 1)), oo 22 (.bin .lss (tt 21) (ci 0))]
abbrev c_laws_szSheaf_9 : List GOp := [oo 4 (.mv (ci (-1)))]
abbrev c_laws_szSheaf_10 : List GOp := [oo 23 (.mv (tt 1)), oo 4 (.mv (tt 23))]
abbrev c_laws_szSheaf : GCode := .seq (.reg c_laws_szSheaf_0) (.seq (.reg c_laws_szSheaf_1) (.seq (.seq (.reg c_laws_szSheaf_2) (.cond (tt 10) (.seq (.reg c_laws_szSheaf_3) (.ret)) (.skip))) (.seq (.reg c_laws_szSheaf_4) (.seq (.seq (.reg c_laws_szSheaf_5) (.cond (tt 16) (.seq (.reg c_laws_szSheaf_6) (.ret)) (.skip))) (.seq (.reg c_laws_szSheaf_7) (.seq (.seq (.reg c_laws_szSheaf_8) (.cond (tt 22) (.seq (.reg c_laws_szSheaf_9) (.ret)) (.skip))) (.seq (.reg c_laws_szSheaf_10) (.ret))))))))
theorem c_laws_szSheaf_d : decFn Tryz.prog Tryz.f11 = some (24, [.t 4], c_laws_szSheaf) := by kernel_rfl
theorem c_laws_szSheaf_i {args : List Value} {G : GH} {K : Value → GH → Prop} (hn : args.length ≤ 24) (h : gW Tryz.prog c_laws_szSheaf (RetK [.t 4] K) (T0 args) G) : GC Tryz.prog 11 args G K := GC_intro mixed Tryz.func11 c_laws_szSheaf_d hn h
abbrev c_laws_toComplex_0 : List GOp := [oo 1 (.bx (tt 0)), oo 2 (.al [.slice none 0 0])]
abbrev c_laws_toComplex_1 : List GOp := [oo 3 (.al [.slice none 0 0])]
abbrev c_laws_toComplex_2 : List GOp := [oo 4 (.fa 0 (tt 1)), oo 5 (.ld (tt 4)), oo 6 (.call (ff 96) [tt 5]), oo 7 (.fa 0 (tt 3)), on (.st 1 (tt 7) (tt 6))]
abbrev c_laws_toComplex_3 : List GOp := [oo 8 (.ldn 1 (tt 3)), on (.st 1 (tt 2) (tt 8))]
abbrev c_laws_toComplex : GCode := .seq (.reg c_laws_toComplex_0) (.seq (.reg c_laws_toComplex_1) (.seq (.reg c_laws_toComplex_2) (.seq (.reg c_laws_toComplex_3) (.ret))))
theorem c_laws_toComplex_d : decFn Tryz.prog Tryz.f47 = some (9, [.cn 2 1], c_laws_toComplex) := by kernel_rfl
theorem c_laws_toComplex_i {args : List Value} {G : GH} {K : Value → GH → Prop} (hn : args.length ≤ 9) (h : gW Tryz.prog c_laws_toComplex (RetK [.cn 2 1] K) (T0 args) G) : GC Tryz.prog 47 args G K := GC_intro mixed Tryz.func47 c_laws_toComplex_d hn h
abbrev c_laws_toInt64S_0 : List GOp := [oo 2 (.mv (.const (.slice none 0 0)))]
abbrev c_laws_toInt64S_1 : List GOp := [oo 5 (.mv (tt 0)), oo 6 (.len (tt 5)), oo 7 (.mk 1 8 [.int .i64 0] (tt 6) (tt 6)), oo 3 (.mv (tt 7))]
abbrev c_laws_toInt64S_2 : List GOp := [oo 4 (.mv (ci 0))]
abbrev c_laws_toInt64S_3 : List GOp := [oo 8 (.mv (tt 4)), oo 9 (.mv (tt 0)), oo 10 (.len (tt 9)), oo 11 (.bin .lss (tt 8) (tt 10))]
abbrev c_laws_toInt64S_4 : List GOp := [oo 14 (.mv (tt 3)), oo 15 (.mv (tt 4)), oo 16 (.mv (tt 0)), oo 17 (.mv (tt 4)), oo 18 (.ia 1 (tt 16) (tt 17)), oo 19 (.ld (tt 18)), oo 20 (.ia 1 (tt 14) (tt 15)), on (.st 1 (tt 20) (tt 19))]
abbrev c_laws_toInt64S_5 : List GOp := [oo 12 (.mv (tt 4)), oo 13 (.bin .add (tt 12) (ci 1)), oo 4 (.mv (tt 13))]
abbrev c_laws_toInt64S_l0 : GCode := .seq (.seq (.reg c_laws_toInt64S_3) (.cond (tt 11) (.skip) (.exit 0))) (.seq (.blk 1 (.reg c_laws_toInt64S_4)) (.reg c_laws_toInt64S_5))
abbrev c_laws_toInt64S_7 : List GOp := [oo 21 (.mv (tt 3)), oo 2 (.mv (tt 21))]
abbrev c_laws_toInt64S : GCode := .seq (.reg c_laws_toInt64S_0) (.seq (.reg c_laws_toInt64S_1) (.seq (.seq (.reg c_laws_toInt64S_2) (.blk 0 (.loop c_laws_toInt64S_l0))) (.seq (.reg c_laws_toInt64S_7) (.ret))))
theorem c_laws_toInt64S_d : decFn Tryz.prog Tryz.f14 = some (22, [.t 2], c_laws_toInt64S) := by kernel_rfl
theorem c_laws_toInt64S_i {args : List Value} {G : GH} {K : Value → GH → Prop} (hn : args.length ≤ 22) (h : gW Tryz.prog c_laws_toInt64S (RetK [.t 2] K) (T0 args) G) : GC Tryz.prog 14 args G K := GC_intro mixed Tryz.func14 c_laws_toInt64S_d hn h
abbrev c_laws_toInt64SS_0 : List GOp := [oo 2 (.mv (.const (.slice none 0 0)))]
abbrev c_laws_toInt64SS_1 : List GOp := [oo 5 (.mv (tt 0)), oo 6 (.len (tt 5)), oo 7 (.mk 1 24 [.slice none 0 0] (tt 6) (tt 6)), oo 3 (.mv (tt 7))]
abbrev c_laws_toInt64SS_2 : List GOp := [oo 4 (.mv (ci 0))]
abbrev c_laws_toInt64SS_3 : List GOp := [oo 8 (.mv (tt 4)), oo 9 (.mv (tt 0)), oo 10 (.len (tt 9)), oo 11 (.bin .lss (tt 8) (tt 10))]
abbrev c_laws_toInt64SS_4 : List GOp := [oo 14 (.mv (tt 3)), oo 15 (.mv (tt 4)), oo 16 (.mv (tt 0)), oo 17 (.mv (tt 4)), oo 18 (.ia 1 (tt 16) (tt 17)), oo 19 (.ld (tt 18)), oo 20 (.call (ff 14) [tt 19]), oo 21 (.ia 1 (tt 14) (tt 15)), on (.st 1 (tt 21) (tt 20))]
abbrev c_laws_toInt64SS_5 : List GOp := [oo 12 (.mv (tt 4)), oo 13 (.bin .add (tt 12) (ci 1)), oo 4 (.mv (tt 13))]
abbrev c_laws_toInt64SS_l0 : GCode := .seq (.seq (.reg c_laws_toInt64SS_3) (.cond (tt 11) (.skip) (.exit 0))) (.seq (.blk 1 (.reg c_laws_toInt64SS_4)) (.reg c_laws_toInt64SS_5))
abbrev c_laws_toInt64SS_7 : List GOp := [oo 22 (.mv (tt 3)), oo 2 (.mv (tt 22))]
abbrev c_laws_toInt64SS : GCode := .seq (.reg c_laws_toInt64SS_0) (.seq (.reg c_laws_toInt64SS_1) (.seq (.seq (.reg c_laws_toInt64SS_2) (.blk 0 (.loop c_laws_toInt64SS_l0))) (.seq (.reg c_laws_toInt64SS_7) (.ret))))
theorem c_laws_toInt64SS_d : decFn Tryz.prog Tryz.f96 = some (23, [.t 2], c_laws_toInt64SS) := by kernel_rfl
theorem c_laws_toInt64SS_i {args : List Value} {G : GH} {K : Value → GH → Prop} (hn : args.length ≤ 23) (h : gW Tryz.prog c_laws_toInt64SS (RetK [.t 2] K) (T0 args) G) : GC Tryz.prog 96 args G K := GC_intro mixed Tryz.func96 c_laws_toInt64SS_d hn h
abbrev c_laws_toMatrix_0 : List GOp := [oo 1 (.bx (tt 0)), oo 2 (.al [.int .i64 0, .int .i64 0, .int .i64 0, .slice none 0 0])]
abbrev c_laws_toMatrix_1 : List GOp := [oo 3 (.al [.int .i64 0, .int .i64 0, .int .i64 0, .slice none 0 0])]
abbrev c_laws_toMatrix_2 : List GOp := [oo 4 (.fa 0 (tt 1)), oo 5 (.ld (tt 4)), oo 6 (.fa 0 (tt 3)), on (.st 1 (tt 6) (tt 5))]
abbrev c_laws_toMatrix_3 : List GOp := [oo 7 (.fa 1 (tt 1)), oo 8 (.ld (tt 7)), oo 9 (.fa 1 (tt 3)), on (.st 1 (tt 9) (tt 8))]
abbrev c_laws_toMatrix_4 : List GOp := [oo 10 (.fa 2 (tt 1)), oo 11 (.ld (tt 10)), oo 12 (.fa 2 (tt 3)), on (.st 1 (tt 12) (tt 11))]
abbrev c_laws_toMatrix_5 : List GOp := [oo 13 (.fa 3 (tt 1)), oo 14 (.ld (tt 13)), oo 15 (.call (ff 14) [tt 14]), oo 16 (.fa 3 (tt 3)), on (.st 1 (tt 16) (tt 15))]
abbrev c_laws_toMatrix_6 : List GOp := [oo 17 (.ldn 4 (tt 3)), on (.st 4 (tt 2) (tt 17))]
abbrev c_laws_toMatrix : GCode := .seq (.reg c_laws_toMatrix_0) (.seq (.reg c_laws_toMatrix_1) (.seq (.reg c_laws_toMatrix_2) (.seq (.reg c_laws_toMatrix_3) (.seq (.reg c_laws_toMatrix_4) (.seq (.reg c_laws_toMatrix_5) (.seq (.reg c_laws_toMatrix_6) (.ret)))))))
theorem c_laws_toMatrix_d : decFn Tryz.prog Tryz.f97 = some (18, [.cn 2 4], c_laws_toMatrix) := by kernel_rfl
theorem c_laws_toMatrix_i {args : List Value} {G : GH} {K : Value → GH → Prop} (hn : args.length ≤ 18) (h : gW Tryz.prog c_laws_toMatrix (RetK [.cn 2 4] K) (T0 args) G) : GC Tryz.prog 97 args G K := GC_intro mixed Tryz.func97 c_laws_toMatrix_d hn h
abbrev c_laws_toMatrixS_0 : List GOp := [oo 2 (.mv (.const (.slice none 0 0)))]
abbrev c_laws_toMatrixS_1 : List GOp := [oo 5 (.mv (tt 0)), oo 6 (.len (tt 5)), oo 7 (.mk 4 48 [.int .i64 0, .int .i64 0, .int .i64 0, .slice none 0 0] (tt 6) (tt 6)), oo 3 (.mv (tt 7))]
abbrev c_laws_toMatrixS_2 : List GOp := [oo 4 (.mv (ci 0))]
abbrev c_laws_toMatrixS_3 : List GOp := [oo 8 (.mv (tt 4)), oo 9 (.mv (tt 0)), oo 10 (.len (tt 9)), oo 11 (.bin .lss (tt 8) (tt 10))]
abbrev c_laws_toMatrixS_4 : List GOp := [oo 14 (.mv (tt 3)), oo 15 (.mv (tt 4)), oo 16 (.mv (tt 0)), oo 17 (.mv (tt 4)), oo 18 (.ia 4 (tt 16) (tt 17)), oo 19 (.ldn 4 (tt 18)), oo 20 (.call (ff 97) [tt 19]), oo 21 (.ia 4 (tt 14) (tt 15)), on (.st 4 (tt 21) (tt 20))]
abbrev c_laws_toMatrixS_5 : List GOp := [oo 12 (.mv (tt 4)), oo 13 (.bin .add (tt 12) (ci 1)), oo 4 (.mv (tt 13))]
abbrev c_laws_toMatrixS_l0 : GCode := .seq (.seq (.reg c_laws_toMatrixS_3) (.cond (tt 11) (.skip) (.exit 0))) (.seq (.blk 1 (.reg c_laws_toMatrixS_4)) (.reg c_laws_toMatrixS_5))
abbrev c_laws_toMatrixS_7 : List GOp := [oo 22 (.mv (tt 3)), oo 2 (.mv (tt 22))]
abbrev c_laws_toMatrixS : GCode := .seq (.reg c_laws_toMatrixS_0) (.seq (.reg c_laws_toMatrixS_1) (.seq (.seq (.reg c_laws_toMatrixS_2) (.blk 0 (.loop c_laws_toMatrixS_l0))) (.seq (.reg c_laws_toMatrixS_7) (.ret))))
theorem c_laws_toMatrixS_d : decFn Tryz.prog Tryz.f48 = some (23, [.t 2], c_laws_toMatrixS) := by kernel_rfl
theorem c_laws_toMatrixS_i {args : List Value} {G : GH} {K : Value → GH → Prop} (hn : args.length ≤ 23) (h : gW Tryz.prog c_laws_toMatrixS (RetK [.t 2] K) (T0 args) G) : GC Tryz.prog 48 args G K := GC_intro mixed Tryz.func48 c_laws_toMatrixS_d hn h
abbrev c_laws_toSheaf_0 : List GOp := [oo 1 (.bx (tt 0)), oo 2 (.al [.slice none 0 0, .int .i64 0, .slice none 0 0, .slice none 0 0])]
abbrev c_laws_toSheaf_1 : List GOp := [oo 3 (.al [.slice none 0 0, .int .i64 0, .slice none 0 0, .slice none 0 0])]
abbrev c_laws_toSheaf_2 : List GOp := [oo 4 (.fa 0 (tt 1)), oo 5 (.ldn 1 (tt 4)), oo 6 (.call (ff 47) [tt 5]), oo 7 (.fa 0 (tt 3)), on (.st 1 (tt 7) (tt 6))]
abbrev c_laws_toSheaf_3 : List GOp := [oo 8 (.fa 1 (tt 1)), oo 9 (.ld (tt 8)), oo 10 (.fa 1 (tt 3)), on (.st 1 (tt 10) (tt 9))]
abbrev c_laws_toSheaf_4 : List GOp := [oo 11 (.fa 2 (tt 1)), oo 12 (.ld (tt 11)), oo 13 (.call (ff 14) [tt 12]), oo 14 (.fa 2 (tt 3)), on (.st 1 (tt 14) (tt 13))]
abbrev c_laws_toSheaf_5 : List GOp := [oo 15 (.fa 3 (tt 1)), oo 16 (.ld (tt 15)), oo 17 (.call (ff 48) [tt 16]), oo 18 (.fa 3 (tt 3)), on (.st 1 (tt 18) (tt 17))]
abbrev c_laws_toSheaf_6 : List GOp := [oo 19 (.ldn 4 (tt 3)), on (.st 4 (tt 2) (tt 19))]
abbrev c_laws_toSheaf : GCode := .seq (.reg c_laws_toSheaf_0) (.seq (.reg c_laws_toSheaf_1) (.seq (.reg c_laws_toSheaf_2) (.seq (.reg c_laws_toSheaf_3) (.seq (.reg c_laws_toSheaf_4) (.seq (.reg c_laws_toSheaf_5) (.seq (.reg c_laws_toSheaf_6) (.ret)))))))
theorem c_laws_toSheaf_d : decFn Tryz.prog Tryz.f13 = some (20, [.cn 2 4], c_laws_toSheaf) := by kernel_rfl
theorem c_laws_toSheaf_i {args : List Value} {G : GH} {K : Value → GH → Prop} (hn : args.length ≤ 20) (h : gW Tryz.prog c_laws_toSheaf (RetK [.cn 2 4] K) (T0 args) G) : GC Tryz.prog 13 args G K := GC_intro mixed Tryz.func13 c_laws_toSheaf_d hn h
abbrev c_slices_BinarySearchFunc_SS_int64_int64_int64_0 : List GOp := [oo 6 (.mv (ci 0)), oo 7 (.mv (cb  false))]
abbrev c_slices_BinarySearchFunc_SS_int64_int64_int64_1 : List GOp := [oo 12 (.mv (tt 0)), oo 13 (.len (tt 12)), oo 8 (.mv (tt 13))]
abbrev c_slices_BinarySearchFunc_SS_int64_int64_int64_2 : List GOp := [oo 14 (.mv (tt 8)), oo 9 (.mv (ci 0)), oo 10 (.mv (tt 14))]
abbrev c_slices_BinarySearchFunc_SS_int64_int64_int64_3 : List GOp := [oo 15 (.mv (tt 9)), oo 16 (.mv (tt 10)), oo 17 (.bin .lss (tt 15) (tt 16))]
abbrev c_slices_BinarySearchFunc_SS_int64_int64_int64_4 : List GOp := [oo 18 (.mv (tt 9)), oo 19 (.mv (tt 10)), oo 20 (.bin .add (tt 18) (tt 19)), oo 21 (.cvi .u64 (tt 20)), oo 22 (.bin .shr (tt 21) (.const (.int .u64 1))), oo 23 (.cvi .i64 (tt 22)), oo 11 (.mv (tt 23))]
abbrev c_slices_BinarySearchFunc_SS_int64_int64_int64_5 : List GOp := [oo 24 (.mv (tt 2)), oo 25 (.mv (tt 0)), oo 26 (.mv (tt 11)), oo 27 (.ia 1 (tt 25) (tt 26)), oo 28 (.ld (tt 27)), oo 29 (.mv (tt 1)), oo 30 (.call (tt 24) [tt 28, tt 29]), oo 31 (.bin .lss (tt 30) (ci 0))]
abbrev c_slices_BinarySearchFunc_SS_int64_int64_int64_6 : List GOp := [oo 32 (.mv (tt 11)), oo 33 (.bin .add (tt 32) (ci 1)), oo 9 (.mv (tt 33))]
abbrev c_slices_BinarySearchFunc_SS_int64_int64_int64_7 : List GOp := [oo 34 (.mv (tt 11)), oo 10 (.mv (tt 34))]
abbrev c_slices_BinarySearchFunc_SS_int64_int64_int64_l0 : GCode := .seq (.seq (.reg c_slices_BinarySearchFunc_SS_int64_int64_int64_3) (.cond (tt 17) (.skip) (.exit 0))) (.blk 1 (.seq (.reg c_slices_BinarySearchFunc_SS_int64_int64_int64_4) (.seq (.reg c_slices_BinarySearchFunc_SS_int64_int64_int64_5) (.cond (tt 31) (.reg c_slices_BinarySearchFunc_SS_int64_int64_int64_6) (.reg c_slices_BinarySearchFunc_SS_int64_int64_int64_7)))))
abbrev c_slices_BinarySearchFunc_SS_int64_int64_int64_9 : List GOp := [oo 35 (.mv (tt 9)), oo 36 (.mv (tt 9)), oo 37 (.mv (tt 8)), oo 38 (.bin .lss (tt 36) (tt 37)), oo 39 (.mv (tt 38)), og 40 39 true (.mv (tt 2)), og 41 39 true (.mv (tt 0)), og 42 39 true (.mv (tt 9)), og 43 39 true (.ia 1 (tt 41) (tt 42)), og 44 39 true (.ld (tt 43)), og 45 39 true (.mv (tt 1)), og 46 39 true (.call (tt 40) [tt 44, tt 45]), og 47 39 true (.bin .eql (tt 46) (ci 0)), oo 48 (.pick (tt 39) (tt 47) (cb  false)), oo 6 (.mv (tt 35)), oo 7 (.mv (tt 48))]
abbrev c_slices_BinarySearchFunc_SS_int64_int64_int64 : GCode := .seq (.reg c_slices_BinarySearchFunc_SS_int64_int64_int64_0) (.seq (.reg c_slices_BinarySearchFunc_SS_int64_int64_int64_1) (.seq (.reg c_slices_BinarySearchFunc_SS_int64_int64_int64_2) (.seq (.blk 0 (.loop c_slices_BinarySearchFunc_SS_int64_int64_int64_l0)) (.seq (.reg c_slices_BinarySearchFunc_SS_int64_int64_int64_9) (.ret)))))
theorem c_slices_BinarySearchFunc_SS_int64_int64_int64_d : decFn Tryz.prog Tryz.f189 = some (49, [.t 6, .t 7], c_slices_BinarySearchFunc_SS_int64_int64_int64) := by kernel_rfl
theorem c_slices_BinarySearchFunc_SS_int64_int64_int64_i {args : List Value} {G : GH} {K : Value → GH → Prop} (hn : args.length ≤ 49) (h : gW Tryz.prog c_slices_BinarySearchFunc_SS_int64_int64_int64 (RetK [.t 6, .t 7] K) (T0 args) G) : GC Tryz.prog 189 args G K := GC_intro mixed Tryz.func189 c_slices_BinarySearchFunc_SS_int64_int64_int64_d hn h
abbrev c_slices_Clone_int64_int64_0 : List GOp := [oo 2 (.mv (.const (.slice none 0 0)))]
abbrev c_slices_Clone_int64_int64_1 : List GOp := [oo 3 (.mv (tt 0)), oo 4 (.eqs false (tt 3) (.const (.slice none 0 0)))]
abbrev c_slices_Clone_int64_int64_2 : List GOp := [oo 2 (.mv (.const (.slice none 0 0)))]
abbrev c_slices_Clone_int64_int64_3 : List GOp := [oo 5 (.bs 1 []), oo 6 (.mv (tt 0)), oo 7 (.ap 1 8 [.int .i64 0] (tt 5) (tt 6)), oo 2 (.mv (tt 7))]
abbrev c_slices_Clone_int64_int64 : GCode := .seq (.reg c_slices_Clone_int64_int64_0) (.seq (.seq (.reg c_slices_Clone_int64_int64_1) (.cond (tt 4) (.seq (.reg c_slices_Clone_int64_int64_2) (.ret)) (.skip))) (.seq (.reg c_slices_Clone_int64_int64_3) (.ret)))
theorem c_slices_Clone_int64_int64_d : decFn Tryz.prog Tryz.f118 = some (8, [.t 2], c_slices_Clone_int64_int64) := by kernel_rfl
theorem c_slices_Clone_int64_int64_i {args : List Value} {G : GH} {K : Value → GH → Prop} (hn : args.length ≤ 8) (h : gW Tryz.prog c_slices_Clone_int64_int64 (RetK [.t 2] K) (T0 args) G) : GC Tryz.prog 118 args G K := GC_intro mixed Tryz.func118 c_slices_Clone_int64_int64_d hn h
abbrev c_slices_Compare_int64_int64_0 : List GOp := [oo 4 (.mv (ci 0))]
abbrev c_slices_Compare_int64_int64_1 : List GOp := [oo 9 (.mv (tt 0)), oo 10 (.len (tt 9)), oo 11 (.mv (ci 0))]
abbrev c_slices_Compare_int64_int64_2 : List GOp := [oo 12 (.bin .lss (tt 11) (tt 10))]
abbrev c_slices_Compare_int64_int64_3 : List GOp := [oo 13 (.mv (tt 11)), oo 14 (.ia 1 (tt 9) (tt 11)), oo 15 (.ld (tt 14)), oo 5 (.mv (tt 13)), oo 6 (.mv (tt 15))]
abbrev c_slices_Compare_int64_int64_4 : List GOp := [oo 16 (.mv (tt 5)), oo 17 (.mv (tt 1)), oo 18 (.len (tt 17)), oo 19 (.bin .geq (tt 16) (tt 18))]
abbrev c_slices_Compare_int64_int64_5 : List GOp := [oo 4 (.mv (ci 1))]
abbrev c_slices_Compare_int64_int64_6 : List GOp := [oo 20 (.mv (tt 1)), oo 21 (.mv (tt 5)), oo 22 (.ia 1 (tt 20) (tt 21)), oo 23 (.ld (tt 22)), oo 7 (.mv (tt 23))]
abbrev c_slices_Compare_int64_int64_7 : List GOp := [oo 24 (.mv (tt 6)), oo 25 (.mv (tt 7)), oo 26 (.call (ff 220) [tt 24, tt 25]), oo 8 (.mv (tt 26))]
abbrev c_slices_Compare_int64_int64_8 : List GOp := [oo 27 (.mv (tt 8)), oo 28 (.bin .neq (tt 27) (ci 0))]
abbrev c_slices_Compare_int64_int64_9 : List GOp := [oo 29 (.mv (tt 8)), oo 4 (.mv (tt 29))]
abbrev c_slices_Compare_int64_int64_10 : List GOp := [oo 30 (.bin .add (tt 11) (ci 1)), oo 11 (.mv (tt 30))]
abbrev c_slices_Compare_int64_int64_l0 : GCode := .seq (.reg c_slices_Compare_int64_int64_2) (.seq (.cond (tt 12) (.skip) (.exit 0)) (.seq (.blk 1 (.seq (.reg c_slices_Compare_int64_int64_3) (.seq (.seq (.reg c_slices_Compare_int64_int64_4) (.cond (tt 19) (.seq (.reg c_slices_Compare_int64_int64_5) (.ret)) (.skip))) (.seq (.reg c_slices_Compare_int64_int64_6) (.seq (.reg c_slices_Compare_int64_int64_7) (.seq (.reg c_slices_Compare_int64_int64_8) (.cond (tt 28) (.seq (.reg c_slices_Compare_int64_int64_9) (.ret)) (.skip)))))))) (.reg c_slices_Compare_int64_int64_10)))
abbrev c_slices_Compare_int64_int64_12 : List GOp := [oo 31 (.mv (tt 0)), oo 32 (.len (tt 31)), oo 33 (.mv (tt 1)), oo 34 (.len (tt 33)), oo 35 (.bin .lss (tt 32) (tt 34))]
abbrev c_slices_Compare_int64_int64_13 : List GOp := [oo 4 (.mv (ci (-1)))]
abbrev c_slices_Compare_int64_int64_14 : List GOp := [oo 4 (.mv (ci 0))]
abbrev c_slices_Compare_int64_int64 : GCode := .seq (.reg c_slices_Compare_int64_int64_0) (.seq (.seq (.reg c_slices_Compare_int64_int64_1) (.blk 0 (.loop c_slices_Compare_int64_int64_l0))) (.seq (.seq (.reg c_slices_Compare_int64_int64_12) (.cond (tt 35) (.seq (.reg c_slices_Compare_int64_int64_13) (.ret)) (.skip))) (.seq (.reg c_slices_Compare_int64_int64_14) (.ret))))
theorem c_slices_Compare_int64_int64_d : decFn Tryz.prog Tryz.f213 = some (36, [.t 4], c_slices_Compare_int64_int64) := by kernel_rfl
theorem c_slices_Compare_int64_int64_i {args : List Value} {G : GH} {K : Value → GH → Prop} (hn : args.length ≤ 36) (h : gW Tryz.prog c_slices_Compare_int64_int64 (RetK [.t 4] K) (T0 args) G) : GC Tryz.prog 213 args G K := GC_intro mixed Tryz.func213 c_slices_Compare_int64_int64_d hn h
abbrev c_slices_Concat_int64_int64_0 : List GOp := [oo 2 (.mv (.const (.slice none 0 0)))]
abbrev c_slices_Concat_int64_int64_1 : List GOp := [oo 3 (.mv (ci 0))]
abbrev c_slices_Concat_int64_int64_2 : List GOp := [oo 9 (.mv (tt 0)), oo 10 (.len (tt 9)), oo 11 (.mv (ci 0))]
abbrev c_slices_Concat_int64_int64_3 : List GOp := [oo 12 (.bin .lss (tt 11) (tt 10))]
abbrev c_slices_Concat_int64_int64_4 : List GOp := [oo 13 (.ia 1 (tt 9) (tt 11)), oo 14 (.ld (tt 13)), oo 5 (.mv (tt 14))]
abbrev c_slices_Concat_int64_int64_5 : List GOp := [oo 15 (.mv (tt 3)), oo 16 (.mv (tt 5)), oo 17 (.len (tt 16)), oo 18 (.bin .add (tt 15) (tt 17)), oo 3 (.mv (tt 18))]
abbrev c_slices_Concat_int64_int64_6 : List GOp := [oo 19 (.mv (tt 3)), oo 20 (.bin .lss (tt 19) (ci 0))]
abbrev c_slices_Concat_int64_int64_7 : List GOp := [oo 21 (.mi 9 (.const (.string ⟨#[108, 101, 110, 32, 111, 117, 116, 32, 111, 102, 32, 114, 97, 110, 103, 101]⟩))), on (.bad)]
abbrev c_slices_Concat_int64_int64_8 : List GOp := [oo 22 (.bin .add (tt 11) (ci 1)), oo 11 (.mv (tt 22))]
abbrev c_slices_Concat_int64_int64_l0 : GCode := .seq (.reg c_slices_Concat_int64_int64_3) (.seq (.cond (tt 12) (.skip) (.exit 0)) (.seq (.blk 1 (.seq (.reg c_slices_Concat_int64_int64_4) (.seq (.reg c_slices_Concat_int64_int64_5) (.seq (.reg c_slices_Concat_int64_int64_6) (.cond (tt 20) (.reg c_slices_Concat_int64_int64_7) (.skip)))))) (.reg c_slices_Concat_int64_int64_8)))
abbrev c_slices_Concat_int64_int64_10 : List GOp := [oo 23 (.mv (tt 3)), oo 24 (.call (ff 210) [(.const (.slice none 0 0)), tt 23]), oo 6 (.mv (tt 24))]
abbrev c_slices_Concat_int64_int64_11 : List GOp := [oo 25 (.mv (tt 0)), oo 26 (.len (tt 25)), oo 27 (.mv (ci 0))]
abbrev c_slices_Concat_int64_int64_12 : List GOp := [oo 28 (.bin .lss (tt 27) (tt 26))]
abbrev c_slices_Concat_int64_int64_13 : List GOp := [oo 29 (.ia 1 (tt 25) (tt 27)), oo 30 (.ld (tt 29)), oo 8 (.mv (tt 30))]
abbrev c_slices_Concat_int64_int64_14 : List GOp := [oo 31 (.mv (tt 6)), oo 32 (.mv (tt 8)), oo 33 (.ap 1 8 [.int .i64 0] (tt 31) (tt 32)), oo 6 (.mv (tt 33))]
abbrev c_slices_Concat_int64_int64_15 : List GOp := [oo 34 (.bin .add (tt 27) (ci 1)), oo 27 (.mv (tt 34))]
abbrev c_slices_Concat_int64_int64_l1 : GCode := .seq (.reg c_slices_Concat_int64_int64_12) (.seq (.cond (tt 28) (.skip) (.exit 2)) (.seq (.blk 3 (.seq (.reg c_slices_Concat_int64_int64_13) (.reg c_slices_Concat_int64_int64_14))) (.reg c_slices_Concat_int64_int64_15)))
abbrev c_slices_Concat_int64_int64_17 : List GOp := [oo 35 (.mv (tt 6)), oo 2 (.mv (tt 35))]
abbrev c_slices_Concat_int64_int64 : GCode := .seq (.reg c_slices_Concat_int64_int64_0) (.seq (.reg c_slices_Concat_int64_int64_1) (.seq (.seq (.reg c_slices_Concat_int64_int64_2) (.blk 0 (.loop c_slices_Concat_int64_int64_l0))) (.seq (.reg c_slices_Concat_int64_int64_10) (.seq (.seq (.reg c_slices_Concat_int64_int64_11) (.blk 2 (.loop c_slices_Concat_int64_int64_l1))) (.seq (.reg c_slices_Concat_int64_int64_17) (.ret))))))
theorem c_slices_Concat_int64_int64_d : decFn Tryz.prog Tryz.f188 = some (36, [.t 2], c_slices_Concat_int64_int64) := by kernel_rfl
theorem c_slices_Concat_int64_int64_i {args : List Value} {G : GH} {K : Value → GH → Prop} (hn : args.length ≤ 36) (h : gW Tryz.prog c_slices_Concat_int64_int64 (RetK [.t 2] K) (T0 args) G) : GC Tryz.prog 188 args G K := GC_intro mixed Tryz.func188 c_slices_Concat_int64_int64_d hn h
abbrev c_slices_ContainsFunc_SS_int64_int64_0 : List GOp := [oo 4 (.mv (cb  false))]
abbrev c_slices_ContainsFunc_SS_int64_int64_1 : List GOp := [oo 5 (.mv (tt 0)), oo 6 (.mv (tt 1)), oo 7 (.call (ff 192) [tt 5, tt 6]), oo 8 (.bin .geq (tt 7) (ci 0)), oo 4 (.mv (tt 8))]
abbrev c_slices_ContainsFunc_SS_int64_int64 : GCode := .seq (.reg c_slices_ContainsFunc_SS_int64_int64_0) (.seq (.reg c_slices_ContainsFunc_SS_int64_int64_1) (.ret))
theorem c_slices_ContainsFunc_SS_int64_int64_d : decFn Tryz.prog Tryz.f202 = some (9, [.t 4], c_slices_ContainsFunc_SS_int64_int64) := by kernel_rfl
theorem c_slices_ContainsFunc_SS_int64_int64_i {args : List Value} {G : GH} {K : Value → GH → Prop} (hn : args.length ≤ 9) (h : gW Tryz.prog c_slices_ContainsFunc_SS_int64_int64 (RetK [.t 4] K) (T0 args) G) : GC Tryz.prog 202 args G K := GC_intro mixed Tryz.func202 c_slices_ContainsFunc_SS_int64_int64_d hn h
abbrev c_slices_ContainsFunc_int64_int64_0 : List GOp := [oo 4 (.mv (cb  false))]
abbrev c_slices_ContainsFunc_int64_int64_1 : List GOp := [oo 5 (.mv (tt 0)), oo 6 (.mv (tt 1)), oo 7 (.call (ff 112) [tt 5, tt 6]), oo 8 (.bin .geq (tt 7) (ci 0)), oo 4 (.mv (tt 8))]
abbrev c_slices_ContainsFunc_int64_int64 : GCode := .seq (.reg c_slices_ContainsFunc_int64_int64_0) (.seq (.reg c_slices_ContainsFunc_int64_int64_1) (.ret))
theorem c_slices_ContainsFunc_int64_int64_d : decFn Tryz.prog Tryz.f57 = some (9, [.t 4], c_slices_ContainsFunc_int64_int64) := by kernel_rfl
theorem c_slices_ContainsFunc_int64_int64_i {args : List Value} {G : GH} {K : Value → GH → Prop} (hn : args.length ≤ 9) (h : gW Tryz.prog c_slices_ContainsFunc_int64_int64 (RetK [.t 4] K) (T0 args) G) : GC Tryz.prog 57 args G K := GC_intro mixed Tryz.func57 c_slices_ContainsFunc_int64_int64_d hn h
abbrev c_slices_Contains_int64_int64_0 : List GOp := [oo 4 (.mv (cb  false))]
abbrev c_slices_Contains_int64_int64_1 : List GOp := [oo 5 (.mv (tt 0)), oo 6 (.mv (tt 1)), oo 7 (.call (ff 64) [tt 5, tt 6]), oo 8 (.bin .geq (tt 7) (ci 0)), oo 4 (.mv (tt 8))]
abbrev c_slices_Contains_int64_int64 : GCode := .seq (.reg c_slices_Contains_int64_int64_0) (.seq (.reg c_slices_Contains_int64_int64_1) (.ret))
theorem c_slices_Contains_int64_int64_d : decFn Tryz.prog Tryz.f115 = some (9, [.t 4], c_slices_Contains_int64_int64) := by kernel_rfl
theorem c_slices_Contains_int64_int64_i {args : List Value} {G : GH} {K : Value → GH → Prop} (hn : args.length ≤ 9) (h : gW Tryz.prog c_slices_Contains_int64_int64 (RetK [.t 4] K) (T0 args) G) : GC Tryz.prog 115 args G K := GC_intro mixed Tryz.func115 c_slices_Contains_int64_int64_d hn h
abbrev c_slices_Equal_int64_int64_0 : List GOp := [oo 4 (.mv (cb  false))]
abbrev c_slices_Equal_int64_int64_1 : List GOp := [oo 6 (.mv (tt 0)), oo 7 (.len (tt 6)), oo 8 (.mv (tt 1)), oo 9 (.len (tt 8)), oo 10 (.bin .neq (tt 7) (tt 9))]
abbrev c_slices_Equal_int64_int64_2 : List GOp := [oo 4 (.mv (cb  false))]
abbrev c_slices_Equal_int64_int64_3 : List GOp := [oo 11 (.mv (tt 0)), oo 12 (.len (tt 11)), oo 13 (.mv (ci 0))]
abbrev c_slices_Equal_int64_int64_4 : List GOp := [oo 14 (.bin .lss (tt 13) (tt 12))]
abbrev c_slices_Equal_int64_int64_5 : List GOp := [oo 15 (.mv (tt 13)), oo 5 (.mv (tt 15))]
abbrev c_slices_Equal_int64_int64_6 : List DOp := [dl 0 (oo 16 (.mv (tt 0))), dl 1 (oo 17 (.mv (tt 5))), dl 2 (oo 18 (.ia 1 (tt 16) (tt 17))), dl 3 (oo 19 (.ld (tt 18))), dl 4 (oo 20 (.mv (tt 1))), dl 5 (oo 21 (.mv (tt 5))), dl 6 (oo 22 (.ia 1 (tt 20) (tt 21))), dl 7 (oo 23 (.ld (tt 22))), dl 8 (oo 24 (.bin .neq (tt 19) (tt 23)))]
abbrev c_slices_Equal_int64_int64_7 : List GOp := [oo 4 (.mv (cb  false))]
abbrev c_slices_Equal_int64_int64_8 : List GOp := [oo 25 (.bin .add (tt 13) (ci 1)), oo 13 (.mv (tt 25))]
abbrev c_slices_Equal_int64_int64_l0 : GCode := .seq (.reg c_slices_Equal_int64_int64_4) (.seq (.cond (tt 14) (.skip) (.exit 0)) (.seq (.blk 1 (.seq (.reg c_slices_Equal_int64_int64_5) (.seq (.dreg c_slices_Equal_int64_int64_6) (.cond (tt 24) (.seq (.reg c_slices_Equal_int64_int64_7) (.ret)) (.skip))))) (.reg c_slices_Equal_int64_int64_8)))
abbrev c_slices_Equal_int64_int64_10 : List GOp := [oo 4 (.mv (cb  true))]
abbrev c_slices_Equal_int64_int64 : GCode := .seq (.reg c_slices_Equal_int64_int64_0) (.seq (.seq (.reg c_slices_Equal_int64_int64_1) (.cond (tt 10) (.seq (.reg c_slices_Equal_int64_int64_2) (.ret)) (.skip))) (.seq (.seq (.reg c_slices_Equal_int64_int64_3) (.blk 0 (.loop c_slices_Equal_int64_int64_l0))) (.seq (.reg c_slices_Equal_int64_int64_10) (.ret))))
theorem c_slices_Equal_int64_int64_d : decFn Tryz.prog Tryz.f209 = some (26, [.t 4], c_slices_Equal_int64_int64) := by kernel_rfl
theorem c_slices_Equal_int64_int64_i {args : List Value} {G : GH} {K : Value → GH → Prop} (hn : args.length ≤ 26) (h : gW Tryz.prog c_slices_Equal_int64_int64 (RetK [.t 4] K) (T0 args) G) : GC Tryz.prog 209 args G K := GC_intro mixed Tryz.func209 c_slices_Equal_int64_int64_d hn h
abbrev c_slices_Grow_int64_int64_0 : List GOp := [oo 4 (.mv (.const (.slice none 0 0)))]
abbrev c_slices_Grow_int64_int64_1 : List GOp := [oo 5 (.mv (tt 1)), oo 6 (.bin .lss (tt 5) (ci 0))]
abbrev c_slices_Grow_int64_int64_2 : List GOp := [oo 7 (.mi 9 (.const (.string ⟨#[99, 97, 110, 110, 111, 116, 32, 98, 101, 32, 110, 101, 103, 97, 116, 105, 118, 101]⟩))), on (.bad)]
abbrev c_slices_Grow_int64_int64_3 : List GOp := [oo 8 (.mv (tt 1)), oo 9 (.mv (tt 0)), oo 10 (.cap (tt 9)), oo 11 (.mv (tt 0)), oo 12 (.len (tt 11)), oo 13 (.bin .sub (tt 10) (tt 12)), oo 14 (.bin .sub (tt 8) (tt 13)), oo 1 (.mv (tt 14))]
abbrev c_slices_Grow_int64_int64_4 : List GOp := [oo 15 (.mv (tt 1)), oo 16 (.bin .gtr (tt 15) (ci 0))]
abbrev c_slices_Grow_int64_int64_5 : List GOp := [oo 17 (.mv (tt 0)), oo 18 (.mv (tt 0)), oo 19 (.cap (tt 18)), oo 20 (.sl 1 (tt 17) none (some (tt 19))), oo 21 (.mv (tt 1)), oo 22 (.apz 1 8 [.int .i64 0] (tt 20) (tt 21)), oo 23 (.mv (tt 0)), oo 24 (.len (tt 23)), oo 25 (.sl 1 (tt 22) none (some (tt 24))), oo 0 (.mv (tt 25))]
abbrev c_slices_Grow_int64_int64_6 : List GOp := [oo 26 (.mv (tt 0)), oo 4 (.mv (tt 26))]
abbrev c_slices_Grow_int64_int64 : GCode := .seq (.reg c_slices_Grow_int64_int64_0) (.seq (.seq (.reg c_slices_Grow_int64_int64_1) (.cond (tt 6) (.reg c_slices_Grow_int64_int64_2) (.skip))) (.seq (.seq (.reg c_slices_Grow_int64_int64_3) (.seq (.reg c_slices_Grow_int64_int64_4) (.cond (tt 16) (.reg c_slices_Grow_int64_int64_5) (.skip)))) (.seq (.reg c_slices_Grow_int64_int64_6) (.ret))))
theorem c_slices_Grow_int64_int64_d : decFn Tryz.prog Tryz.f210 = some (27, [.t 4], c_slices_Grow_int64_int64) := by kernel_rfl
theorem c_slices_Grow_int64_int64_i {args : List Value} {G : GH} {K : Value → GH → Prop} (hn : args.length ≤ 27) (h : gW Tryz.prog c_slices_Grow_int64_int64 (RetK [.t 4] K) (T0 args) G) : GC Tryz.prog 210 args G K := GC_intro mixed Tryz.func210 c_slices_Grow_int64_int64_d hn h
abbrev c_slices_IndexFunc_SS_int64_int64_0 : List GOp := [oo 4 (.mv (ci 0))]
abbrev c_slices_IndexFunc_SS_int64_int64_1 : List GOp := [oo 6 (.mv (tt 0)), oo 7 (.len (tt 6)), oo 8 (.mv (ci 0))]
abbrev c_slices_IndexFunc_SS_int64_int64_2 : List GOp := [oo 9 (.bin .lss (tt 8) (tt 7))]
abbrev c_slices_IndexFunc_SS_int64_int64_3 : List GOp := [oo 10 (.mv (tt 8)), oo 5 (.mv (tt 10))]
abbrev c_slices_IndexFunc_SS_int64_int64_4 : List GOp := [oo 11 (.mv (tt 1)), oo 12 (.mv (tt 0)), oo 13 (.mv (tt 5)), oo 14 (.ia 1 (tt 12) (tt 13)), oo 15 (.ld (tt 14)), oo 16 (.call (tt 11) [tt 15])]
abbrev c_slices_IndexFunc_SS_int64_int64_5 : List GOp := [oo 17 (.mv (tt 5)), oo 4 (.mv (tt 17))]
abbrev c_slices_IndexFunc_SS_int64_int64_6 : List GOp := [oo 18 (.bin .add (tt 8) (ci 1)), oo 8 (.mv (tt 18))]
abbrev c_slices_IndexFunc_SS_int64_int64_l0 : GCode := .seq (.reg c_slices_IndexFunc_SS_int64_int64_2) (.seq (.cond (tt 9) (.skip) (.exit 0)) (.seq (.blk 1 (.seq (.reg c_slices_IndexFunc_SS_int64_int64_3) (.seq (.reg c_slices_IndexFunc_SS_int64_int64_4) (.cond (tt 16) (.seq (.reg c_slices_IndexFunc_SS_int64_int64_5) (.ret)) (.skip))))) (.reg c_slices_IndexFunc_SS_int64_int64_6)))
abbrev c_slices_IndexFunc_SS_int64_int64_8 : List GOp := [oo 4 (.mv (ci (-1)))]
abbrev c_slices_IndexFunc_SS_int64_int64 : GCode := .seq (.reg c_slices_IndexFunc_SS_int64_int64_0) (.seq (.seq (.reg c_slices_IndexFunc_SS_int64_int64_1) (.blk 0 (.loop c_slices_IndexFunc_SS_int64_int64_l0))) (.seq (.reg c_slices_IndexFunc_SS_int64_int64_8) (.ret)))
theorem c_slices_IndexFunc_SS_int64_int64_d : decFn Tryz.prog Tryz.f192 = some (19, [.t 4], c_slices_IndexFunc_SS_int64_int64) := by kernel_rfl
theorem c_slices_IndexFunc_SS_int64_int64_i {args : List Value} {G : GH} {K : Value → GH → Prop} (hn : args.length ≤ 19) (h : gW Tryz.prog c_slices_IndexFunc_SS_int64_int64 (RetK [.t 4] K) (T0 args) G) : GC Tryz.prog 192 args G K := GC_intro mixed Tryz.func192 c_slices_IndexFunc_SS_int64_int64_d hn h
abbrev c_slices_IndexFunc_int64_int64_0 : List GOp := [oo 4 (.mv (ci 0))]
abbrev c_slices_IndexFunc_int64_int64_1 : List GOp := [oo 6 (.mv (tt 0)), oo 7 (.len (tt 6)), oo 8 (.mv (ci 0))]
abbrev c_slices_IndexFunc_int64_int64_2 : List GOp := [oo 9 (.bin .lss (tt 8) (tt 7))]
abbrev c_slices_IndexFunc_int64_int64_3 : List GOp := [oo 10 (.mv (tt 8)), oo 5 (.mv (tt 10))]
abbrev c_slices_IndexFunc_int64_int64_4 : List GOp := [oo 11 (.mv (tt 1)), oo 12 (.mv (tt 0)), oo 13 (.mv (tt 5)), oo 14 (.ia 1 (tt 12) (tt 13)), oo 15 (.ld (tt 14)), oo 16 (.call (tt 11) [tt 15])]
abbrev c_slices_IndexFunc_int64_int64_5 : List GOp := [oo 17 (.mv (tt 5)), oo 4 (.mv (tt 17))]
abbrev c_slices_IndexFunc_int64_int64_6 : List GOp := [oo 18 (.bin .add (tt 8) (ci 1)), oo 8 (.mv (tt 18))]
abbrev c_slices_IndexFunc_int64_int64_l0 : GCode := .seq (.reg c_slices_IndexFunc_int64_int64_2) (.seq (.cond (tt 9) (.skip) (.exit 0)) (.seq (.blk 1 (.seq (.reg c_slices_IndexFunc_int64_int64_3) (.seq (.reg c_slices_IndexFunc_int64_int64_4) (.cond (tt 16) (.seq (.reg c_slices_IndexFunc_int64_int64_5) (.ret)) (.skip))))) (.reg c_slices_IndexFunc_int64_int64_6)))
abbrev c_slices_IndexFunc_int64_int64_8 : List GOp := [oo 4 (.mv (ci (-1)))]
abbrev c_slices_IndexFunc_int64_int64 : GCode := .seq (.reg c_slices_IndexFunc_int64_int64_0) (.seq (.seq (.reg c_slices_IndexFunc_int64_int64_1) (.blk 0 (.loop c_slices_IndexFunc_int64_int64_l0))) (.seq (.reg c_slices_IndexFunc_int64_int64_8) (.ret)))
theorem c_slices_IndexFunc_int64_int64_d : decFn Tryz.prog Tryz.f112 = some (19, [.t 4], c_slices_IndexFunc_int64_int64) := by kernel_rfl
theorem c_slices_IndexFunc_int64_int64_i {args : List Value} {G : GH} {K : Value → GH → Prop} (hn : args.length ≤ 19) (h : gW Tryz.prog c_slices_IndexFunc_int64_int64 (RetK [.t 4] K) (T0 args) G) : GC Tryz.prog 112 args G K := GC_intro mixed Tryz.func112 c_slices_IndexFunc_int64_int64_d hn h
abbrev c_slices_Index_int64_int64_0 : List GOp := [oo 4 (.mv (ci 0))]
abbrev c_slices_Index_int64_int64_1 : List GOp := [oo 6 (.mv (tt 0)), oo 7 (.len (tt 6)), oo 8 (.mv (ci 0))]
abbrev c_slices_Index_int64_int64_2 : List GOp := [oo 9 (.bin .lss (tt 8) (tt 7))]
abbrev c_slices_Index_int64_int64_3 : List GOp := [oo 10 (.mv (tt 8)), oo 5 (.mv (tt 10))]
abbrev c_slices_Index_int64_int64_4 : List GOp := [oo 11 (.mv (tt 1)), oo 12 (.mv (tt 0)), oo 13 (.mv (tt 5)), oo 14 (.ia 1 (tt 12) (tt 13)), oo 15 (.ld (tt 14)), oo 16 (.bin .eql (tt 11) (tt 15))]
abbrev c_slices_Index_int64_int64_5 : List GOp := [oo 17 (.mv (tt 5)), oo 4 (.mv (tt 17))]
abbrev c_slices_Index_int64_int64_6 : List GOp := [oo 18 (.bin .add (tt 8) (ci 1)), oo 8 (.mv (tt 18))]
abbrev c_slices_Index_int64_int64_l0 : GCode := .seq (.reg c_slices_Index_int64_int64_2) (.seq (.cond (tt 9) (.skip) (.exit 0)) (.seq (.blk 1 (.seq (.reg c_slices_Index_int64_int64_3) (.seq (.reg c_slices_Index_int64_int64_4) (.cond (tt 16) (.seq (.reg c_slices_Index_int64_int64_5) (.ret)) (.skip))))) (.reg c_slices_Index_int64_int64_6)))
abbrev c_slices_Index_int64_int64_8 : List GOp := [oo 4 (.mv (ci (-1)))]
abbrev c_slices_Index_int64_int64 : GCode := .seq (.reg c_slices_Index_int64_int64_0) (.seq (.seq (.reg c_slices_Index_int64_int64_1) (.blk 0 (.loop c_slices_Index_int64_int64_l0))) (.seq (.reg c_slices_Index_int64_int64_8) (.ret)))
theorem c_slices_Index_int64_int64_d : decFn Tryz.prog Tryz.f64 = some (19, [.t 4], c_slices_Index_int64_int64) := by kernel_rfl
theorem c_slices_Index_int64_int64_i {args : List Value} {G : GH} {K : Value → GH → Prop} (hn : args.length ≤ 19) (h : gW Tryz.prog c_slices_Index_int64_int64 (RetK [.t 4] K) (T0 args) G) : GC Tryz.prog 64 args G K := GC_intro mixed Tryz.func64 c_slices_Index_int64_int64_d hn h
abbrev c_spec_AgreesWithin_0 : List GOp := [oo 3 (.bx (tt 0)), oo 6 (.mv (cb  false))]
abbrev c_spec_AgreesWithin_1 : List GOp := [oo 7 (.mv (tt 1)), oo 8 (.call (ff 45) [tt 3, (ci 0), tt 7]), oo 9 (.bin .eql (tt 8) (ci 0)), oo 10 (.mv (tt 9)), og 11 10 true (.mv (tt 2)), og 12 10 true (.call (ff 55) [tt 3, tt 11]), oo 13 (.pick (tt 10) (tt 12) (cb  false)), oo 14 (.mv (tt 13)), og 15 14 true (.mv (tt 1)), og 16 14 true (.call (ff 46) [tt 3, tt 15]), og 17 14 true (.mv (tt 2)), og 18 14 true (.call (ff 56) [tt 3, tt 16, tt 17]), oo 19 (.pick (tt 14) (tt 18) (cb  false)), oo 6 (.mv (tt 19))]
abbrev c_spec_AgreesWithin : GCode := .seq (.reg c_spec_AgreesWithin_0) (.seq (.reg c_spec_AgreesWithin_1) (.ret))
theorem c_spec_AgreesWithin_d : decFn Tryz.prog Tryz.f23 = some (20, [.t 6], c_spec_AgreesWithin) := by kernel_rfl
theorem c_spec_AgreesWithin_i {args : List Value} {G : GH} {K : Value → GH → Prop} (hn : args.length ≤ 20) (h : gW Tryz.prog c_spec_AgreesWithin (RetK [.t 6] K) (T0 args) G) : GC Tryz.prog 23 args G K := GC_intro mixed Tryz.func23 c_spec_AgreesWithin_d hn h
abbrev c_spec_ValidPrime_0 : List GOp := [oo 2 (.mv (cb  false))]
abbrev c_spec_ValidPrime_1 : List GOp := [oo 3 (.mv (tt 0)), oo 4 (.call (ff 176) [tt 3]), oo 2 (.mv (tt 4))]
abbrev c_spec_ValidPrime : GCode := .seq (.reg c_spec_ValidPrime_0) (.seq (.reg c_spec_ValidPrime_1) (.ret))
theorem c_spec_ValidPrime_d : decFn Tryz.prog Tryz.f142 = some (5, [.t 2], c_spec_ValidPrime) := by kernel_rfl
theorem c_spec_ValidPrime_i {args : List Value} {G : GH} {K : Value → GH → Prop} (hn : args.length ≤ 5) (h : gW Tryz.prog c_spec_ValidPrime (RetK [.t 2] K) (T0 args) G) : GC Tryz.prog 142 args G K := GC_intro mixed Tryz.func142 c_spec_ValidPrime_d hn h
abbrev c_spec_l00Has_0 : List GOp := [oo 4 (.mv (cb  false))]
abbrev c_spec_l00Has_1 : List GOp := [oo 5 (.mv (ci 0))]
abbrev c_spec_l00Has_2 : List GOp := [oo 6 (.mv (tt 5)), oo 7 (.mv (tt 0)), oo 8 (.len (tt 7)), oo 9 (.bin .lss (tt 6) (tt 8))]
abbrev c_spec_l00Has_3 : List GOp := [oo 12 (.mv (tt 0)), oo 13 (.mv (tt 5)), oo 14 (.ia 1 (tt 12) (tt 13)), oo 15 (.ld (tt 14)), oo 16 (.mv (tt 1)), oo 17 (.bin .eql (tt 15) (tt 16))]
abbrev c_spec_l00Has_4 : List GOp := [oo 4 (.mv (cb  true))]
abbrev c_spec_l00Has_5 : List GOp := [oo 10 (.mv (tt 5)), oo 11 (.bin .add (tt 10) (ci 1)), oo 5 (.mv (tt 11))]
abbrev c_spec_l00Has_l0 : GCode := .seq (.seq (.reg c_spec_l00Has_2) (.cond (tt 9) (.skip) (.exit 0))) (.seq (.blk 1 (.seq (.reg c_spec_l00Has_3) (.cond (tt 17) (.seq (.reg c_spec_l00Has_4) (.ret)) (.skip)))) (.reg c_spec_l00Has_5))
abbrev c_spec_l00Has_7 : List GOp := [oo 4 (.mv (cb  false))]
abbrev c_spec_l00Has : GCode := .seq (.reg c_spec_l00Has_0) (.seq (.seq (.reg c_spec_l00Has_1) (.blk 0 (.loop c_spec_l00Has_l0))) (.seq (.reg c_spec_l00Has_7) (.ret)))
theorem c_spec_l00Has_d : decFn Tryz.prog Tryz.f111 = some (18, [.t 4], c_spec_l00Has) := by kernel_rfl
theorem c_spec_l00Has_i {args : List Value} {G : GH} {K : Value → GH → Prop} (hn : args.length ≤ 18) (h : gW Tryz.prog c_spec_l00Has (RetK [.t 4] K) (T0 args) G) : GC Tryz.prog 111 args G K := GC_intro mixed Tryz.func111 c_spec_l00Has_d hn h
abbrev c_spec_l00In_0 : List GOp := [oo 6 (.mv (cb  false))]
abbrev c_spec_l00In_1 : List GOp := [oo 7 (.mv (tt 0)), oo 8 (.mv (tt 1)), oo 9 (.bin .geq (tt 7) (tt 8)), oo 10 (.mv (tt 9)), og 11 10 true (.mv (tt 0)), og 12 10 true (.mv (tt 2)), og 13 10 true (.bin .leq (tt 11) (tt 12)), oo 14 (.pick (tt 10) (tt 13) (cb  false)), oo 6 (.mv (tt 14))]
abbrev c_spec_l00In : GCode := .seq (.reg c_spec_l00In_0) (.seq (.reg c_spec_l00In_1) (.ret))
theorem c_spec_l00In_d : decFn Tryz.prog Tryz.f129 = some (15, [.t 6], c_spec_l00In) := by kernel_rfl
theorem c_spec_l00In_i {args : List Value} {G : GH} {K : Value → GH → Prop} (hn : args.length ≤ 15) (h : gW Tryz.prog c_spec_l00In (RetK [.t 6] K) (T0 args) G) : GC Tryz.prog 129 args G K := GC_intro mixed Tryz.func129 c_spec_l00In_d hn h
abbrev c_spec_l00Own_0 : List GOp := [oo 2 (.mv (.const (.slice none 0 0)))]
abbrev c_spec_l00Own_1 : List GOp := [oo 3 (.bs 1 []), oo 4 (.mv (tt 0)), oo 5 (.ap 1 8 [.int .i64 0] (tt 3) (tt 4)), oo 2 (.mv (tt 5))]
abbrev c_spec_l00Own : GCode := .seq (.reg c_spec_l00Own_0) (.seq (.reg c_spec_l00Own_1) (.ret))
theorem c_spec_l00Own_d : decFn Tryz.prog Tryz.f72 = some (6, [.t 2], c_spec_l00Own) := by kernel_rfl
theorem c_spec_l00Own_i {args : List Value} {G : GH} {K : Value → GH → Prop} (hn : args.length ≤ 6) (h : gW Tryz.prog c_spec_l00Own (RetK [.t 2] K) (T0 args) G) : GC Tryz.prog 72 args G K := GC_intro mixed Tryz.func72 c_spec_l00Own_d hn h
abbrev c_spec_l00Rises_0 : List GOp := [oo 6 (.mv (cb  false))]
abbrev c_spec_l00Rises_1 : List GOp := [oo 7 (.mv (ci 0))]
abbrev c_spec_l00Rises_2 : List GOp := [oo 8 (.mv (tt 7)), oo 9 (.mv (tt 0)), oo 10 (.len (tt 9)), oo 11 (.bin .lss (tt 8) (tt 10))]
abbrev c_spec_l00Rises_3 : List DOp := [dl 0 (oo 14 (.mv (tt 0))), dl 1 (oo 15 (.mv (tt 7))), dl 2 (oo 16 (.ia 1 (tt 14) (tt 15))), dl 3 (oo 17 (.ld (tt 16))), dl 4 (oo 18 (.mv (tt 1))), dl 5 (oo 19 (.mv (tt 2))), dh 6 [] (oo 20 (.call (ff 129) [tt 17, tt 18, tt 19])), dl 7 (oo 21 (.un .not (tt 20))), dl 8 (oo 22 (.mv (tt 21))), dl 9 (og 23 22 false (.mv (tt 7))), dl 10 (og 24 22 false (.bin .gtr (tt 23) (ci 0))), dl 11 (og 25 22 false (.mv (tt 24))), dl 12 (og 26 25 true (.mv (tt 0))), dl 13 (og 27 25 true (.mv (tt 7))), dl 14 (og 28 25 true (.bin .sub (tt 27) (ci 1))), dl 15 (og 29 25 true (.ia 1 (tt 26) (tt 28))), dl 16 (og 30 25 true (.ld (tt 29))), dl 17 (og 31 25 true (.mv (tt 0))), dl 18 (og 32 25 true (.mv (tt 7))), dl 19 (og 33 25 true (.ia 1 (tt 31) (tt 32))), dl 20 (og 34 25 true (.ld (tt 33))), dl 21 (og 35 25 true (.bin .geq (tt 30) (tt 34))), dl 22 (og 36 22 false (.pick (tt 25) (tt 35) (cb  false))), dl 23 (oo 37 (.pick (tt 22) (cb  true) (tt 36)))]
abbrev c_spec_l00Rises_4 : List GOp := [oo 6 (.mv (cb  false))]
abbrev c_spec_l00Rises_5 : List GOp := [oo 12 (.mv (tt 7)), oo 13 (.bin .add (tt 12) (ci 1)), oo 7 (.mv (tt 13))]
abbrev c_spec_l00Rises_l0 : GCode := .seq (.seq (.reg c_spec_l00Rises_2) (.cond (tt 11) (.skip) (.exit 0))) (.seq (.blk 1 (.seq (.dreg c_spec_l00Rises_3) (.cond (tt 37) (.seq (.reg c_spec_l00Rises_4) (.ret)) (.skip)))) (.reg c_spec_l00Rises_5))
abbrev c_spec_l00Rises_7 : List GOp := [oo 6 (.mv (cb  true))]
abbrev c_spec_l00Rises : GCode := .seq (.reg c_spec_l00Rises_0) (.seq (.seq (.reg c_spec_l00Rises_1) (.blk 0 (.loop c_spec_l00Rises_l0))) (.seq (.reg c_spec_l00Rises_7) (.ret)))
theorem c_spec_l00Rises_d : decFn Tryz.prog Tryz.f109 = some (38, [.t 6], c_spec_l00Rises) := by kernel_rfl
theorem c_spec_l00Rises_i {args : List Value} {G : GH} {K : Value → GH → Prop} (hn : args.length ≤ 38) (h : gW Tryz.prog c_spec_l00Rises (RetK [.t 6] K) (T0 args) G) : GC Tryz.prog 109 args G K := GC_intro mixed Tryz.func109 c_spec_l00Rises_d hn h
abbrev c_spec_l00Same_0 : List GOp := [oo 4 (.mv (cb  false))]
abbrev c_spec_l00Same_1 : List GOp := [oo 6 (.mv (tt 0)), oo 7 (.len (tt 6)), oo 8 (.mv (tt 1)), oo 9 (.len (tt 8)), oo 10 (.bin .neq (tt 7) (tt 9))]
abbrev c_spec_l00Same_2 : List GOp := [oo 4 (.mv (cb  false))]
abbrev c_spec_l00Same_3 : List GOp := [oo 5 (.mv (ci 0))]
abbrev c_spec_l00Same_4 : List GOp := [oo 11 (.mv (tt 5)), oo 12 (.mv (tt 0)), oo 13 (.len (tt 12)), oo 14 (.bin .lss (tt 11) (tt 13))]
abbrev c_spec_l00Same_5 : List DOp := [dl 0 (oo 17 (.mv (tt 0))), dl 1 (oo 18 (.mv (tt 5))), dl 2 (oo 19 (.ia 1 (tt 17) (tt 18))), dl 3 (oo 20 (.ld (tt 19))), dl 4 (oo 21 (.mv (tt 1))), dl 5 (oo 22 (.mv (tt 5))), dl 6 (oo 23 (.ia 1 (tt 21) (tt 22))), dl 7 (oo 24 (.ld (tt 23))), dl 8 (oo 25 (.bin .neq (tt 20) (tt 24)))]
abbrev c_spec_l00Same_6 : List GOp := [oo 4 (.mv (cb  false))]
abbrev c_spec_l00Same_7 : List GOp := [oo 15 (.mv (tt 5)), oo 16 (.bin .add (tt 15) (ci 1)), oo 5 (.mv (tt 16))]
abbrev c_spec_l00Same_l0 : GCode := .seq (.seq (.reg c_spec_l00Same_4) (.cond (tt 14) (.skip) (.exit 0))) (.seq (.blk 1 (.seq (.dreg c_spec_l00Same_5) (.cond (tt 25) (.seq (.reg c_spec_l00Same_6) (.ret)) (.skip)))) (.reg c_spec_l00Same_7))
abbrev c_spec_l00Same_9 : List GOp := [oo 4 (.mv (cb  true))]
abbrev c_spec_l00Same : GCode := .seq (.reg c_spec_l00Same_0) (.seq (.seq (.reg c_spec_l00Same_1) (.cond (tt 10) (.seq (.reg c_spec_l00Same_2) (.ret)) (.skip))) (.seq (.seq (.reg c_spec_l00Same_3) (.blk 0 (.loop c_spec_l00Same_l0))) (.seq (.reg c_spec_l00Same_9) (.ret))))
theorem c_spec_l00Same_d : decFn Tryz.prog Tryz.f175 = some (26, [.t 4], c_spec_l00Same) := by kernel_rfl
theorem c_spec_l00Same_i {args : List Value} {G : GH} {K : Value → GH → Prop} (hn : args.length ≤ 26) (h : gW Tryz.prog c_spec_l00Same (RetK [.t 4] K) (T0 args) G) : GC Tryz.prog 175 args G K := GC_intro mixed Tryz.func175 c_spec_l00Same_d hn h
abbrev c_spec_l02Prime_0 : List GOp := [oo 2 (.mv (cb  false))]
abbrev c_spec_l02Prime_1 : List GOp := [oo 4 (.mv (tt 0)), oo 5 (.call (ff 129) [tt 4, (ci 2), (ci 251)]), oo 6 (.un .not (tt 5))]
abbrev c_spec_l02Prime_2 : List GOp := [oo 2 (.mv (cb  false))]
abbrev c_spec_l02Prime_3 : List GOp := [oo 3 (.mv (ci 2))]
abbrev c_spec_l02Prime_4 : List GOp := [oo 7 (.mv (tt 3)), oo 8 (.mv (tt 3)), oo 9 (.bin .mul (tt 7) (tt 8)), oo 10 (.mv (tt 0)), oo 11 (.bin .leq (tt 9) (tt 10))]
abbrev c_spec_l02Prime_5 : List GOp := [oo 14 (.mv (tt 0)), oo 15 (.mv (tt 3)), oo 16 (.bin .rem (tt 14) (tt 15)), oo 17 (.bin .eql (tt 16) (ci 0))]
abbrev c_spec_l02Prime_6 : List GOp := [oo 2 (.mv (cb  false))]
abbrev c_spec_l02Prime_7 : List GOp := [oo 12 (.mv (tt 3)), oo 13 (.bin .add (tt 12) (ci 1)), oo 3 (.mv (tt 13))]
abbrev c_spec_l02Prime_l0 : GCode := .seq (.seq (.reg c_spec_l02Prime_4) (.cond (tt 11) (.skip) (.exit 0))) (.seq (.blk 1 (.seq (.reg c_spec_l02Prime_5) (.cond (tt 17) (.seq (.reg c_spec_l02Prime_6) (.ret)) (.skip)))) (.reg c_spec_l02Prime_7))
abbrev c_spec_l02Prime_9 : List GOp := [oo 2 (.mv (cb  true))]
abbrev c_spec_l02Prime : GCode := .seq (.reg c_spec_l02Prime_0) (.seq (.seq (.reg c_spec_l02Prime_1) (.cond (tt 6) (.seq (.reg c_spec_l02Prime_2) (.ret)) (.skip))) (.seq (.seq (.reg c_spec_l02Prime_3) (.blk 0 (.loop c_spec_l02Prime_l0))) (.seq (.reg c_spec_l02Prime_9) (.ret))))
theorem c_spec_l02Prime_d : decFn Tryz.prog Tryz.f176 = some (18, [.t 2], c_spec_l02Prime) := by kernel_rfl
theorem c_spec_l02Prime_i {args : List Value} {G : GH} {K : Value → GH → Prop} (hn : args.length ≤ 18) (h : gW Tryz.prog c_spec_l02Prime (RetK [.t 2] K) (T0 args) G) : GC Tryz.prog 176 args G K := GC_intro mixed Tryz.func176 c_spec_l02Prime_d hn h
abbrev c_spec_l03Apply_0 : List GOp := [oo 4 (.mv (.const (.slice none 0 0)))]
abbrev c_spec_l03Apply_1 : List GOp := [oo 9 (.bs 1 []), oo 5 (.mv (tt 9))]
abbrev c_spec_l03Apply_2 : List GOp := [oo 6 (.mv (ci 0))]
abbrev c_spec_l03Apply_3 : List GOp := [oo 10 (.mv (tt 6)), oo 11 (.mv (tt 0)), oo 12 (.nc (tt 11)), oo 13 (.fa 1 (tt 12)), oo 14 (.ld (tt 13)), oo 15 (.bin .lss (tt 10) (tt 14))]
abbrev c_spec_l03Apply_4 : List GOp := [oo 7 (.mv (ci 0))]
abbrev c_spec_l03Apply_5 : List GOp := [oo 8 (.mv (ci 0))]
abbrev c_spec_l03Apply_6 : List GOp := [oo 18 (.mv (tt 8)), oo 19 (.mv (tt 0)), oo 20 (.nc (tt 19)), oo 21 (.fa 2 (tt 20)), oo 22 (.ld (tt 21)), oo 23 (.bin .lss (tt 18) (tt 22))]
abbrev c_spec_l03Apply_7 : List DOp := [dl 0 (oo 26 (.mv (tt 7))), dl 1 (oo 27 (.mv (tt 0))), dl 2 (oo 28 (.nc (tt 27))), dl 3 (oo 29 (.fa 3 (tt 28))), dl 4 (oo 30 (.ld (tt 29))), dl 5 (oo 31 (.mv (tt 6))), dl 6 (oo 32 (.mv (tt 0))), dl 7 (oo 33 (.nc (tt 32))), dl 8 (oo 34 (.fa 2 (tt 33))), dl 9 (oo 35 (.ld (tt 34))), dl 10 (oo 36 (.bin .mul (tt 31) (tt 35))), dl 11 (oo 37 (.mv (tt 8))), dl 12 (oo 38 (.bin .add (tt 36) (tt 37))), dl 13 (oo 39 (.ia 1 (tt 30) (tt 38))), dl 14 (oo 40 (.ld (tt 39))), dl 15 (oo 41 (.mv (tt 1))), dl 16 (oo 42 (.mv (tt 8))), dl 17 (oo 43 (.ia 1 (tt 41) (tt 42))), dl 18 (oo 44 (.ld (tt 43))), dl 19 (oo 45 (.bin .mul (tt 40) (tt 44))), dl 20 (oo 46 (.bin .add (tt 26) (tt 45))), dl 21 (oo 7 (.mv (tt 46)))]
abbrev c_spec_l03Apply_8 : List GOp := [oo 24 (.mv (tt 8)), oo 25 (.bin .add (tt 24) (ci 1)), oo 8 (.mv (tt 25))]
abbrev c_spec_l03Apply_l0 : GCode := .seq (.seq (.reg c_spec_l03Apply_6) (.cond (tt 23) (.skip) (.exit 2))) (.seq (.blk 3 (.dreg c_spec_l03Apply_7)) (.reg c_spec_l03Apply_8))
abbrev c_spec_l03Apply_10 : List GOp := [oo 47 (.mv (tt 5)), oo 48 (.mv (tt 7)), oo 49 (.mv (tt 0)), oo 50 (.nc (tt 49)), oo 51 (.fa 0 (tt 50)), oo 52 (.ld (tt 51)), oo 53 (.bin .rem (tt 48) (tt 52)), oo 54 (.bs 1 [tt 53]), oo 55 (.ap 1 8 [.int .i64 0] (tt 47) (tt 54)), oo 5 (.mv (tt 55))]
abbrev c_spec_l03Apply_11 : List GOp := [oo 16 (.mv (tt 6)), oo 17 (.bin .add (tt 16) (ci 1)), oo 6 (.mv (tt 17))]
abbrev c_spec_l03Apply_l1 : GCode := .seq (.seq (.reg c_spec_l03Apply_3) (.cond (tt 15) (.skip) (.exit 0))) (.seq (.blk 1 (.seq (.reg c_spec_l03Apply_4) (.seq (.seq (.reg c_spec_l03Apply_5) (.blk 2 (.loop c_spec_l03Apply_l0))) (.reg c_spec_l03Apply_10)))) (.reg c_spec_l03Apply_11))
abbrev c_spec_l03Apply_13 : List GOp := [oo 56 (.mv (tt 5)), oo 4 (.mv (tt 56))]
abbrev c_spec_l03Apply : GCode := .seq (.reg c_spec_l03Apply_0) (.seq (.reg c_spec_l03Apply_1) (.seq (.seq (.reg c_spec_l03Apply_2) (.blk 0 (.loop c_spec_l03Apply_l1))) (.seq (.reg c_spec_l03Apply_13) (.ret))))
theorem c_spec_l03Apply_d : decFn Tryz.prog Tryz.f94 = some (57, [.t 4], c_spec_l03Apply) := by kernel_rfl
theorem c_spec_l03Apply_i {args : List Value} {G : GH} {K : Value → GH → Prop} (hn : args.length ≤ 57) (h : gW Tryz.prog c_spec_l03Apply (RetK [.t 4] K) (T0 args) G) : GC Tryz.prog 94 args G K := GC_intro mixed Tryz.func94 c_spec_l03Apply_d hn h
abbrev c_spec_l03Column_0 : List GOp := [oo 6 (.mv (cb  false))]
abbrev c_spec_l03Column_1 : List GOp := [oo 7 (.mv (ci 0))]
abbrev c_spec_l03Column_2 : List GOp := [oo 8 (.mv (tt 7)), oo 9 (.mv (tt 0)), oo 10 (.len (tt 9)), oo 11 (.bin .lss (tt 8) (tt 10))]
abbrev c_spec_l03Column_3 : List GOp := [oo 14 (.mv (tt 0)), oo 15 (.mv (tt 7)), oo 16 (.ia 1 (tt 14) (tt 15)), oo 17 (.ld (tt 16)), oo 18 (.mv (tt 2)), oo 19 (.bin .sub (tt 18) (ci 1)), oo 20 (.call (ff 129) [tt 17, (ci 0), tt 19]), oo 21 (.un .not (tt 20))]
abbrev c_spec_l03Column_4 : List GOp := [oo 6 (.mv (cb  false))]
abbrev c_spec_l03Column_5 : List GOp := [oo 12 (.mv (tt 7)), oo 13 (.bin .add (tt 12) (ci 1)), oo 7 (.mv (tt 13))]
abbrev c_spec_l03Column_l0 : GCode := .seq (.seq (.reg c_spec_l03Column_2) (.cond (tt 11) (.skip) (.exit 0))) (.seq (.blk 1 (.seq (.reg c_spec_l03Column_3) (.cond (tt 21) (.seq (.reg c_spec_l03Column_4) (.ret)) (.skip)))) (.reg c_spec_l03Column_5))
abbrev c_spec_l03Column_7 : List GOp := [oo 22 (.mv (tt 0)), oo 23 (.len (tt 22)), oo 24 (.mv (tt 1)), oo 25 (.bin .eql (tt 23) (tt 24)), oo 6 (.mv (tt 25))]
abbrev c_spec_l03Column : GCode := .seq (.reg c_spec_l03Column_0) (.seq (.seq (.reg c_spec_l03Column_1) (.blk 0 (.loop c_spec_l03Column_l0))) (.seq (.reg c_spec_l03Column_7) (.ret)))
theorem c_spec_l03Column_d : decFn Tryz.prog Tryz.f92 = some (26, [.t 6], c_spec_l03Column) := by kernel_rfl
theorem c_spec_l03Column_i {args : List Value} {G : GH} {K : Value → GH → Prop} (hn : args.length ≤ 26) (h : gW Tryz.prog c_spec_l03Column (RetK [.t 6] K) (T0 args) G) : GC Tryz.prog 92 args G K := GC_intro mixed Tryz.func92 c_spec_l03Column_d hn h
abbrev c_spec_l03Ok_0 : List GOp := [oo 2 (.mv (cb  false))]
abbrev c_spec_l03Ok_1 : List DOp := [dl 0 (oo 3 (.mv (tt 0))), dl 1 (oo 4 (.nc (tt 3))), dl 2 (oo 5 (.fa 0 (tt 4))), dl 3 (oo 6 (.ld (tt 5))), dh 4 [] (oo 7 (.call (ff 142) [tt 6])), dl 5 (oo 8 (.mv (tt 7))), dl 6 (og 9 8 true (.mv (tt 0))), dl 7 (og 10 8 true (.nc (tt 9))), dl 8 (og 11 8 true (.fa 1 (tt 10))), dl 9 (og 12 8 true (.ld (tt 11))), dh 10 [3] (og 13 8 true (.call (ff 129) [tt 12, (ci 0), (ci 32)])), dl 11 (oo 14 (.pick (tt 8) (tt 13) (cb  false))), dl 12 (oo 15 (.mv (tt 14))), dl 13 (og 16 15 true (.mv (tt 0))), dl 14 (og 17 15 true (.nc (tt 16))), dl 15 (og 18 15 true (.fa 2 (tt 17))), dl 16 (og 19 15 true (.ld (tt 18))), dh 17 [9, 3] (og 20 15 true (.call (ff 129) [tt 19, (ci 0), (ci 32)])), dl 18 (oo 21 (.pick (tt 15) (tt 20) (cb  false))), dl 19 (oo 22 (.mv (tt 21))), dl 20 (og 23 22 true (.mv (tt 0))), dl 21 (og 24 22 true (.nc (tt 23))), dl 22 (og 25 22 true (.fa 3 (tt 24))), dl 23 (og 26 22 true (.ld (tt 25))), dl 24 (og 27 22 true (.mv (tt 0))), dl 25 (og 28 22 true (.nc (tt 27))), dl 26 (og 29 22 true (.fa 1 (tt 28))), dl 27 (og 30 22 true (.ld (tt 29))), dl 28 (og 31 22 true (.mv (tt 0))), dl 29 (og 32 22 true (.nc (tt 31))), dl 30 (og 33 22 true (.fa 2 (tt 32))), dl 31 (og 34 22 true (.ld (tt 33))), dl 32 (og 35 22 true (.bin .mul (tt 30) (tt 34))), dl 33 (og 36 22 true (.mv (tt 0))), dl 34 (og 37 22 true (.nc (tt 36))), dl 35 (og 38 22 true (.fa 0 (tt 37))), dl 36 (og 39 22 true (.ld (tt 38))), dh 37 [31, 27, 16, 9, 3] (og 40 22 true (.call (ff 92) [tt 26, tt 35, tt 39])), dl 38 (oo 41 (.pick (tt 22) (tt 40) (cb  false))), dl 39 (oo 2 (.mv (tt 41)))]
abbrev c_spec_l03Ok : GCode := .seq (.reg c_spec_l03Ok_0) (.seq (.dreg c_spec_l03Ok_1) (.ret))
theorem c_spec_l03Ok_d : decFn Tryz.prog Tryz.f177 = some (42, [.t 2], c_spec_l03Ok) := by kernel_rfl
theorem c_spec_l03Ok_i {args : List Value} {G : GH} {K : Value → GH → Prop} (hn : args.length ≤ 42) (h : gW Tryz.prog c_spec_l03Ok (RetK [.t 2] K) (T0 args) G) : GC Tryz.prog 177 args G K := GC_intro mixed Tryz.func177 c_spec_l03Ok_d hn h
abbrev c_spec_l03Same_0 : List GOp := [oo 4 (.mv (cb  false))]
abbrev c_spec_l03Same_1 : List DOp := [dl 0 (oo 6 (.mv (tt 0))), dl 1 (oo 7 (.nc (tt 6))), dl 2 (oo 8 (.fa 0 (tt 7))), dl 3 (oo 9 (.ld (tt 8))), dl 4 (oo 10 (.mv (tt 1))), dl 5 (oo 11 (.nc (tt 10))), dl 6 (oo 12 (.fa 0 (tt 11))), dl 7 (oo 13 (.ld (tt 12))), dl 8 (oo 14 (.bin .neq (tt 9) (tt 13))), dl 9 (oo 15 (.mv (tt 14))), dl 10 (og 16 15 false (.mv (tt 0))), dl 11 (og 17 15 false (.nc (tt 16))), dl 12 (og 18 15 false (.fa 1 (tt 17))), dl 13 (og 19 15 false (.ld (tt 18))), dl 14 (og 20 15 false (.mv (tt 1))), dl 15 (og 21 15 false (.nc (tt 20))), dl 16 (og 22 15 false (.fa 1 (tt 21))), dl 17 (og 23 15 false (.ld (tt 22))), dl 18 (og 24 15 false (.bin .neq (tt 19) (tt 23))), dl 19 (oo 25 (.pick (tt 15) (cb  true) (tt 24))), dl 20 (oo 26 (.mv (tt 25))), dl 21 (og 27 26 false (.mv (tt 0))), dl 22 (og 28 26 false (.nc (tt 27))), dl 23 (og 29 26 false (.fa 2 (tt 28))), dl 24 (og 30 26 false (.ld (tt 29))), dl 25 (og 31 26 false (.mv (tt 1))), dl 26 (og 32 26 false (.nc (tt 31))), dl 27 (og 33 26 false (.fa 2 (tt 32))), dl 28 (og 34 26 false (.ld (tt 33))), dl 29 (og 35 26 false (.bin .neq (tt 30) (tt 34))), dl 30 (oo 36 (.pick (tt 26) (cb  true) (tt 35))), dl 31 (oo 37 (.mv (tt 36))), dl 32 (og 38 37 false (.mv (tt 0))), dl 33 (og 39 37 false (.nc (tt 38))), dl 34 (og 40 37 false (.fa 3 (tt 39))), dl 35 (og 41 37 false (.ld (tt 40))), dl 36 (og 42 37 false (.len (tt 41))), dl 37 (og 43 37 false (.mv (tt 1))), dl 38 (og 44 37 false (.nc (tt 43))), dl 39 (og 45 37 false (.fa 3 (tt 44))), dl 40 (og 46 37 false (.ld (tt 45))), dl 41 (og 47 37 false (.len (tt 46))), dl 42 (og 48 37 false (.bin .neq (tt 42) (tt 47))), dl 43 (oo 49 (.pick (tt 37) (cb  true) (tt 48)))]
abbrev c_spec_l03Same_2 : List GOp := [oo 4 (.mv (cb  false))]
abbrev c_spec_l03Same_3 : List GOp := [oo 5 (.mv (ci 0))]
abbrev c_spec_l03Same_4 : List GOp := [oo 50 (.mv (tt 5)), oo 51 (.mv (tt 0)), oo 52 (.nc (tt 51)), oo 53 (.fa 3 (tt 52)), oo 54 (.ld (tt 53)), oo 55 (.len (tt 54)), oo 56 (.bin .lss (tt 50) (tt 55))]
abbrev c_spec_l03Same_5 : List DOp := [dl 0 (oo 59 (.mv (tt 0))), dl 1 (oo 60 (.nc (tt 59))), dl 2 (oo 61 (.fa 3 (tt 60))), dl 3 (oo 62 (.ld (tt 61))), dl 4 (oo 63 (.mv (tt 5))), dl 5 (oo 64 (.ia 1 (tt 62) (tt 63))), dl 6 (oo 65 (.ld (tt 64))), dl 7 (oo 66 (.mv (tt 1))), dl 8 (oo 67 (.nc (tt 66))), dl 9 (oo 68 (.fa 3 (tt 67))), dl 10 (oo 69 (.ld (tt 68))), dl 11 (oo 70 (.mv (tt 5))), dl 12 (oo 71 (.ia 1 (tt 69) (tt 70))), dl 13 (oo 72 (.ld (tt 71))), dl 14 (oo 73 (.bin .neq (tt 65) (tt 72)))]
abbrev c_spec_l03Same_6 : List GOp := [oo 4 (.mv (cb  false))]
abbrev c_spec_l03Same_7 : List GOp := [oo 57 (.mv (tt 5)), oo 58 (.bin .add (tt 57) (ci 1)), oo 5 (.mv (tt 58))]
abbrev c_spec_l03Same_l0 : GCode := .seq (.seq (.reg c_spec_l03Same_4) (.cond (tt 56) (.skip) (.exit 0))) (.seq (.blk 1 (.seq (.dreg c_spec_l03Same_5) (.cond (tt 73) (.seq (.reg c_spec_l03Same_6) (.ret)) (.skip)))) (.reg c_spec_l03Same_7))
abbrev c_spec_l03Same_9 : List GOp := [oo 4 (.mv (cb  true))]
abbrev c_spec_l03Same : GCode := .seq (.reg c_spec_l03Same_0) (.seq (.seq (.dreg c_spec_l03Same_1) (.cond (tt 49) (.seq (.reg c_spec_l03Same_2) (.ret)) (.skip))) (.seq (.seq (.reg c_spec_l03Same_3) (.blk 0 (.loop c_spec_l03Same_l0))) (.seq (.reg c_spec_l03Same_9) (.ret))))
theorem c_spec_l03Same_d : decFn Tryz.prog Tryz.f200 = some (74, [.t 4], c_spec_l03Same) := by kernel_rfl
theorem c_spec_l03Same_i {args : List Value} {G : GH} {K : Value → GH → Prop} (hn : args.length ≤ 74) (h : gW Tryz.prog c_spec_l03Same (RetK [.t 4] K) (T0 args) G) : GC Tryz.prog 200 args G K := GC_intro mixed Tryz.func200 c_spec_l03Same_d hn h
abbrev c_spec_l03Times_0 : List GOp := [oo 4 (.al [.int .i64 0, .int .i64 0, .int .i64 0, .slice none 0 0])]
abbrev c_spec_l03Times_1 : DT := (.path [dl 0 (oo 10 (.mv (tt 0)))] (.path [dl 1 (oo 11 (.nc (tt 10)))] (.path [dl 2 (oo 12 (.fa 0 (tt 11)))] (.path [dl 3 (oo 13 (.ld (tt 12)))] (.path [dl 4 (oo 14 (.mv (tt 0)))] (.path [dl 5 (oo 15 (.nc (tt 14)))] (.path [dl 6 (oo 16 (.fa 1 (tt 15)))] (.path [dl 7 (oo 17 (.ld (tt 16)))] (.path [dl 8 (oo 18 (.mv (tt 1)))] (.path [dl 9 (oo 19 (.nc (tt 18)))] (.path [dl 10 (oo 20 (.fa 2 (tt 19)))] (.path [dl 11 (oo 21 (.ld (tt 20)))] (.both (.path [dh 12 [] (oo 22 (.call (ff 120) [tt 13, tt 17, tt 21]))] (.path [dh 13 [11, 7, 3] (oo 5 (.al [.int .i64 0, .int .i64 0, .int .i64 0, .slice none 0 0]))] (.path [dh 14 [] (on (.st 4 (tt 5) (tt 22)))] .fin))) (.path [dh 13 [11, 7, 3] (oo 5 (.al [.int .i64 0, .int .i64 0, .int .i64 0, .slice none 0 0]))] (.path [dh 12 [] (oo 22 (.call (ff 120) [tt 13, tt 17, tt 21]))] (.path [dh 14 [] (on (.st 4 (tt 5) (tt 22)))] .fin))))))))))))))))
abbrev c_spec_l03Times_2 : List GOp := [oo 6 (.mv (ci 0))]
abbrev c_spec_l03Times_3 : List GOp := [oo 23 (.mv (tt 6)), oo 24 (.mv (tt 0)), oo 25 (.nc (tt 24)), oo 26 (.fa 1 (tt 25)), oo 27 (.ld (tt 26)), oo 28 (.bin .lss (tt 23) (tt 27))]
abbrev c_spec_l03Times_4 : List GOp := [oo 7 (.mv (ci 0))]
abbrev c_spec_l03Times_5 : List GOp := [oo 31 (.mv (tt 7)), oo 32 (.mv (tt 1)), oo 33 (.nc (tt 32)), oo 34 (.fa 2 (tt 33)), oo 35 (.ld (tt 34)), oo 36 (.bin .lss (tt 31) (tt 35))]
abbrev c_spec_l03Times_6 : List GOp := [oo 8 (.mv (ci 0))]
abbrev c_spec_l03Times_7 : List GOp := [oo 9 (.mv (ci 0))]
abbrev c_spec_l03Times_8 : List GOp := [oo 39 (.mv (tt 9)), oo 40 (.mv (tt 0)), oo 41 (.nc (tt 40)), oo 42 (.fa 2 (tt 41)), oo 43 (.ld (tt 42)), oo 44 (.bin .lss (tt 39) (tt 43))]
abbrev c_spec_l03Times_9 : List DOp := [dl 0 (oo 47 (.mv (tt 8))), dl 1 (oo 48 (.mv (tt 0))), dl 2 (oo 49 (.nc (tt 48))), dl 3 (oo 50 (.fa 3 (tt 49))), dl 4 (oo 51 (.ld (tt 50))), dl 5 (oo 52 (.mv (tt 6))), dl 6 (oo 53 (.mv (tt 0))), dl 7 (oo 54 (.nc (tt 53))), dl 8 (oo 55 (.fa 2 (tt 54))), dl 9 (oo 56 (.ld (tt 55))), dl 10 (oo 57 (.bin .mul (tt 52) (tt 56))), dl 11 (oo 58 (.mv (tt 9))), dl 12 (oo 59 (.bin .add (tt 57) (tt 58))), dl 13 (oo 60 (.ia 1 (tt 51) (tt 59))), dl 14 (oo 61 (.ld (tt 60))), dl 15 (oo 62 (.mv (tt 1))), dl 16 (oo 63 (.nc (tt 62))), dl 17 (oo 64 (.fa 3 (tt 63))), dl 18 (oo 65 (.ld (tt 64))), dl 19 (oo 66 (.mv (tt 9))), dl 20 (oo 67 (.mv (tt 1))), dl 21 (oo 68 (.nc (tt 67))), dl 22 (oo 69 (.fa 2 (tt 68))), dl 23 (oo 70 (.ld (tt 69))), dl 24 (oo 71 (.bin .mul (tt 66) (tt 70))), dl 25 (oo 72 (.mv (tt 7))), dl 26 (oo 73 (.bin .add (tt 71) (tt 72))), dl 27 (oo 74 (.ia 1 (tt 65) (tt 73))), dl 28 (oo 75 (.ld (tt 74))), dl 29 (oo 76 (.bin .mul (tt 61) (tt 75))), dl 30 (oo 77 (.bin .add (tt 47) (tt 76))), dl 31 (oo 8 (.mv (tt 77)))]
abbrev c_spec_l03Times_10 : List GOp := [oo 45 (.mv (tt 9)), oo 46 (.bin .add (tt 45) (ci 1)), oo 9 (.mv (tt 46))]
abbrev c_spec_l03Times_l0 : GCode := .seq (.seq (.reg c_spec_l03Times_8) (.cond (tt 44) (.skip) (.exit 4))) (.seq (.blk 5 (.dreg c_spec_l03Times_9)) (.reg c_spec_l03Times_10))
abbrev c_spec_l03Times_12 : List DOp := [dl 0 (oo 78 (.fa 3 (tt 5))), dl 1 (oo 79 (.ld (tt 78))), dl 2 (oo 80 (.mv (tt 6))), dl 3 (oo 81 (.mv (tt 1))), dl 4 (oo 82 (.nc (tt 81))), dl 5 (oo 83 (.fa 2 (tt 82))), dl 6 (oo 84 (.ld (tt 83))), dl 7 (oo 85 (.bin .mul (tt 80) (tt 84))), dl 8 (oo 86 (.mv (tt 7))), dl 9 (oo 87 (.bin .add (tt 85) (tt 86))), dl 10 (oo 88 (.mv (tt 8))), dl 11 (oo 89 (.mv (tt 0))), dl 12 (oo 90 (.nc (tt 89))), dl 13 (oo 91 (.fa 0 (tt 90))), dl 14 (oo 92 (.ld (tt 91))), dl 15 (oo 93 (.bin .rem (tt 88) (tt 92))), dl 16 (oo 94 (.ia 1 (tt 79) (tt 87))), dh 17 [] (on (.st 1 (tt 94) (tt 93)))]
abbrev c_spec_l03Times_13 : List GOp := [oo 37 (.mv (tt 7)), oo 38 (.bin .add (tt 37) (ci 1)), oo 7 (.mv (tt 38))]
abbrev c_spec_l03Times_l1 : GCode := .seq (.seq (.reg c_spec_l03Times_5) (.cond (tt 36) (.skip) (.exit 2))) (.seq (.blk 3 (.seq (.reg c_spec_l03Times_6) (.seq (.seq (.reg c_spec_l03Times_7) (.blk 4 (.loop c_spec_l03Times_l0))) (.dreg c_spec_l03Times_12)))) (.reg c_spec_l03Times_13))
abbrev c_spec_l03Times_15 : List GOp := [oo 29 (.mv (tt 6)), oo 30 (.bin .add (tt 29) (ci 1)), oo 6 (.mv (tt 30))]
abbrev c_spec_l03Times_l2 : GCode := .seq (.seq (.reg c_spec_l03Times_3) (.cond (tt 28) (.skip) (.exit 0))) (.seq (.blk 1 (.seq (.reg c_spec_l03Times_4) (.blk 2 (.loop c_spec_l03Times_l1)))) (.reg c_spec_l03Times_15))
abbrev c_spec_l03Times_17 : List GOp := [oo 95 (.ldn 4 (tt 5)), on (.st 4 (tt 4) (tt 95))]
abbrev c_spec_l03Times : GCode := .seq (.reg c_spec_l03Times_0) (.seq (.dtree c_spec_l03Times_1) (.seq (.seq (.reg c_spec_l03Times_2) (.blk 0 (.loop c_spec_l03Times_l2))) (.seq (.reg c_spec_l03Times_17) (.ret))))
theorem c_spec_l03Times_d : decFn Tryz.prog Tryz.f173 = some (96, [.cn 4 4], c_spec_l03Times) := by kernel_rfl
theorem c_spec_l03Times_i {args : List Value} {G : GH} {K : Value → GH → Prop} (hn : args.length ≤ 96) (h : gW Tryz.prog c_spec_l03Times (RetK [.cn 4 4] K) (T0 args) G) : GC Tryz.prog 173 args G K := GC_intro mixed Tryz.func173 c_spec_l03Times_d hn h
abbrev c_spec_l03Zero_0 : List GOp := [oo 6 (.al [.int .i64 0, .int .i64 0, .int .i64 0, .slice none 0 0])]
abbrev c_spec_l03Zero_1 : List GOp := [oo 7 (.mv (tt 0)), oo 8 (.mv (tt 1)), oo 9 (.mv (tt 2)), oo 10 (.mv (tt 1)), oo 11 (.mv (tt 2)), oo 12 (.bin .mul (tt 10) (tt 11)), oo 13 (.mk 1 8 [.int .i64 0] (tt 12) (tt 12)), oo 14 (.bld [.int .i64 0, .int .i64 0, .int .i64 0, .slice none 0 0] [(0, 1, (tt 7)), (1, 1, (tt 8)), (2, 1, (tt 9)), (3, 1, (tt 13))]), on (.st 4 (tt 6) (tt 14))]
abbrev c_spec_l03Zero : GCode := .seq (.reg c_spec_l03Zero_0) (.seq (.reg c_spec_l03Zero_1) (.ret))
theorem c_spec_l03Zero_d : decFn Tryz.prog Tryz.f120 = some (15, [.cn 6 4], c_spec_l03Zero) := by kernel_rfl
theorem c_spec_l03Zero_i {args : List Value} {G : GH} {K : Value → GH → Prop} (hn : args.length ≤ 15) (h : gW Tryz.prog c_spec_l03Zero (RetK [.cn 6 4] K) (T0 args) G) : GC Tryz.prog 120 args G K := GC_intro mixed Tryz.func120 c_spec_l03Zero_d hn h
abbrev c_spec_l05Before_0 : List GOp := [oo 4 (.mv (cb  false))]
abbrev c_spec_l05Before_1 : List GOp := [oo 6 (.mv (tt 0)), oo 7 (.len (tt 6)), oo 8 (.mv (tt 1)), oo 9 (.len (tt 8)), oo 10 (.bin .neq (tt 7) (tt 9))]
abbrev c_spec_l05Before_2 : List GOp := [oo 11 (.mv (tt 0)), oo 12 (.len (tt 11)), oo 13 (.mv (tt 1)), oo 14 (.len (tt 13)), oo 15 (.bin .lss (tt 12) (tt 14)), oo 4 (.mv (tt 15))]
abbrev c_spec_l05Before_3 : List GOp := [oo 5 (.mv (ci 0))]
abbrev c_spec_l05Before_4 : List GOp := [oo 16 (.mv (tt 5)), oo 17 (.mv (tt 0)), oo 18 (.len (tt 17)), oo 19 (.bin .lss (tt 16) (tt 18))]
abbrev c_spec_l05Before_5 : List DOp := [dl 0 (oo 22 (.mv (tt 0))), dl 1 (oo 23 (.mv (tt 5))), dl 2 (oo 24 (.ia 1 (tt 22) (tt 23))), dl 3 (oo 25 (.ld (tt 24))), dl 4 (oo 26 (.mv (tt 1))), dl 5 (oo 27 (.mv (tt 5))), dl 6 (oo 28 (.ia 1 (tt 26) (tt 27))), dl 7 (oo 29 (.ld (tt 28))), dl 8 (oo 30 (.bin .neq (tt 25) (tt 29)))]
abbrev c_spec_l05Before_6 : List DOp := [dl 0 (oo 31 (.mv (tt 0))), dl 1 (oo 32 (.mv (tt 5))), dl 2 (oo 33 (.ia 1 (tt 31) (tt 32))), dl 3 (oo 34 (.ld (tt 33))), dl 4 (oo 35 (.mv (tt 1))), dl 5 (oo 36 (.mv (tt 5))), dl 6 (oo 37 (.ia 1 (tt 35) (tt 36))), dl 7 (oo 38 (.ld (tt 37))), dl 8 (oo 39 (.bin .lss (tt 34) (tt 38))), dl 9 (oo 4 (.mv (tt 39)))]
abbrev c_spec_l05Before_7 : List GOp := [oo 20 (.mv (tt 5)), oo 21 (.bin .add (tt 20) (ci 1)), oo 5 (.mv (tt 21))]
abbrev c_spec_l05Before_l0 : GCode := .seq (.seq (.reg c_spec_l05Before_4) (.cond (tt 19) (.skip) (.exit 0))) (.seq (.blk 1 (.seq (.dreg c_spec_l05Before_5) (.cond (tt 30) (.seq (.dreg c_spec_l05Before_6) (.ret)) (.skip)))) (.reg c_spec_l05Before_7))
abbrev c_spec_l05Before_9 : List GOp := [oo 4 (.mv (cb  false))]
abbrev c_spec_l05Before : GCode := .seq (.reg c_spec_l05Before_0) (.seq (.seq (.reg c_spec_l05Before_1) (.cond (tt 10) (.seq (.reg c_spec_l05Before_2) (.ret)) (.skip))) (.seq (.seq (.reg c_spec_l05Before_3) (.blk 0 (.loop c_spec_l05Before_l0))) (.seq (.reg c_spec_l05Before_9) (.ret))))
theorem c_spec_l05Before_d : decFn Tryz.prog Tryz.f139 = some (40, [.t 4], c_spec_l05Before) := by kernel_rfl
theorem c_spec_l05Before_i {args : List Value} {G : GH} {K : Value → GH → Prop} (hn : args.length ≤ 40) (h : gW Tryz.prog c_spec_l05Before (RetK [.t 4] K) (T0 args) G) : GC Tryz.prog 139 args G K := GC_intro mixed Tryz.func139 c_spec_l05Before_d hn h
abbrev c_spec_l05Dimension_0 : List GOp := [oo 2 (.mv (cb  false))]
abbrev c_spec_l05Dimension_1 : List GOp := [oo 3 (.mv (tt 0)), oo 4 (.call (ff 129) [tt 3, (ci 0), (ci 3)]), oo 2 (.mv (tt 4))]
abbrev c_spec_l05Dimension : GCode := .seq (.reg c_spec_l05Dimension_0) (.seq (.reg c_spec_l05Dimension_1) (.ret))
theorem c_spec_l05Dimension_d : decFn Tryz.prog Tryz.f82 = some (5, [.t 2], c_spec_l05Dimension) := by kernel_rfl
theorem c_spec_l05Dimension_i {args : List Value} {G : GH} {K : Value → GH → Prop} (hn : args.length ≤ 5) (h : gW Tryz.prog c_spec_l05Dimension (RetK [.t 2] K) (T0 args) G) : GC Tryz.prog 82 args G K := GC_intro mixed Tryz.func82 c_spec_l05Dimension_d hn h
abbrev c_spec_l05Drop_0 : List GOp := [oo 4 (.mv (.const (.slice none 0 0)))]
abbrev c_spec_l05Drop_1 : List GOp := [oo 6 (.mv (tt 0)), oo 7 (.mv (tt 1)), oo 8 (.sl 1 (tt 6) none (some (tt 7))), oo 9 (.call (ff 72) [tt 8]), oo 5 (.mv (tt 9))]
abbrev c_spec_l05Drop_2 : List GOp := [oo 10 (.mv (tt 5)), oo 11 (.mv (tt 0)), oo 12 (.mv (tt 1)), oo 13 (.bin .add (tt 12) (ci 1)), oo 14 (.sl 1 (tt 11) (some (tt 13)) none), oo 15 (.ap 1 8 [.int .i64 0] (tt 10) (tt 14)), oo 4 (.mv (tt 15))]
abbrev c_spec_l05Drop : GCode := .seq (.reg c_spec_l05Drop_0) (.seq (.reg c_spec_l05Drop_1) (.seq (.reg c_spec_l05Drop_2) (.ret)))
theorem c_spec_l05Drop_d : decFn Tryz.prog Tryz.f141 = some (16, [.t 4], c_spec_l05Drop) := by kernel_rfl
theorem c_spec_l05Drop_i {args : List Value} {G : GH} {K : Value → GH → Prop} (hn : args.length ≤ 16) (h : gW Tryz.prog c_spec_l05Drop (RetK [.t 4] K) (T0 args) G) : GC Tryz.prog 141 args G K := GC_intro mixed Tryz.func141 c_spec_l05Drop_d hn h
abbrev c_spec_l05Faces_0 : List GOp := [oo 4 (.mv (.const (.slice none 0 0)))]
abbrev c_spec_l05Faces_1 : List GOp := [oo 8 (.mv (tt 0)), oo 9 (.nc (tt 8)), oo 10 (.fa 0 (tt 9)), oo 11 (.ld (tt 10)), oo 12 (.mv (tt 1)), oo 13 (.ia 1 (tt 11) (tt 12)), oo 14 (.ld (tt 13)), oo 5 (.mv (tt 14))]
abbrev c_spec_l05Faces_2 : List GOp := [oo 15 (.bs 1 []), oo 6 (.mv (tt 15))]
abbrev c_spec_l05Faces_3 : List GOp := [oo 7 (.mv (ci 0))]
abbrev c_spec_l05Faces_4 : List GOp := [oo 16 (.mv (tt 7)), oo 17 (.mv (tt 5)), oo 18 (.len (tt 17)), oo 19 (.bin .lss (tt 16) (tt 18)), oo 20 (.mv (tt 19)), og 21 20 true (.mv (tt 5)), og 22 20 true (.len (tt 21)), og 23 20 true (.bin .gtr (tt 22) (ci 1)), oo 24 (.pick (tt 20) (tt 23) (cb  false))]
abbrev c_spec_l05Faces_5 : List GOp := [oo 27 (.mv (tt 6)), oo 28 (.mv (tt 0)), oo 29 (.mv (tt 5)), oo 30 (.mv (tt 7)), oo 31 (.call (ff 141) [tt 29, tt 30]), oo 32 (.call (ff 140) [tt 28, tt 31]), oo 33 (.bs 1 [tt 32]), oo 34 (.ap 1 8 [.int .i64 0] (tt 27) (tt 33)), oo 6 (.mv (tt 34))]
abbrev c_spec_l05Faces_6 : List GOp := [oo 25 (.mv (tt 7)), oo 26 (.bin .add (tt 25) (ci 1)), oo 7 (.mv (tt 26))]
abbrev c_spec_l05Faces_l0 : GCode := .seq (.seq (.reg c_spec_l05Faces_4) (.cond (tt 24) (.skip) (.exit 0))) (.seq (.blk 1 (.reg c_spec_l05Faces_5)) (.reg c_spec_l05Faces_6))
abbrev c_spec_l05Faces_8 : List GOp := [oo 35 (.mv (tt 6)), oo 4 (.mv (tt 35))]
abbrev c_spec_l05Faces : GCode := .seq (.reg c_spec_l05Faces_0) (.seq (.reg c_spec_l05Faces_1) (.seq (.reg c_spec_l05Faces_2) (.seq (.seq (.reg c_spec_l05Faces_3) (.blk 0 (.loop c_spec_l05Faces_l0))) (.seq (.reg c_spec_l05Faces_8) (.ret)))))
theorem c_spec_l05Faces_d : decFn Tryz.prog Tryz.f149 = some (36, [.t 4], c_spec_l05Faces) := by kernel_rfl
theorem c_spec_l05Faces_i {args : List Value} {G : GH} {K : Value → GH → Prop} (hn : args.length ≤ 36) (h : gW Tryz.prog c_spec_l05Faces (RetK [.t 4] K) (T0 args) G) : GC Tryz.prog 149 args G K := GC_intro mixed Tryz.func149 c_spec_l05Faces_d hn h
abbrev c_spec_l05Find_0 : List GOp := [oo 4 (.mv (ci 0))]
abbrev c_spec_l05Find_1 : List GOp := [oo 5 (.mv (ci 0))]
abbrev c_spec_l05Find_2 : List GOp := [oo 6 (.mv (tt 5)), oo 7 (.mv (tt 0)), oo 8 (.nc (tt 7)), oo 9 (.fa 0 (tt 8)), oo 10 (.ld (tt 9)), oo 11 (.len (tt 10)), oo 12 (.bin .lss (tt 6) (tt 11))]
abbrev c_spec_l05Find_3 : List GOp := [oo 15 (.mv (tt 0)), oo 16 (.nc (tt 15)), oo 17 (.fa 0 (tt 16)), oo 18 (.ld (tt 17)), oo 19 (.mv (tt 5)), oo 20 (.ia 1 (tt 18) (tt 19)), oo 21 (.ld (tt 20)), oo 22 (.mv (tt 1)), oo 23 (.call (ff 175) [tt 21, tt 22])]
abbrev c_spec_l05Find_4 : List GOp := [oo 24 (.mv (tt 5)), oo 4 (.mv (tt 24))]
abbrev c_spec_l05Find_5 : List GOp := [oo 13 (.mv (tt 5)), oo 14 (.bin .add (tt 13) (ci 1)), oo 5 (.mv (tt 14))]
abbrev c_spec_l05Find_l0 : GCode := .seq (.seq (.reg c_spec_l05Find_2) (.cond (tt 12) (.skip) (.exit 0))) (.seq (.blk 1 (.seq (.reg c_spec_l05Find_3) (.cond (tt 23) (.seq (.reg c_spec_l05Find_4) (.ret)) (.skip)))) (.reg c_spec_l05Find_5))
abbrev c_spec_l05Find_7 : List GOp := [oo 4 (.mv (ci (-1)))]
abbrev c_spec_l05Find : GCode := .seq (.reg c_spec_l05Find_0) (.seq (.seq (.reg c_spec_l05Find_1) (.blk 0 (.loop c_spec_l05Find_l0))) (.seq (.reg c_spec_l05Find_7) (.ret)))
theorem c_spec_l05Find_d : decFn Tryz.prog Tryz.f140 = some (25, [.t 4], c_spec_l05Find) := by kernel_rfl
theorem c_spec_l05Find_i {args : List Value} {G : GH} {K : Value → GH → Prop} (hn : args.length ≤ 25) (h : gW Tryz.prog c_spec_l05Find (RetK [.t 4] K) (T0 args) G) : GC Tryz.prog 140 args G K := GC_intro mixed Tryz.func140 c_spec_l05Find_d hn h
abbrev c_spec_l05Of_0 : List GOp := [oo 4 (.mv (.const (.slice none 0 0)))]
abbrev c_spec_l05Of_1 : List GOp := [oo 7 (.bs 1 []), oo 5 (.mv (tt 7))]
abbrev c_spec_l05Of_2 : List GOp := [oo 6 (.mv (ci 0))]
abbrev c_spec_l05Of_3 : List GOp := [oo 8 (.mv (tt 6)), oo 9 (.mv (tt 0)), oo 10 (.nc (tt 9)), oo 11 (.fa 0 (tt 10)), oo 12 (.ld (tt 11)), oo 13 (.len (tt 12)), oo 14 (.bin .lss (tt 8) (tt 13))]
abbrev c_spec_l05Of_4 : List GOp := [oo 17 (.mv (tt 0)), oo 18 (.nc (tt 17)), oo 19 (.fa 0 (tt 18)), oo 20 (.ld (tt 19)), oo 21 (.mv (tt 6)), oo 22 (.ia 1 (tt 20) (tt 21)), oo 23 (.ld (tt 22)), oo 24 (.len (tt 23)), oo 25 (.mv (tt 1)), oo 26 (.bin .add (tt 25) (ci 1)), oo 27 (.bin .eql (tt 24) (tt 26))]
abbrev c_spec_l05Of_5 : List GOp := [oo 28 (.mv (tt 5)), oo 29 (.mv (tt 6)), oo 30 (.bs 1 [tt 29]), oo 31 (.ap 1 8 [.int .i64 0] (tt 28) (tt 30)), oo 5 (.mv (tt 31))]
abbrev c_spec_l05Of_6 : List GOp := [oo 15 (.mv (tt 6)), oo 16 (.bin .add (tt 15) (ci 1)), oo 6 (.mv (tt 16))]
abbrev c_spec_l05Of_l0 : GCode := .seq (.seq (.reg c_spec_l05Of_3) (.cond (tt 14) (.skip) (.exit 0))) (.seq (.blk 1 (.seq (.reg c_spec_l05Of_4) (.cond (tt 27) (.reg c_spec_l05Of_5) (.skip)))) (.reg c_spec_l05Of_6))
abbrev c_spec_l05Of_8 : List GOp := [oo 32 (.mv (tt 5)), oo 4 (.mv (tt 32))]
abbrev c_spec_l05Of : GCode := .seq (.reg c_spec_l05Of_0) (.seq (.reg c_spec_l05Of_1) (.seq (.seq (.reg c_spec_l05Of_2) (.blk 0 (.loop c_spec_l05Of_l0))) (.seq (.reg c_spec_l05Of_8) (.ret))))
theorem c_spec_l05Of_d : decFn Tryz.prog Tryz.f70 = some (33, [.t 4], c_spec_l05Of) := by kernel_rfl
theorem c_spec_l05Of_i {args : List Value} {G : GH} {K : Value → GH → Prop} (hn : args.length ≤ 33) (h : gW Tryz.prog c_spec_l05Of (RetK [.t 4] K) (T0 args) G) : GC Tryz.prog 70 args G K := GC_intro mixed Tryz.func70 c_spec_l05Of_d hn h
abbrev c_spec_l05Ok_0 : List GOp := [oo 2 (.mv (cb  false))]
abbrev c_spec_l05Ok_1 : List GOp := [oo 6 (.mv (tt 0)), oo 7 (.nc (tt 6)), oo 8 (.fa 0 (tt 7)), oo 9 (.ld (tt 8)), oo 10 (.len (tt 9)), oo 11 (.bin .gtr (tt 10) (ci 48))]
abbrev c_spec_l05Ok_2 : List GOp := [oo 2 (.mv (cb  false))]
abbrev c_spec_l05Ok_3 : List GOp := [oo 3 (.mv (ci 0))]
abbrev c_spec_l05Ok_4 : List GOp := [oo 12 (.mv (tt 3)), oo 13 (.mv (tt 0)), oo 14 (.nc (tt 13)), oo 15 (.fa 0 (tt 14)), oo 16 (.ld (tt 15)), oo 17 (.len (tt 16)), oo 18 (.bin .lss (tt 12) (tt 17))]
abbrev c_spec_l05Ok_5 : List GOp := [oo 21 (.mv (tt 0)), oo 22 (.nc (tt 21)), oo 23 (.fa 0 (tt 22)), oo 24 (.ld (tt 23)), oo 25 (.mv (tt 3)), oo 26 (.ia 1 (tt 24) (tt 25)), oo 27 (.ld (tt 26)), oo 4 (.mv (tt 27))]
abbrev c_spec_l05Ok_6 : List GOp := [oo 28 (.mv (tt 4)), oo 29 (.call (ff 138) [tt 28]), oo 30 (.un .not (tt 29)), oo 31 (.mv (tt 30)), og 32 31 false (.mv (tt 3)), og 33 31 false (.bin .gtr (tt 32) (ci 0)), og 34 31 false (.mv (tt 33)), og 35 34 true (.mv (tt 0)), og 36 34 true (.nc (tt 35)), og 37 34 true (.fa 0 (tt 36)), og 38 34 true (.ld (tt 37)), og 39 34 true (.mv (tt 3)), og 40 34 true (.bin .sub (tt 39) (ci 1)), og 41 34 true (.ia 1 (tt 38) (tt 40)), og 42 34 true (.ld (tt 41)), og 43 34 true (.mv (tt 4)), og 44 34 true (.call (ff 139) [tt 42, tt 43]), og 45 34 true (.un .not (tt 44)), og 46 31 false (.pick (tt 34) (tt 45) (cb  false)), oo 47 (.pick (tt 31) (cb  true) (tt 46))]
abbrev c_spec_l05Ok_7 : List GOp := [oo 2 (.mv (cb  false))]
abbrev c_spec_l05Ok_8 : List GOp := [oo 5 (.mv (ci 0))]
abbrev c_spec_l05Ok_9 : List GOp := [oo 48 (.mv (tt 5)), oo 49 (.mv (tt 4)), oo 50 (.len (tt 49)), oo 51 (.bin .lss (tt 48) (tt 50)), oo 52 (.mv (tt 51)), og 53 52 true (.mv (tt 4)), og 54 52 true (.len (tt 53)), og 55 52 true (.bin .gtr (tt 54) (ci 1)), oo 56 (.pick (tt 52) (tt 55) (cb  false))]
abbrev c_spec_l05Ok_10 : List GOp := [oo 59 (.mv (tt 0)), oo 60 (.mv (tt 4)), oo 61 (.mv (tt 5)), oo 62 (.call (ff 141) [tt 60, tt 61]), oo 63 (.call (ff 140) [tt 59, tt 62]), oo 64 (.bin .lss (tt 63) (ci 0))]
abbrev c_spec_l05Ok_11 : List GOp := [oo 2 (.mv (cb  false))]
abbrev c_spec_l05Ok_12 : List GOp := [oo 57 (.mv (tt 5)), oo 58 (.bin .add (tt 57) (ci 1)), oo 5 (.mv (tt 58))]
abbrev c_spec_l05Ok_l0 : GCode := .seq (.seq (.reg c_spec_l05Ok_9) (.cond (tt 56) (.skip) (.exit 2))) (.seq (.blk 3 (.seq (.reg c_spec_l05Ok_10) (.cond (tt 64) (.seq (.reg c_spec_l05Ok_11) (.ret)) (.skip)))) (.reg c_spec_l05Ok_12))
abbrev c_spec_l05Ok_14 : List GOp := [oo 19 (.mv (tt 3)), oo 20 (.bin .add (tt 19) (ci 1)), oo 3 (.mv (tt 20))]
abbrev c_spec_l05Ok_l1 : GCode := .seq (.seq (.reg c_spec_l05Ok_4) (.cond (tt 18) (.skip) (.exit 0))) (.seq (.blk 1 (.seq (.reg c_spec_l05Ok_5) (.seq (.seq (.reg c_spec_l05Ok_6) (.cond (tt 47) (.seq (.reg c_spec_l05Ok_7) (.ret)) (.skip))) (.seq (.reg c_spec_l05Ok_8) (.blk 2 (.loop c_spec_l05Ok_l0)))))) (.reg c_spec_l05Ok_14))
abbrev c_spec_l05Ok_16 : List GOp := [oo 2 (.mv (cb  true))]
abbrev c_spec_l05Ok : GCode := .seq (.reg c_spec_l05Ok_0) (.seq (.seq (.reg c_spec_l05Ok_1) (.cond (tt 11) (.seq (.reg c_spec_l05Ok_2) (.ret)) (.skip))) (.seq (.seq (.reg c_spec_l05Ok_3) (.blk 0 (.loop c_spec_l05Ok_l1))) (.seq (.reg c_spec_l05Ok_16) (.ret))))
theorem c_spec_l05Ok_d : decFn Tryz.prog Tryz.f81 = some (65, [.t 2], c_spec_l05Ok) := by kernel_rfl
theorem c_spec_l05Ok_i {args : List Value} {G : GH} {K : Value → GH → Prop} (hn : args.length ≤ 65) (h : gW Tryz.prog c_spec_l05Ok (RetK [.t 2] K) (T0 args) G) : GC Tryz.prog 81 args G K := GC_intro mixed Tryz.func81 c_spec_l05Ok_d hn h
abbrev c_spec_l05Simplex_0 : List GOp := [oo 2 (.mv (cb  false))]
abbrev c_spec_l05Simplex_1 : List GOp := [oo 3 (.mv (tt 0)), oo 4 (.len (tt 3)), oo 5 (.call (ff 129) [tt 4, (ci 1), (ci 4)]), oo 6 (.mv (tt 5)), og 7 6 true (.mv (tt 0)), og 8 6 true (.call (ff 109) [tt 7, (ci 0), (ci 9)]), oo 9 (.pick (tt 6) (tt 8) (cb  false)), oo 2 (.mv (tt 9))]
abbrev c_spec_l05Simplex : GCode := .seq (.reg c_spec_l05Simplex_0) (.seq (.reg c_spec_l05Simplex_1) (.ret))
theorem c_spec_l05Simplex_d : decFn Tryz.prog Tryz.f138 = some (10, [.t 2], c_spec_l05Simplex) := by kernel_rfl
theorem c_spec_l05Simplex_i {args : List Value} {G : GH} {K : Value → GH → Prop} (hn : args.length ≤ 10) (h : gW Tryz.prog c_spec_l05Simplex (RetK [.t 2] K) (T0 args) G) : GC Tryz.prog 138 args G K := GC_intro mixed Tryz.func138 c_spec_l05Simplex_d hn h
abbrev c_spec_l07Null_0 : List GOp := [oo 2 (.mv (cb  false))]
abbrev c_spec_l07Null_1 : List GOp := [oo 3 (.mv (ci 0))]
abbrev c_spec_l07Null_2 : List GOp := [oo 4 (.mv (tt 3)), oo 5 (.mv (tt 0)), oo 6 (.len (tt 5)), oo 7 (.bin .lss (tt 4) (tt 6))]
abbrev c_spec_l07Null_3 : List GOp := [oo 10 (.mv (tt 0)), oo 11 (.mv (tt 3)), oo 12 (.ia 1 (tt 10) (tt 11)), oo 13 (.ld (tt 12)), oo 14 (.bin .neq (tt 13) (ci 0))]
abbrev c_spec_l07Null_4 : List GOp := [oo 2 (.mv (cb  false))]
abbrev c_spec_l07Null_5 : List GOp := [oo 8 (.mv (tt 3)), oo 9 (.bin .add (tt 8) (ci 1)), oo 3 (.mv (tt 9))]
abbrev c_spec_l07Null_l0 : GCode := .seq (.seq (.reg c_spec_l07Null_2) (.cond (tt 7) (.skip) (.exit 0))) (.seq (.blk 1 (.seq (.reg c_spec_l07Null_3) (.cond (tt 14) (.seq (.reg c_spec_l07Null_4) (.ret)) (.skip)))) (.reg c_spec_l07Null_5))
abbrev c_spec_l07Null_7 : List GOp := [oo 2 (.mv (cb  true))]
abbrev c_spec_l07Null : GCode := .seq (.reg c_spec_l07Null_0) (.seq (.seq (.reg c_spec_l07Null_1) (.blk 0 (.loop c_spec_l07Null_l0))) (.seq (.reg c_spec_l07Null_7) (.ret)))
theorem c_spec_l07Null_d : decFn Tryz.prog Tryz.f95 = some (15, [.t 2], c_spec_l07Null) := by kernel_rfl
theorem c_spec_l07Null_i {args : List Value} {G : GH} {K : Value → GH → Prop} (hn : args.length ≤ 15) (h : gW Tryz.prog c_spec_l07Null (RetK [.t 2] K) (T0 args) G) : GC Tryz.prog 95 args G K := GC_intro mixed Tryz.func95 c_spec_l07Null_d hn h
abbrev c_spec_l07Sign_0 : List GOp := [oo 4 (.mv (ci 0))]
abbrev c_spec_l07Sign_1 : List GOp := [oo 5 (.mv (tt 0)), oo 6 (.bin .rem (tt 5) (ci 2)), oo 7 (.bin .eql (tt 6) (ci 0))]
abbrev c_spec_l07Sign_2 : List GOp := [oo 8 (.mv (tt 1)), oo 9 (.bin .rem (ci 1) (tt 8)), oo 4 (.mv (tt 9))]
abbrev c_spec_l07Sign_3 : List GOp := [oo 10 (.mv (tt 1)), oo 11 (.bin .sub (tt 10) (ci 1)), oo 4 (.mv (tt 11))]
abbrev c_spec_l07Sign : GCode := .seq (.reg c_spec_l07Sign_0) (.seq (.seq (.reg c_spec_l07Sign_1) (.cond (tt 7) (.seq (.reg c_spec_l07Sign_2) (.ret)) (.skip))) (.seq (.reg c_spec_l07Sign_3) (.ret)))
theorem c_spec_l07Sign_d : decFn Tryz.prog Tryz.f151 = some (12, [.t 4], c_spec_l07Sign) := by kernel_rfl
theorem c_spec_l07Sign_i {args : List Value} {G : GH} {K : Value → GH → Prop} (hn : args.length ≤ 12) (h : gW Tryz.prog c_spec_l07Sign (RetK [.t 4] K) (T0 args) G) : GC Tryz.prog 151 args G K := GC_intro mixed Tryz.func151 c_spec_l07Sign_d hn h
abbrev c_spec_l09Count_0 : List GOp := [oo 2 (.mv (ci 0))]
abbrev c_spec_l09Count_1 : List GOp := [oo 3 (.mv (tt 0)), oo 4 (.mv (tt 0)), oo 5 (.nc (tt 4)), oo 6 (.fa 0 (tt 5)), oo 7 (.ld (tt 6)), oo 8 (.len (tt 7)), oo 9 (.call (ff 146) [tt 3, tt 8, (ci 0)]), oo 2 (.mv (tt 9))]
abbrev c_spec_l09Count : GCode := .seq (.reg c_spec_l09Count_0) (.seq (.reg c_spec_l09Count_1) (.ret))
theorem c_spec_l09Count_d : decFn Tryz.prog Tryz.f144 = some (10, [.t 2], c_spec_l09Count) := by kernel_rfl
theorem c_spec_l09Count_i {args : List Value} {G : GH} {K : Value → GH → Prop} (hn : args.length ≤ 10) (h : gW Tryz.prog c_spec_l09Count (RetK [.t 2] K) (T0 args) G) : GC Tryz.prog 144 args G K := GC_intro mixed Tryz.func144 c_spec_l09Count_d hn h
abbrev c_spec_l09Get_0 : List GOp := [oo 6 (.mv (.const (.pointer none)))]
abbrev c_spec_l09Get_1 : List DOp := [dl 0 (oo 7 (.mv (tt 0))), dl 1 (oo 8 (.nc (tt 7))), dl 2 (oo 9 (.fa 3 (tt 8))), dl 3 (oo 10 (.ld (tt 9))), dl 4 (oo 11 (.mv (tt 0))), dl 5 (oo 12 (.nc (tt 11))), dl 6 (oo 13 (.fa 0 (tt 12))), dl 7 (oo 14 (.mv (tt 1))), dl 8 (oo 15 (.mv (tt 2))), dh 9 [3] (oo 16 (.call (ff 146) [tt 13, tt 14, tt 15])), dl 10 (oo 17 (.ia 4 (tt 10) (tt 16))), dl 11 (oo 6 (.mv (tt 17)))]
abbrev c_spec_l09Get : GCode := .seq (.reg c_spec_l09Get_0) (.seq (.dreg c_spec_l09Get_1) (.ret))
theorem c_spec_l09Get_d : decFn Tryz.prog Tryz.f150 = some (18, [.t 6], c_spec_l09Get) := by kernel_rfl
theorem c_spec_l09Get_i {args : List Value} {G : GH} {K : Value → GH → Prop} (hn : args.length ≤ 18) (h : gW Tryz.prog c_spec_l09Get (RetK [.t 6] K) (T0 args) G) : GC Tryz.prog 150 args G K := GC_intro mixed Tryz.func150 c_spec_l09Get_d hn h
abbrev c_spec_l09Is_0 : List GOp := [oo 2 (.mv (cb  false))]
abbrev c_spec_l09Is_1 : List GOp := [oo 6 (.mv (tt 0)), oo 7 (.call (ff 83) [tt 6]), oo 8 (.un .not (tt 7))]
abbrev c_spec_l09Is_2 : List GOp := [oo 2 (.mv (cb  false))]
abbrev c_spec_l09Is_3 : List GOp := [oo 10 (.mv (tt 0)), oo 11 (.call (ff 178) [tt 10]), oo 9 (.mv (tt 11)), oo 12 (.ex 0 (tt 9)), oo 13 (.ex 1 (tt 9)), oo 14 (.ex 2 (tt 9)), oo 3 (.mv (tt 12)), oo 4 (.mv (tt 13)), oo 5 (.mv (tt 14))]
abbrev c_spec_l09Is_4 : List GOp := [oo 15 (.mv (tt 3)), oo 16 (.bin .lss (tt 15) (ci 0)), oo 2 (.mv (tt 16))]
abbrev c_spec_l09Is : GCode := .seq (.reg c_spec_l09Is_0) (.seq (.seq (.reg c_spec_l09Is_1) (.cond (tt 8) (.seq (.reg c_spec_l09Is_2) (.ret)) (.skip))) (.seq (.reg c_spec_l09Is_3) (.seq (.reg c_spec_l09Is_4) (.ret))))
theorem c_spec_l09Is_d : decFn Tryz.prog Tryz.f148 = some (17, [.t 2], c_spec_l09Is) := by kernel_rfl
theorem c_spec_l09Is_i {args : List Value} {G : GH} {K : Value → GH → Prop} (hn : args.length ≤ 17) (h : gW Tryz.prog c_spec_l09Is (RetK [.t 2] K) (T0 args) G) : GC Tryz.prog 148 args G K := GC_intro mixed Tryz.func148 c_spec_l09Is_d hn h
abbrev c_spec_l09Map_0 : List GOp := [oo 8 (.mv (cb  false))]
abbrev c_spec_l09Map_1 : List GOp := [oo 10 (.mv (tt 0)), oo 11 (.nc (tt 10)), oo 12 (.fa 0 (tt 11)), oo 13 (.mv (tt 1)), oo 14 (.call (ff 149) [tt 12, tt 13]), oo 15 (.mv (tt 2)), oo 16 (.ia 1 (tt 14) (tt 15)), oo 17 (.ld (tt 16)), oo 9 (.mv (tt 17))]
abbrev c_spec_l09Map_2 : List DOp := [dl 0 (oo 18 (.mv (tt 3))), dh 1 [] (oo 19 (.call (ff 177) [tt 18])), dl 2 (oo 20 (.mv (tt 19))), dl 3 (og 21 20 true (.mv (tt 3))), dl 4 (og 22 20 true (.nc (tt 21))), dl 5 (og 23 20 true (.fa 0 (tt 22))), dl 6 (og 24 20 true (.ld (tt 23))), dl 7 (og 25 20 true (.mv (tt 0))), dl 8 (og 26 20 true (.nc (tt 25))), dl 9 (og 27 20 true (.fa 1 (tt 26))), dl 10 (og 28 20 true (.ld (tt 27))), dl 11 (og 29 20 true (.bin .eql (tt 24) (tt 28))), dl 12 (oo 30 (.pick (tt 20) (tt 29) (cb  false))), dl 13 (oo 31 (.mv (tt 30))), dl 14 (og 32 31 true (.mv (tt 3))), dl 15 (og 33 31 true (.nc (tt 32))), dl 16 (og 34 31 true (.fa 1 (tt 33))), dl 17 (og 35 31 true (.ld (tt 34))), dl 18 (og 36 31 true (.mv (tt 0))), dl 19 (og 37 31 true (.nc (tt 36))), dl 20 (og 38 31 true (.fa 2 (tt 37))), dl 21 (og 39 31 true (.ld (tt 38))), dl 22 (og 40 31 true (.mv (tt 1))), dl 23 (og 41 31 true (.ia 1 (tt 39) (tt 40))), dl 24 (og 42 31 true (.ld (tt 41))), dl 25 (og 43 31 true (.bin .eql (tt 35) (tt 42))), dl 26 (oo 44 (.pick (tt 31) (tt 43) (cb  false))), dl 27 (oo 45 (.mv (tt 44))), dl 28 (og 46 45 true (.mv (tt 3))), dl 29 (og 47 45 true (.nc (tt 46))), dl 30 (og 48 45 true (.fa 2 (tt 47))), dl 31 (og 49 45 true (.ld (tt 48))), dl 32 (og 50 45 true (.mv (tt 0))), dl 33 (og 51 45 true (.nc (tt 50))), dl 34 (og 52 45 true (.fa 2 (tt 51))), dl 35 (og 53 45 true (.ld (tt 52))), dl 36 (og 54 45 true (.mv (tt 9))), dl 37 (og 55 45 true (.ia 1 (tt 53) (tt 54))), dl 38 (og 56 45 true (.ld (tt 55))), dl 39 (og 57 45 true (.bin .eql (tt 49) (tt 56))), dl 40 (oo 58 (.pick (tt 45) (tt 57) (cb  false))), dl 41 (oo 8 (.mv (tt 58)))]
abbrev c_spec_l09Map : GCode := .seq (.reg c_spec_l09Map_0) (.seq (.reg c_spec_l09Map_1) (.seq (.dreg c_spec_l09Map_2) (.ret)))
theorem c_spec_l09Map_d : decFn Tryz.prog Tryz.f145 = some (59, [.t 8], c_spec_l09Map) := by kernel_rfl
theorem c_spec_l09Map_i {args : List Value} {G : GH} {K : Value → GH → Prop} (hn : args.length ≤ 59) (h : gW Tryz.prog c_spec_l09Map (RetK [.t 8] K) (T0 args) G) : GC Tryz.prog 145 args G K := GC_intro mixed Tryz.func145 c_spec_l09Map_d hn h
abbrev c_spec_l09Ok_0 : List GOp := [oo 2 (.mv (cb  false))]
abbrev c_spec_l09Ok_1 : List DOp := [dl 0 (oo 5 (.mv (tt 0))), dl 1 (oo 6 (.nc (tt 5))), dl 2 (oo 7 (.fa 0 (tt 6))), dh 3 [] (oo 8 (.call (ff 81) [tt 7])), dl 4 (oo 9 (.un .not (tt 8))), dl 5 (oo 10 (.mv (tt 9))), dl 6 (og 11 10 false (.mv (tt 0))), dl 7 (og 12 10 false (.nc (tt 11))), dl 8 (og 13 10 false (.fa 1 (tt 12))), dl 9 (og 14 10 false (.ld (tt 13))), dh 10 [] (og 15 10 false (.call (ff 142) [tt 14])), dl 11 (og 16 10 false (.un .not (tt 15))), dl 12 (oo 17 (.pick (tt 10) (cb  true) (tt 16))), dl 13 (oo 18 (.mv (tt 17))), dl 14 (og 19 18 false (.mv (tt 0))), dl 15 (og 20 18 false (.nc (tt 19))), dl 16 (og 21 18 false (.fa 0 (tt 20))), dl 17 (og 22 18 false (.mv (tt 0))), dl 18 (og 23 18 false (.nc (tt 22))), dl 19 (og 24 18 false (.fa 2 (tt 23))), dl 20 (og 25 18 false (.ld (tt 24))), dh 21 [9] (og 26 18 false (.call (ff 143) [tt 21, tt 25])), dl 22 (og 27 18 false (.un .not (tt 26))), dl 23 (oo 28 (.pick (tt 18) (cb  true) (tt 27))), dl 24 (oo 29 (.mv (tt 28))), dl 25 (og 30 29 false (.mv (tt 0))), dl 26 (og 31 29 false (.nc (tt 30))), dl 27 (og 32 29 false (.fa 3 (tt 31))), dl 28 (og 33 29 false (.ld (tt 32))), dl 29 (og 34 29 false (.len (tt 33))), dl 30 (og 35 29 false (.mv (tt 0))), dl 31 (og 36 29 false (.nc (tt 35))), dl 32 (og 37 29 false (.fa 0 (tt 36))), dh 33 [28, 20, 9] (og 38 29 false (.call (ff 144) [tt 37])), dl 34 (og 39 29 false (.bin .neq (tt 34) (tt 38))), dl 35 (oo 40 (.pick (tt 29) (cb  true) (tt 39)))]
abbrev c_spec_l09Ok_2 : List GOp := [oo 2 (.mv (cb  false))]
abbrev c_spec_l09Ok_3 : List GOp := [oo 3 (.mv (ci 0))]
abbrev c_spec_l09Ok_4 : List GOp := [oo 41 (.mv (tt 3)), oo 42 (.mv (tt 0)), oo 43 (.nc (tt 42)), oo 44 (.fa 0 (tt 43)), oo 45 (.fa 0 (tt 44)), oo 46 (.ld (tt 45)), oo 47 (.len (tt 46)), oo 48 (.bin .lss (tt 41) (tt 47))]
abbrev c_spec_l09Ok_5 : List GOp := [oo 4 (.mv (ci 0))]
abbrev c_spec_l09Ok_6 : List GOp := [oo 51 (.mv (tt 4)), oo 52 (.mv (tt 0)), oo 53 (.nc (tt 52)), oo 54 (.fa 0 (tt 53)), oo 55 (.fa 0 (tt 54)), oo 56 (.ld (tt 55)), oo 57 (.mv (tt 3)), oo 58 (.ia 1 (tt 56) (tt 57)), oo 59 (.ld (tt 58)), oo 60 (.len (tt 59)), oo 61 (.bin .lss (tt 51) (tt 60)), oo 62 (.mv (tt 61)), og 63 62 true (.mv (tt 0)), og 64 62 true (.nc (tt 63)), og 65 62 true (.fa 0 (tt 64)), og 66 62 true (.fa 0 (tt 65)), og 67 62 true (.ld (tt 66)), og 68 62 true (.mv (tt 3)), og 69 62 true (.ia 1 (tt 67) (tt 68)), og 70 62 true (.ld (tt 69)), og 71 62 true (.len (tt 70)), og 72 62 true (.bin .gtr (tt 71) (ci 1)), oo 73 (.pick (tt 62) (tt 72) (cb  false))]
abbrev c_spec_l09Ok_7 : List DOp := [dl 0 (oo 76 (.mv (tt 0))), dl 1 (oo 77 (.mv (tt 3))), dl 2 (oo 78 (.mv (tt 4))), dl 3 (oo 79 (.mv (tt 0))), dl 4 (oo 80 (.nc (tt 79))), dl 5 (oo 81 (.fa 3 (tt 80))), dl 6 (oo 82 (.ld (tt 81))), dl 7 (oo 83 (.mv (tt 0))), dl 8 (oo 84 (.nc (tt 83))), dl 9 (oo 85 (.fa 0 (tt 84))), dl 10 (oo 86 (.mv (tt 3))), dl 11 (oo 87 (.mv (tt 4))), dh 12 [6] (oo 88 (.call (ff 146) [tt 85, tt 86, tt 87])), dl 13 (oo 89 (.ia 4 (tt 82) (tt 88))), dh 14 [6] (oo 90 (.call (ff 145) [tt 76, tt 77, tt 78, tt 89])), dl 15 (oo 91 (.un .not (tt 90)))]
abbrev c_spec_l09Ok_8 : List GOp := [oo 2 (.mv (cb  false))]
abbrev c_spec_l09Ok_9 : List GOp := [oo 74 (.mv (tt 4)), oo 75 (.bin .add (tt 74) (ci 1)), oo 4 (.mv (tt 75))]
abbrev c_spec_l09Ok_l0 : GCode := .seq (.seq (.reg c_spec_l09Ok_6) (.cond (tt 73) (.skip) (.exit 2))) (.seq (.blk 3 (.seq (.dreg c_spec_l09Ok_7) (.cond (tt 91) (.seq (.reg c_spec_l09Ok_8) (.ret)) (.skip)))) (.reg c_spec_l09Ok_9))
abbrev c_spec_l09Ok_11 : List GOp := [oo 49 (.mv (tt 3)), oo 50 (.bin .add (tt 49) (ci 1)), oo 3 (.mv (tt 50))]
abbrev c_spec_l09Ok_l1 : GCode := .seq (.seq (.reg c_spec_l09Ok_4) (.cond (tt 48) (.skip) (.exit 0))) (.seq (.blk 1 (.seq (.reg c_spec_l09Ok_5) (.blk 2 (.loop c_spec_l09Ok_l0)))) (.reg c_spec_l09Ok_11))
abbrev c_spec_l09Ok_13 : List GOp := [oo 2 (.mv (cb  true))]
abbrev c_spec_l09Ok : GCode := .seq (.reg c_spec_l09Ok_0) (.seq (.seq (.dreg c_spec_l09Ok_1) (.cond (tt 40) (.seq (.reg c_spec_l09Ok_2) (.ret)) (.skip))) (.seq (.seq (.reg c_spec_l09Ok_3) (.blk 0 (.loop c_spec_l09Ok_l1))) (.seq (.reg c_spec_l09Ok_13) (.ret))))
theorem c_spec_l09Ok_d : decFn Tryz.prog Tryz.f83 = some (92, [.t 2], c_spec_l09Ok) := by kernel_rfl
theorem c_spec_l09Ok_i {args : List Value} {G : GH} {K : Value → GH → Prop} (hn : args.length ≤ 92) (h : gW Tryz.prog c_spec_l09Ok (RetK [.t 2] K) (T0 args) G) : GC Tryz.prog 83 args G K := GC_intro mixed Tryz.func83 c_spec_l09Ok_d hn h
abbrev c_spec_l09Place_0 : List GOp := [oo 6 (.mv (ci 0))]
abbrev c_spec_l09Place_1 : List GOp := [oo 7 (.mv (ci 0))]
abbrev c_spec_l09Place_2 : List GOp := [oo 8 (.mv (ci 0))]
abbrev c_spec_l09Place_3 : List GOp := [oo 9 (.mv (tt 8)), oo 10 (.mv (tt 1)), oo 11 (.bin .lss (tt 9) (tt 10))]
abbrev c_spec_l09Place_4 : List GOp := [oo 14 (.mv (tt 0)), oo 15 (.nc (tt 14)), oo 16 (.fa 0 (tt 15)), oo 17 (.ld (tt 16)), oo 18 (.mv (tt 8)), oo 19 (.ia 1 (tt 17) (tt 18)), oo 20 (.ld (tt 19)), oo 21 (.len (tt 20)), oo 22 (.bin .gtr (tt 21) (ci 1))]
abbrev c_spec_l09Place_5 : List GOp := [oo 23 (.mv (tt 7)), oo 24 (.mv (tt 0)), oo 25 (.nc (tt 24)), oo 26 (.fa 0 (tt 25)), oo 27 (.ld (tt 26)), oo 28 (.mv (tt 8)), oo 29 (.ia 1 (tt 27) (tt 28)), oo 30 (.ld (tt 29)), oo 31 (.len (tt 30)), oo 32 (.bin .add (tt 23) (tt 31)), oo 7 (.mv (tt 32))]
abbrev c_spec_l09Place_6 : List GOp := [oo 12 (.mv (tt 8)), oo 13 (.bin .add (tt 12) (ci 1)), oo 8 (.mv (tt 13))]
abbrev c_spec_l09Place_l0 : GCode := .seq (.seq (.reg c_spec_l09Place_3) (.cond (tt 11) (.skip) (.exit 0))) (.seq (.blk 1 (.seq (.reg c_spec_l09Place_4) (.cond (tt 22) (.reg c_spec_l09Place_5) (.skip)))) (.reg c_spec_l09Place_6))
abbrev c_spec_l09Place_8 : List GOp := [oo 33 (.mv (tt 7)), oo 34 (.mv (tt 2)), oo 35 (.bin .add (tt 33) (tt 34)), oo 6 (.mv (tt 35))]
abbrev c_spec_l09Place : GCode := .seq (.reg c_spec_l09Place_0) (.seq (.reg c_spec_l09Place_1) (.seq (.seq (.reg c_spec_l09Place_2) (.blk 0 (.loop c_spec_l09Place_l0))) (.seq (.reg c_spec_l09Place_8) (.ret))))
theorem c_spec_l09Place_d : decFn Tryz.prog Tryz.f146 = some (36, [.t 6], c_spec_l09Place) := by kernel_rfl
theorem c_spec_l09Place_i {args : List Value} {G : GH} {K : Value → GH → Prop} (hn : args.length ≤ 36) (h : gW Tryz.prog c_spec_l09Place (RetK [.t 6] K) (T0 args) G) : GC Tryz.prog 146 args G K := GC_intro mixed Tryz.func146 c_spec_l09Place_d hn h
abbrev c_spec_l09Stalks_0 : List GOp := [oo 4 (.mv (cb  false))]
abbrev c_spec_l09Stalks_1 : List GOp := [oo 6 (.mv (tt 1)), oo 7 (.mv (tt 0)), oo 8 (.nc (tt 7)), oo 9 (.fa 0 (tt 8)), oo 10 (.ld (tt 9)), oo 11 (.len (tt 10)), oo 12 (.call (ff 92) [tt 6, tt 11, (ci 4)]), oo 13 (.un .not (tt 12))]
abbrev c_spec_l09Stalks_2 : List GOp := [oo 4 (.mv (cb  false))]
abbrev c_spec_l09Stalks_3 : List GOp := [oo 5 (.mv (ci 0))]
abbrev c_spec_l09Stalks_4 : List GOp := [oo 14 (.mv (tt 5)), oo 15 (.bin .leq (tt 14) (ci 3))]
abbrev c_spec_l09Stalks_5 : List GOp := [oo 18 (.mv (tt 0)), oo 19 (.mv (tt 1)), oo 20 (.mv (tt 5)), oo 21 (.call (ff 84) [tt 18, tt 19, tt 20]), oo 22 (.bin .gtr (tt 21) (ci 32))]
abbrev c_spec_l09Stalks_6 : List GOp := [oo 4 (.mv (cb  false))]
abbrev c_spec_l09Stalks_7 : List GOp := [oo 16 (.mv (tt 5)), oo 17 (.bin .add (tt 16) (ci 1)), oo 5 (.mv (tt 17))]
abbrev c_spec_l09Stalks_l0 : GCode := .seq (.seq (.reg c_spec_l09Stalks_4) (.cond (tt 15) (.skip) (.exit 0))) (.seq (.blk 1 (.seq (.reg c_spec_l09Stalks_5) (.cond (tt 22) (.seq (.reg c_spec_l09Stalks_6) (.ret)) (.skip)))) (.reg c_spec_l09Stalks_7))
abbrev c_spec_l09Stalks_9 : List GOp := [oo 4 (.mv (cb  true))]
abbrev c_spec_l09Stalks : GCode := .seq (.reg c_spec_l09Stalks_0) (.seq (.seq (.reg c_spec_l09Stalks_1) (.cond (tt 13) (.seq (.reg c_spec_l09Stalks_2) (.ret)) (.skip))) (.seq (.seq (.reg c_spec_l09Stalks_3) (.blk 0 (.loop c_spec_l09Stalks_l0))) (.seq (.reg c_spec_l09Stalks_9) (.ret))))
theorem c_spec_l09Stalks_d : decFn Tryz.prog Tryz.f143 = some (23, [.t 4], c_spec_l09Stalks) := by kernel_rfl
theorem c_spec_l09Stalks_i {args : List Value} {G : GH} {K : Value → GH → Prop} (hn : args.length ≤ 23) (h : gW Tryz.prog c_spec_l09Stalks (RetK [.t 4] K) (T0 args) G) : GC Tryz.prog 143 args G K := GC_intro mixed Tryz.func143 c_spec_l09Stalks_d hn h
abbrev c_spec_l09Sum_0 : List GOp := [oo 6 (.mv (ci 0))]
abbrev c_spec_l09Sum_1 : List GOp := [oo 10 (.mv (tt 0)), oo 11 (.mv (tt 2)), oo 12 (.call (ff 70) [tt 10, tt 11]), oo 7 (.mv (tt 12))]
abbrev c_spec_l09Sum_2 : List GOp := [oo 8 (.mv (ci 0))]
abbrev c_spec_l09Sum_3 : List GOp := [oo 9 (.mv (ci 0))]
abbrev c_spec_l09Sum_4 : List GOp := [oo 13 (.mv (tt 9)), oo 14 (.mv (tt 7)), oo 15 (.len (tt 14)), oo 16 (.bin .lss (tt 13) (tt 15))]
abbrev c_spec_l09Sum_5 : List GOp := [oo 19 (.mv (tt 8)), oo 20 (.mv (tt 1)), oo 21 (.mv (tt 7)), oo 22 (.mv (tt 9)), oo 23 (.ia 1 (tt 21) (tt 22)), oo 24 (.ld (tt 23)), oo 25 (.ia 1 (tt 20) (tt 24)), oo 26 (.ld (tt 25)), oo 27 (.bin .add (tt 19) (tt 26)), oo 8 (.mv (tt 27))]
abbrev c_spec_l09Sum_6 : List GOp := [oo 17 (.mv (tt 9)), oo 18 (.bin .add (tt 17) (ci 1)), oo 9 (.mv (tt 18))]
abbrev c_spec_l09Sum_l0 : GCode := .seq (.seq (.reg c_spec_l09Sum_4) (.cond (tt 16) (.skip) (.exit 0))) (.seq (.blk 1 (.reg c_spec_l09Sum_5)) (.reg c_spec_l09Sum_6))
abbrev c_spec_l09Sum_8 : List GOp := [oo 28 (.mv (tt 8)), oo 6 (.mv (tt 28))]
abbrev c_spec_l09Sum : GCode := .seq (.reg c_spec_l09Sum_0) (.seq (.reg c_spec_l09Sum_1) (.seq (.reg c_spec_l09Sum_2) (.seq (.seq (.reg c_spec_l09Sum_3) (.blk 0 (.loop c_spec_l09Sum_l0))) (.seq (.reg c_spec_l09Sum_8) (.ret)))))
theorem c_spec_l09Sum_d : decFn Tryz.prog Tryz.f84 = some (29, [.t 6], c_spec_l09Sum) := by kernel_rfl
theorem c_spec_l09Sum_i {args : List Value} {G : GH} {K : Value → GH → Prop} (hn : args.length ≤ 29) (h : gW Tryz.prog c_spec_l09Sum (RetK [.t 6] K) (T0 args) G) : GC Tryz.prog 84 args G K := GC_intro mixed Tryz.func84 c_spec_l09Sum_d hn h
abbrev c_spec_l09Two_0 : List GOp := [oo 8 (.al [.int .i64 0, .int .i64 0, .int .i64 0, .slice none 0 0])]
abbrev c_spec_l09Two_1 : List GOp := [oo 10 (.mv (tt 0)), oo 11 (.nc (tt 10)), oo 12 (.fa 0 (tt 11)), oo 13 (.mv (tt 1)), oo 14 (.call (ff 149) [tt 12, tt 13]), oo 15 (.mv (tt 2)), oo 16 (.ia 1 (tt 14) (tt 15)), oo 17 (.ld (tt 16)), oo 9 (.mv (tt 17))]
abbrev c_spec_l09Two_2 : List GOp := [oo 18 (.mv (tt 3)), oo 19 (.mv (tt 2)), oo 20 (.bin .gtr (tt 18) (tt 19))]
abbrev c_spec_l09Two_3 : List GOp := [oo 21 (.mv (tt 3)), oo 22 (.bin .sub (tt 21) (ci 1)), oo 3 (.mv (tt 22))]
abbrev c_spec_l09Two_4 : List GOp := [oo 23 (.mv (tt 0)), oo 24 (.mv (tt 1)), oo 25 (.mv (tt 2)), oo 26 (.call (ff 150) [tt 23, tt 24, tt 25]), oo 27 (.mv (tt 0)), oo 28 (.mv (tt 9)), oo 29 (.mv (tt 3)), oo 30 (.call (ff 150) [tt 27, tt 28, tt 29]), oo 31 (.call (ff 173) [tt 26, tt 30]), on (.st 4 (tt 8) (tt 31))]
abbrev c_spec_l09Two : GCode := .seq (.reg c_spec_l09Two_0) (.seq (.reg c_spec_l09Two_1) (.seq (.seq (.reg c_spec_l09Two_2) (.cond (tt 20) (.reg c_spec_l09Two_3) (.skip))) (.seq (.reg c_spec_l09Two_4) (.ret))))
theorem c_spec_l09Two_d : decFn Tryz.prog Tryz.f199 = some (32, [.cn 8 4], c_spec_l09Two) := by kernel_rfl
theorem c_spec_l09Two_i {args : List Value} {G : GH} {K : Value → GH → Prop} (hn : args.length ≤ 32) (h : gW Tryz.prog c_spec_l09Two (RetK [.cn 8 4] K) (T0 args) G) : GC Tryz.prog 199 args G K := GC_intro mixed Tryz.func199 c_spec_l09Two_d hn h
abbrev c_spec_l09Wrong_0 : List GOp := [oo 2 (.mv (ci 0)), oo 3 (.mv (ci 0)), oo 4 (.mv (ci 0))]
abbrev c_spec_l09Wrong_1 : List GOp := [oo 5 (.mv (ci 0))]
abbrev c_spec_l09Wrong_2 : List GOp := [oo 11 (.mv (tt 5)), oo 12 (.mv (tt 0)), oo 13 (.nc (tt 12)), oo 14 (.fa 0 (tt 13)), oo 15 (.fa 0 (tt 14)), oo 16 (.ld (tt 15)), oo 17 (.len (tt 16)), oo 18 (.bin .lss (tt 11) (tt 17))]
abbrev c_spec_l09Wrong_3 : List GOp := [oo 21 (.mv (tt 0)), oo 22 (.nc (tt 21)), oo 23 (.fa 0 (tt 22)), oo 24 (.fa 0 (tt 23)), oo 25 (.ld (tt 24)), oo 26 (.mv (tt 5)), oo 27 (.ia 1 (tt 25) (tt 26)), oo 28 (.ld (tt 27)), oo 29 (.len (tt 28)), oo 6 (.mv (tt 29))]
abbrev c_spec_l09Wrong_4 : List GOp := [oo 7 (.mv (ci 0))]
abbrev c_spec_l09Wrong_5 : List GOp := [oo 30 (.mv (tt 7)), oo 31 (.mv (tt 6)), oo 32 (.bin .lss (tt 30) (tt 31)), oo 33 (.mv (tt 32)), og 34 33 true (.mv (tt 6)), og 35 33 true (.bin .gtr (tt 34) (ci 2)), oo 36 (.pick (tt 33) (tt 35) (cb  false))]
abbrev c_spec_l09Wrong_6 : List GOp := [oo 39 (.mv (tt 7)), oo 40 (.bin .add (tt 39) (ci 1)), oo 8 (.mv (tt 40))]
abbrev c_spec_l09Wrong_7 : List GOp := [oo 41 (.mv (tt 8)), oo 42 (.mv (tt 6)), oo 43 (.bin .lss (tt 41) (tt 42))]
abbrev c_spec_l09Wrong_8 : List GOp := [oo 46 (.mv (tt 0)), oo 47 (.mv (tt 5)), oo 48 (.mv (tt 7)), oo 49 (.mv (tt 8)), oo 50 (.call (ff 199) [tt 46, tt 47, tt 48, tt 49]), oo 9 (.al [.int .i64 0, .int .i64 0, .int .i64 0, .slice none 0 0]), on (.st 4 (tt 9) (tt 50))]
abbrev c_spec_l09Wrong_9 : List GOp := [oo 51 (.mv (tt 0)), oo 52 (.mv (tt 5)), oo 53 (.mv (tt 8)), oo 54 (.mv (tt 7)), oo 55 (.call (ff 199) [tt 51, tt 52, tt 53, tt 54]), oo 10 (.al [.int .i64 0, .int .i64 0, .int .i64 0, .slice none 0 0]), on (.st 4 (tt 10) (tt 55))]
abbrev c_spec_l09Wrong_10 : List GOp := [oo 56 (.call (ff 200) [tt 9, tt 10]), oo 57 (.un .not (tt 56))]
abbrev c_spec_l09Wrong_11 : List GOp := [oo 58 (.mv (tt 5)), oo 59 (.mv (tt 7)), oo 60 (.mv (tt 8)), oo 2 (.mv (tt 58)), oo 3 (.mv (tt 59)), oo 4 (.mv (tt 60))]
abbrev c_spec_l09Wrong_12 : List GOp := [oo 44 (.mv (tt 8)), oo 45 (.bin .add (tt 44) (ci 1)), oo 8 (.mv (tt 45))]
abbrev c_spec_l09Wrong_l0 : GCode := .seq (.seq (.reg c_spec_l09Wrong_7) (.cond (tt 43) (.skip) (.exit 4))) (.seq (.blk 5 (.seq (.reg c_spec_l09Wrong_8) (.seq (.reg c_spec_l09Wrong_9) (.seq (.reg c_spec_l09Wrong_10) (.cond (tt 57) (.seq (.reg c_spec_l09Wrong_11) (.ret)) (.skip)))))) (.reg c_spec_l09Wrong_12))
abbrev c_spec_l09Wrong_14 : List GOp := [oo 37 (.mv (tt 7)), oo 38 (.bin .add (tt 37) (ci 1)), oo 7 (.mv (tt 38))]
abbrev c_spec_l09Wrong_l1 : GCode := .seq (.seq (.reg c_spec_l09Wrong_5) (.cond (tt 36) (.skip) (.exit 2))) (.seq (.blk 3 (.seq (.reg c_spec_l09Wrong_6) (.blk 4 (.loop c_spec_l09Wrong_l0)))) (.reg c_spec_l09Wrong_14))
abbrev c_spec_l09Wrong_16 : List GOp := [oo 19 (.mv (tt 5)), oo 20 (.bin .add (tt 19) (ci 1)), oo 5 (.mv (tt 20))]
abbrev c_spec_l09Wrong_l2 : GCode := .seq (.seq (.reg c_spec_l09Wrong_2) (.cond (tt 18) (.skip) (.exit 0))) (.seq (.blk 1 (.seq (.reg c_spec_l09Wrong_3) (.seq (.reg c_spec_l09Wrong_4) (.blk 2 (.loop c_spec_l09Wrong_l1))))) (.reg c_spec_l09Wrong_16))
abbrev c_spec_l09Wrong_18 : List GOp := [oo 2 (.mv (ci (-1))), oo 3 (.mv (ci 0)), oo 4 (.mv (ci 0))]
abbrev c_spec_l09Wrong : GCode := .seq (.reg c_spec_l09Wrong_0) (.seq (.seq (.reg c_spec_l09Wrong_1) (.blk 0 (.loop c_spec_l09Wrong_l2))) (.seq (.reg c_spec_l09Wrong_18) (.ret)))
theorem c_spec_l09Wrong_d : decFn Tryz.prog Tryz.f178 = some (61, [.t 2, .t 3, .t 4], c_spec_l09Wrong) := by kernel_rfl
theorem c_spec_l09Wrong_i {args : List Value} {G : GH} {K : Value → GH → Prop} (hn : args.length ≤ 61) (h : gW Tryz.prog c_spec_l09Wrong (RetK [.t 2, .t 3, .t 4] K) (T0 args) G) : GC Tryz.prog 178 args G K := GC_intro mixed Tryz.func178 c_spec_l09Wrong_d hn h
abbrev c_spec_l11Ask_0 : List GOp := [oo 4 (.mv (ci 0))]
abbrev c_spec_l11Ask_1 : List GOp := [oo 5 (.mv (tt 0)), oo 6 (.call (ff 148) [tt 5]), oo 7 (.un .not (tt 6))]
abbrev c_spec_l11Ask_2 : List GOp := [oo 4 (.mv (ci 1))]
abbrev c_spec_l11Ask_3 : List GOp := [oo 8 (.mv (tt 1)), oo 9 (.call (ff 82) [tt 8]), oo 10 (.un .not (tt 9))]
abbrev c_spec_l11Ask_4 : List GOp := [oo 4 (.mv (ci 2))]
abbrev c_spec_l11Ask_5 : List GOp := [oo 4 (.mv (ci 0))]
abbrev c_spec_l11Ask : GCode := .seq (.reg c_spec_l11Ask_0) (.seq (.seq (.reg c_spec_l11Ask_1) (.cond (tt 7) (.seq (.reg c_spec_l11Ask_2) (.ret)) (.skip))) (.seq (.seq (.reg c_spec_l11Ask_3) (.cond (tt 10) (.seq (.reg c_spec_l11Ask_4) (.ret)) (.skip))) (.seq (.reg c_spec_l11Ask_5) (.ret))))
theorem c_spec_l11Ask_d : decFn Tryz.prog Tryz.f91 = some (11, [.t 4], c_spec_l11Ask) := by kernel_rfl
theorem c_spec_l11Ask_i {args : List Value} {G : GH} {K : Value → GH → Prop} (hn : args.length ≤ 11) (h : gW Tryz.prog c_spec_l11Ask (RetK [.t 4] K) (T0 args) G) : GC Tryz.prog 91 args G K := GC_intro mixed Tryz.func91 c_spec_l11Ask_d hn h
abbrev c_spec_l11At_0 : List GOp := [oo 4 (.mv (ci 0))]
abbrev c_spec_l11At_1 : List GOp := [oo 5 (.mv (ci 0))]
abbrev c_spec_l11At_2 : List GOp := [oo 6 (.mv (ci 0))]
abbrev c_spec_l11At_3 : List GOp := [oo 7 (.mv (tt 6)), oo 8 (.mv (tt 1)), oo 9 (.bin .lss (tt 7) (tt 8))]
abbrev c_spec_l11At_4 : List DOp := [dl 0 (oo 12 (.mv (tt 0))), dl 1 (oo 13 (.nc (tt 12))), dl 2 (oo 14 (.fa 0 (tt 13))), dl 3 (oo 15 (.fa 0 (tt 14))), dl 4 (oo 16 (.ld (tt 15))), dl 5 (oo 17 (.mv (tt 6))), dl 6 (oo 18 (.ia 1 (tt 16) (tt 17))), dl 7 (oo 19 (.ld (tt 18))), dl 8 (oo 20 (.len (tt 19))), dl 9 (oo 21 (.mv (tt 0))), dl 10 (oo 22 (.nc (tt 21))), dl 11 (oo 23 (.fa 0 (tt 22))), dl 12 (oo 24 (.fa 0 (tt 23))), dl 13 (oo 25 (.ld (tt 24))), dl 14 (oo 26 (.mv (tt 1))), dl 15 (oo 27 (.ia 1 (tt 25) (tt 26))), dl 16 (oo 28 (.ld (tt 27))), dl 17 (oo 29 (.len (tt 28))), dl 18 (oo 30 (.bin .eql (tt 20) (tt 29)))]
abbrev c_spec_l11At_5 : List GOp := [oo 31 (.mv (tt 5)), oo 32 (.mv (tt 0)), oo 33 (.nc (tt 32)), oo 34 (.fa 2 (tt 33)), oo 35 (.ld (tt 34)), oo 36 (.mv (tt 6)), oo 37 (.ia 1 (tt 35) (tt 36)), oo 38 (.ld (tt 37)), oo 39 (.bin .add (tt 31) (tt 38)), oo 5 (.mv (tt 39))]
abbrev c_spec_l11At_6 : List GOp := [oo 10 (.mv (tt 6)), oo 11 (.bin .add (tt 10) (ci 1)), oo 6 (.mv (tt 11))]
abbrev c_spec_l11At_l0 : GCode := .seq (.seq (.reg c_spec_l11At_3) (.cond (tt 9) (.skip) (.exit 0))) (.seq (.blk 1 (.seq (.dreg c_spec_l11At_4) (.cond (tt 30) (.reg c_spec_l11At_5) (.skip)))) (.reg c_spec_l11At_6))
abbrev c_spec_l11At_8 : List GOp := [oo 40 (.mv (tt 5)), oo 4 (.mv (tt 40))]
abbrev c_spec_l11At : GCode := .seq (.reg c_spec_l11At_0) (.seq (.reg c_spec_l11At_1) (.seq (.seq (.reg c_spec_l11At_2) (.blk 0 (.loop c_spec_l11At_l0))) (.seq (.reg c_spec_l11At_8) (.ret))))
theorem c_spec_l11At_d : decFn Tryz.prog Tryz.f87 = some (41, [.t 4], c_spec_l11At) := by kernel_rfl
theorem c_spec_l11At_i {args : List Value} {G : GH} {K : Value → GH → Prop} (hn : args.length ≤ 41) (h : gW Tryz.prog c_spec_l11At (RetK [.t 4] K) (T0 args) G) : GC Tryz.prog 87 args G K := GC_intro mixed Tryz.func87 c_spec_l11At_d hn h
abbrev c_spec_l11Cochain_0 : List GOp := [oo 6 (.mv (ci 0))]
abbrev c_spec_l11Cochain_1 : List GOp := [oo 8 (.mv (tt 0)), oo 9 (.mv (tt 1)), oo 10 (.call (ff 91) [tt 8, tt 9]), oo 7 (.mv (tt 10))]
abbrev c_spec_l11Cochain_2 : List GOp := [oo 11 (.mv (tt 7)), oo 12 (.bin .neq (tt 11) (ci 0))]
abbrev c_spec_l11Cochain_3 : List GOp := [oo 13 (.mv (tt 7)), oo 6 (.mv (tt 13))]
abbrev c_spec_l11Cochain_4 : List DOp := [dl 0 (oo 14 (.mv (tt 2))), dl 1 (oo 15 (.mv (tt 0))), dl 2 (oo 16 (.nc (tt 15))), dl 3 (oo 17 (.fa 0 (tt 16))), dl 4 (oo 18 (.mv (tt 0))), dl 5 (oo 19 (.nc (tt 18))), dl 6 (oo 20 (.fa 2 (tt 19))), dl 7 (oo 21 (.ld (tt 20))), dl 8 (oo 22 (.mv (tt 1))), dl 10 (oo 24 (.mv (tt 0))), dl 11 (oo 25 (.nc (tt 24))), dl 12 (oo 26 (.fa 1 (tt 25))), dl 13 (oo 27 (.ld (tt 26))), dh 9 [13] (oo 23 (.call (ff 84) [tt 17, tt 21, tt 22])), dh 14 [7] (oo 28 (.call (ff 92) [tt 14, tt 23, tt 27])), dl 15 (oo 29 (.un .not (tt 28)))]
abbrev c_spec_l11Cochain_5 : List GOp := [oo 6 (.mv (ci 7))]
abbrev c_spec_l11Cochain_6 : List GOp := [oo 6 (.mv (ci 0))]
abbrev c_spec_l11Cochain : GCode := .seq (.reg c_spec_l11Cochain_0) (.seq (.reg c_spec_l11Cochain_1) (.seq (.seq (.reg c_spec_l11Cochain_2) (.cond (tt 12) (.seq (.reg c_spec_l11Cochain_3) (.ret)) (.skip))) (.seq (.seq (.dreg c_spec_l11Cochain_4) (.cond (tt 29) (.seq (.reg c_spec_l11Cochain_5) (.ret)) (.skip))) (.seq (.reg c_spec_l11Cochain_6) (.ret)))))
theorem c_spec_l11Cochain_d : decFn Tryz.prog Tryz.f45 = some (30, [.t 6], c_spec_l11Cochain) := by kernel_rfl
theorem c_spec_l11Cochain_i {args : List Value} {G : GH} {K : Value → GH → Prop} (hn : args.length ≤ 30) (h : gW Tryz.prog c_spec_l11Cochain (RetK [.t 6] K) (T0 args) G) : GC Tryz.prog 45 args G K := GC_intro mixed Tryz.func45 c_spec_l11Cochain_d hn h
abbrev c_spec_l11Matrix_0 : List GOp := [oo 4 (.al [.int .i64 0, .int .i64 0, .int .i64 0, .slice none 0 0])]
abbrev c_spec_l11Matrix_1 : DT := (.path [dl 0 (oo 16 (.mv (tt 0)))] (.path [dl 1 (oo 17 (.nc (tt 16)))] (.path [dl 2 (oo 18 (.fa 1 (tt 17)))] (.path [dl 3 (oo 19 (.ld (tt 18)))] (.path [dl 4 (oo 20 (.mv (tt 0)))] (.path [dl 5 (oo 21 (.nc (tt 20)))] (.path [dl 6 (oo 22 (.fa 0 (tt 21)))] (.path [dl 7 (oo 23 (.mv (tt 0)))] (.path [dl 8 (oo 24 (.nc (tt 23)))] (.path [dl 9 (oo 25 (.fa 2 (tt 24)))] (.path [dl 10 (oo 26 (.ld (tt 25)))] (.path [dl 11 (oo 27 (.mv (tt 1)))] (.path [dl 12 (oo 28 (.bin .add (tt 27) (ci 1)))] (.path [dl 14 (oo 30 (.mv (tt 0)))] (.path [dl 15 (oo 31 (.nc (tt 30)))] (.path [dl 16 (oo 32 (.fa 0 (tt 31)))] (.path [dl 17 (oo 33 (.mv (tt 0)))] (.path [dl 18 (oo 34 (.nc (tt 33)))] (.path [dl 19 (oo 35 (.fa 2 (tt 34)))] (.path [dl 20 (oo 36 (.ld (tt 35)))] (.path [dl 21 (oo 37 (.mv (tt 1)))] (.both (.path [dh 13 [20, 3] (oo 29 (.call (ff 84) [tt 22, tt 26, tt 28]))] (.both (.path [dh 22 [10, 3] (oo 38 (.call (ff 84) [tt 32, tt 36, tt 37]))] (.both (.path [dh 23 [20, 10] (oo 39 (.call (ff 120) [tt 19, tt 29, tt 38]))] (.path [dh 24 [20, 10, 3] (oo 5 (.al [.int .i64 0, .int .i64 0, .int .i64 0, .slice none 0 0]))] (.path [dh 25 [] (on (.st 4 (tt 5) (tt 39)))] .fin))) (.path [dh 24 [20, 10, 3] (oo 5 (.al [.int .i64 0, .int .i64 0, .int .i64 0, .slice none 0 0]))] (.path [dh 23 [20, 10] (oo 39 (.call (ff 120) [tt 19, tt 29, tt 38]))] (.path [dh 25 [] (on (.st 4 (tt 5) (tt 39)))] .fin))))) (.path [dh 24 [20, 10, 3] (oo 5 (.al [.int .i64 0, .int .i64 0, .int .i64 0, .slice none 0 0]))] (.path [dh 22 [10, 3] (oo 38 (.call (ff 84) [tt 32, tt 36, tt 37]))] (.path [dh 23 [20, 10] (oo 39 (.call (ff 120) [tt 19, tt 29, tt 38]))] (.path [dh 25 [] (on (.st 4 (tt 5) (tt 39)))] .fin)))))) (.path [dh 24 [20, 10, 3] (oo 5 (.al [.int .i64 0, .int .i64 0, .int .i64 0, .slice none 0 0]))] (.path [dh 13 [20, 3] (oo 29 (.call (ff 84) [tt 22, tt 26, tt 28]))] (.path [dh 22 [10, 3] (oo 38 (.call (ff 84) [tt 32, tt 36, tt 37]))] (.path [dh 23 [20, 10] (oo 39 (.call (ff 120) [tt 19, tt 29, tt 38]))] (.path [dh 25 [] (on (.st 4 (tt 5) (tt 39)))] .fin)))))))))))))))))))))))))))
abbrev c_spec_l11Matrix_2 : List GOp := [oo 40 (.mv (tt 0)), oo 41 (.nc (tt 40)), oo 42 (.fa 0 (tt 41)), oo 43 (.mv (tt 1)), oo 44 (.bin .add (tt 43) (ci 1)), oo 45 (.call (ff 70) [tt 42, tt 44]), oo 6 (.mv (tt 45))]
abbrev c_spec_l11Matrix_3 : List GOp := [oo 7 (.mv (ci 0))]
abbrev c_spec_l11Matrix_4 : List GOp := [oo 46 (.mv (tt 7)), oo 47 (.mv (tt 6)), oo 48 (.len (tt 47)), oo 49 (.bin .lss (tt 46) (tt 48)), oo 50 (.mv (tt 49)), og 51 50 true (.mv (tt 1)), og 52 50 true (.bin .geq (tt 51) (ci 0)), oo 53 (.pick (tt 50) (tt 52) (cb  false))]
abbrev c_spec_l11Matrix_5 : List DOp := [dl 0 (oo 56 (.mv (tt 0))), dl 1 (oo 57 (.nc (tt 56))), dl 2 (oo 58 (.fa 0 (tt 57))), dl 3 (oo 59 (.mv (tt 6))), dl 4 (oo 60 (.mv (tt 7))), dl 5 (oo 61 (.ia 1 (tt 59) (tt 60))), dl 6 (oo 62 (.ld (tt 61))), dh 7 [] (oo 63 (.call (ff 149) [tt 58, tt 62])), dl 8 (oo 8 (.mv (tt 63)))]
abbrev c_spec_l11Matrix_6 : List GOp := [oo 64 (.mv (tt 0)), oo 65 (.mv (tt 6)), oo 66 (.mv (tt 7)), oo 67 (.ia 1 (tt 65) (tt 66)), oo 68 (.ld (tt 67)), oo 69 (.call (ff 87) [tt 64, tt 68]), oo 9 (.mv (tt 69))]
abbrev c_spec_l11Matrix_7 : List GOp := [oo 10 (.mv (ci 0))]
abbrev c_spec_l11Matrix_8 : List GOp := [oo 70 (.mv (tt 10)), oo 71 (.mv (tt 8)), oo 72 (.len (tt 71)), oo 73 (.bin .lss (tt 70) (tt 72))]
abbrev c_spec_l11Matrix_9 : List GOp := [oo 76 (.mv (tt 0)), oo 77 (.mv (tt 6)), oo 78 (.mv (tt 7)), oo 79 (.ia 1 (tt 77) (tt 78)), oo 80 (.ld (tt 79)), oo 81 (.mv (tt 10)), oo 82 (.call (ff 150) [tt 76, tt 80, tt 81]), oo 11 (.mv (tt 82))]
abbrev c_spec_l11Matrix_10 : List GOp := [oo 83 (.mv (tt 0)), oo 84 (.mv (tt 8)), oo 85 (.mv (tt 10)), oo 86 (.ia 1 (tt 84) (tt 85)), oo 87 (.ld (tt 86)), oo 88 (.call (ff 87) [tt 83, tt 87]), oo 12 (.mv (tt 88))]
abbrev c_spec_l11Matrix_11 : List GOp := [oo 89 (.mv (tt 10)), oo 90 (.mv (tt 0)), oo 91 (.nc (tt 90)), oo 92 (.fa 1 (tt 91)), oo 93 (.ld (tt 92)), oo 94 (.call (ff 151) [tt 89, tt 93]), oo 13 (.mv (tt 94))]
abbrev c_spec_l11Matrix_12 : List GOp := [oo 14 (.mv (ci 0))]
abbrev c_spec_l11Matrix_13 : List GOp := [oo 95 (.mv (tt 14)), oo 96 (.mv (tt 11)), oo 97 (.nc (tt 96)), oo 98 (.fa 1 (tt 97)), oo 99 (.ld (tt 98)), oo 100 (.bin .lss (tt 95) (tt 99))]
abbrev c_spec_l11Matrix_14 : List GOp := [oo 15 (.mv (ci 0))]
abbrev c_spec_l11Matrix_15 : List GOp := [oo 103 (.mv (tt 15)), oo 104 (.mv (tt 11)), oo 105 (.nc (tt 104)), oo 106 (.fa 2 (tt 105)), oo 107 (.ld (tt 106)), oo 108 (.bin .lss (tt 103) (tt 107))]
abbrev c_spec_l11Matrix_16 : List DOp := [dl 0 (oo 111 (.fa 3 (tt 5))), dl 1 (oo 112 (.ld (tt 111))), dl 2 (oo 113 (.mv (tt 9))), dl 3 (oo 114 (.mv (tt 14))), dl 4 (oo 115 (.bin .add (tt 113) (tt 114))), dl 5 (oo 116 (.fa 2 (tt 5))), dl 6 (oo 117 (.ld (tt 116))), dl 7 (oo 118 (.bin .mul (tt 115) (tt 117))), dl 8 (oo 119 (.mv (tt 12))), dl 9 (oo 120 (.bin .add (tt 118) (tt 119))), dl 10 (oo 121 (.mv (tt 15))), dl 11 (oo 122 (.bin .add (tt 120) (tt 121))), dl 12 (oo 123 (.mv (tt 11))), dl 13 (oo 124 (.nc (tt 123))), dl 14 (oo 125 (.fa 3 (tt 124))), dl 15 (oo 126 (.ld (tt 125))), dl 16 (oo 127 (.mv (tt 14))), dl 17 (oo 128 (.mv (tt 11))), dl 18 (oo 129 (.nc (tt 128))), dl 19 (oo 130 (.fa 2 (tt 129))), dl 20 (oo 131 (.ld (tt 130))), dl 21 (oo 132 (.bin .mul (tt 127) (tt 131))), dl 22 (oo 133 (.mv (tt 15))), dl 23 (oo 134 (.bin .add (tt 132) (tt 133))), dl 24 (oo 135 (.ia 1 (tt 126) (tt 134))), dl 25 (oo 136 (.ld (tt 135))), dl 26 (oo 137 (.mv (tt 13))), dl 27 (oo 138 (.bin .mul (tt 136) (tt 137))), dl 28 (oo 139 (.mv (tt 0))), dl 29 (oo 140 (.nc (tt 139))), dl 30 (oo 141 (.fa 1 (tt 140))), dl 31 (oo 142 (.ld (tt 141))), dl 32 (oo 143 (.bin .rem (tt 138) (tt 142))), dl 33 (oo 144 (.ia 1 (tt 112) (tt 122))), dh 34 [] (on (.st 1 (tt 144) (tt 143)))]
abbrev c_spec_l11Matrix_17 : List GOp := [oo 109 (.mv (tt 15)), oo 110 (.bin .add (tt 109) (ci 1)), oo 15 (.mv (tt 110))]
abbrev c_spec_l11Matrix_l0 : GCode := .seq (.seq (.reg c_spec_l11Matrix_15) (.cond (tt 108) (.skip) (.exit 6))) (.seq (.blk 7 (.dreg c_spec_l11Matrix_16)) (.reg c_spec_l11Matrix_17))
abbrev c_spec_l11Matrix_19 : List GOp := [oo 101 (.mv (tt 14)), oo 102 (.bin .add (tt 101) (ci 1)), oo 14 (.mv (tt 102))]
abbrev c_spec_l11Matrix_l1 : GCode := .seq (.seq (.reg c_spec_l11Matrix_13) (.cond (tt 100) (.skip) (.exit 4))) (.seq (.blk 5 (.seq (.reg c_spec_l11Matrix_14) (.blk 6 (.loop c_spec_l11Matrix_l0)))) (.reg c_spec_l11Matrix_19))
abbrev c_spec_l11Matrix_21 : List GOp := [oo 74 (.mv (tt 10)), oo 75 (.bin .add (tt 74) (ci 1)), oo 10 (.mv (tt 75))]
abbrev c_spec_l11Matrix_l2 : GCode := .seq (.seq (.reg c_spec_l11Matrix_8) (.cond (tt 73) (.skip) (.exit 2))) (.seq (.blk 3 (.seq (.reg c_spec_l11Matrix_9) (.seq (.reg c_spec_l11Matrix_10) (.seq (.reg c_spec_l11Matrix_11) (.seq (.reg c_spec_l11Matrix_12) (.blk 4 (.loop c_spec_l11Matrix_l1))))))) (.reg c_spec_l11Matrix_21))
abbrev c_spec_l11Matrix_23 : List GOp := [oo 54 (.mv (tt 7)), oo 55 (.bin .add (tt 54) (ci 1)), oo 7 (.mv (tt 55))]
abbrev c_spec_l11Matrix_l3 : GCode := .seq (.seq (.reg c_spec_l11Matrix_4) (.cond (tt 53) (.skip) (.exit 0))) (.seq (.blk 1 (.seq (.dreg c_spec_l11Matrix_5) (.seq (.reg c_spec_l11Matrix_6) (.seq (.reg c_spec_l11Matrix_7) (.blk 2 (.loop c_spec_l11Matrix_l2)))))) (.reg c_spec_l11Matrix_23))
abbrev c_spec_l11Matrix_25 : List GOp := [oo 145 (.ldn 4 (tt 5)), on (.st 4 (tt 4) (tt 145))]
abbrev c_spec_l11Matrix : GCode := .seq (.reg c_spec_l11Matrix_0) (.seq (.dtree c_spec_l11Matrix_1) (.seq (.reg c_spec_l11Matrix_2) (.seq (.seq (.reg c_spec_l11Matrix_3) (.blk 0 (.loop c_spec_l11Matrix_l3))) (.seq (.reg c_spec_l11Matrix_25) (.ret)))))
theorem c_spec_l11Matrix_d : decFn Tryz.prog Tryz.f93 = some (146, [.cn 4 4], c_spec_l11Matrix) := by kernel_rfl
theorem c_spec_l11Matrix_i {args : List Value} {G : GH} {K : Value → GH → Prop} (hn : args.length ≤ 146) (h : gW Tryz.prog c_spec_l11Matrix (RetK [.cn 4 4] K) (T0 args) G) : GC Tryz.prog 93 args G K := GC_intro mixed Tryz.func93 c_spec_l11Matrix_d hn h
abbrev c_spec_l17Bad_0 : List GOp := [oo 4 (.mv (.const (.slice none 0 0)))]
abbrev c_spec_l17Bad_1 : List GOp := [oo 11 (.mv (tt 0)), oo 12 (.call (ff 93) [tt 11, (ci 0)]), oo 5 (.al [.int .i64 0, .int .i64 0, .int .i64 0, .slice none 0 0]), on (.st 4 (tt 5) (tt 12))]
abbrev c_spec_l17Bad_2 : List GOp := [oo 13 (.mv (tt 1)), oo 14 (.call (ff 94) [tt 5, tt 13]), oo 6 (.mv (tt 14))]
abbrev c_spec_l17Bad_3 : List GOp := [oo 15 (.mv (tt 0)), oo 16 (.nc (tt 15)), oo 17 (.fa 0 (tt 16)), oo 18 (.call (ff 70) [tt 17, (ci 1)]), oo 7 (.mv (tt 18))]
abbrev c_spec_l17Bad_4 : List GOp := [oo 19 (.bs 1 []), oo 8 (.mv (tt 19))]
abbrev c_spec_l17Bad_5 : List GOp := [oo 9 (.mv (ci 0))]
abbrev c_spec_l17Bad_6 : List GOp := [oo 20 (.mv (tt 9)), oo 21 (.mv (tt 7)), oo 22 (.len (tt 21)), oo 23 (.bin .lss (tt 20) (tt 22))]
abbrev c_spec_l17Bad_7 : List GOp := [oo 26 (.mv (tt 0)), oo 27 (.mv (tt 7)), oo 28 (.mv (tt 9)), oo 29 (.ia 1 (tt 27) (tt 28)), oo 30 (.ld (tt 29)), oo 31 (.call (ff 87) [tt 26, tt 30]), oo 10 (.mv (tt 31))]
abbrev c_spec_l17Bad_8 : List DOp := [dl 0 (oo 32 (.mv (tt 6))), dl 1 (oo 33 (.mv (tt 10))), dl 2 (oo 34 (.mv (tt 10))), dl 3 (oo 35 (.mv (tt 0))), dl 4 (oo 36 (.nc (tt 35))), dl 5 (oo 37 (.fa 2 (tt 36))), dl 6 (oo 38 (.ld (tt 37))), dl 7 (oo 39 (.mv (tt 7))), dl 8 (oo 40 (.mv (tt 9))), dl 9 (oo 41 (.ia 1 (tt 39) (tt 40))), dl 10 (oo 42 (.ld (tt 41))), dl 11 (oo 43 (.ia 1 (tt 38) (tt 42))), dl 12 (oo 44 (.ld (tt 43))), dl 13 (oo 45 (.bin .add (tt 34) (tt 44))), dl 14 (oo 46 (.sl 1 (tt 32) (some (tt 33)) (some (tt 45)))), dh 15 [12, 10, 6] (oo 47 (.call (ff 95) [tt 46])), dl 16 (oo 48 (.un .not (tt 47)))]
abbrev c_spec_l17Bad_9 : List GOp := [oo 49 (.mv (tt 8)), oo 50 (.mv (tt 7)), oo 51 (.mv (tt 9)), oo 52 (.ia 1 (tt 50) (tt 51)), oo 53 (.ld (tt 52)), oo 54 (.bs 1 [tt 53]), oo 55 (.ap 1 8 [.int .i64 0] (tt 49) (tt 54)), oo 8 (.mv (tt 55))]
abbrev c_spec_l17Bad_10 : List GOp := [oo 24 (.mv (tt 9)), oo 25 (.bin .add (tt 24) (ci 1)), oo 9 (.mv (tt 25))]
abbrev c_spec_l17Bad_l0 : GCode := .seq (.seq (.reg c_spec_l17Bad_6) (.cond (tt 23) (.skip) (.exit 0))) (.seq (.blk 1 (.seq (.reg c_spec_l17Bad_7) (.seq (.dreg c_spec_l17Bad_8) (.cond (tt 48) (.reg c_spec_l17Bad_9) (.skip))))) (.reg c_spec_l17Bad_10))
abbrev c_spec_l17Bad_12 : List GOp := [oo 56 (.mv (tt 8)), oo 4 (.mv (tt 56))]
abbrev c_spec_l17Bad : GCode := .seq (.reg c_spec_l17Bad_0) (.seq (.reg c_spec_l17Bad_1) (.seq (.reg c_spec_l17Bad_2) (.seq (.reg c_spec_l17Bad_3) (.seq (.reg c_spec_l17Bad_4) (.seq (.seq (.reg c_spec_l17Bad_5) (.blk 0 (.loop c_spec_l17Bad_l0))) (.seq (.reg c_spec_l17Bad_12) (.ret)))))))
theorem c_spec_l17Bad_d : decFn Tryz.prog Tryz.f46 = some (57, [.t 4], c_spec_l17Bad) := by kernel_rfl
theorem c_spec_l17Bad_i {args : List Value} {G : GH} {K : Value → GH → Prop} (hn : args.length ≤ 57) (h : gW Tryz.prog c_spec_l17Bad (RetK [.t 4] K) (T0 args) G) : GC Tryz.prog 46 args G K := GC_intro mixed Tryz.func46 c_spec_l17Bad_d hn h
abbrev c_spec_l17Ends_0 : List GOp := [oo 4 (.mv (ci 0)), oo 5 (.mv (ci 0))]
abbrev c_spec_l17Ends_1 : List GOp := [oo 7 (.mv (tt 0)), oo 8 (.nc (tt 7)), oo 9 (.fa 0 (tt 8)), oo 10 (.mv (tt 1)), oo 11 (.call (ff 149) [tt 9, tt 10]), oo 6 (.mv (tt 11))]
abbrev c_spec_l17Ends_2 : List DOp := [dl 0 (oo 12 (.mv (tt 6))), dl 1 (oo 13 (.ia 1 (tt 12) (ci 1))), dl 2 (oo 14 (.ld (tt 13))), dl 3 (oo 15 (.mv (tt 6))), dl 4 (oo 16 (.ia 1 (tt 15) (ci 0))), dl 5 (oo 17 (.ld (tt 16))), dl 6 (oo 4 (.mv (tt 14))), dl 7 (oo 5 (.mv (tt 17)))]
abbrev c_spec_l17Ends : GCode := .seq (.reg c_spec_l17Ends_0) (.seq (.reg c_spec_l17Ends_1) (.seq (.dreg c_spec_l17Ends_2) (.ret)))
theorem c_spec_l17Ends_d : decFn Tryz.prog Tryz.f110 = some (18, [.t 4, .t 5], c_spec_l17Ends) := by kernel_rfl
theorem c_spec_l17Ends_i {args : List Value} {G : GH} {K : Value → GH → Prop} (hn : args.length ≤ 18) (h : gW Tryz.prog c_spec_l17Ends (RetK [.t 4, .t 5] K) (T0 args) G) : GC Tryz.prog 110 args G K := GC_intro mixed Tryz.func110 c_spec_l17Ends_d hn h
abbrev c_spec_l17Vertices_0 : List GOp := [oo 4 (.mv (cb  false))]
abbrev c_spec_l17Vertices_1 : List GOp := [oo 5 (.mv (tt 1)), oo 6 (.mv (tt 0)), oo 7 (.nc (tt 6)), oo 8 (.fa 0 (tt 7)), oo 9 (.call (ff 70) [tt 8, (ci 0)]), oo 10 (.len (tt 9)), oo 11 (.bin .sub (tt 10) (ci 1)), oo 12 (.call (ff 109) [tt 5, (ci 0), tt 11]), oo 4 (.mv (tt 12))]
abbrev c_spec_l17Vertices : GCode := .seq (.reg c_spec_l17Vertices_0) (.seq (.reg c_spec_l17Vertices_1) (.ret))
theorem c_spec_l17Vertices_d : decFn Tryz.prog Tryz.f55 = some (13, [.t 4], c_spec_l17Vertices) := by kernel_rfl
theorem c_spec_l17Vertices_i {args : List Value} {G : GH} {K : Value → GH → Prop} (hn : args.length ≤ 13) (h : gW Tryz.prog c_spec_l17Vertices (RetK [.t 4] K) (T0 args) G) : GC Tryz.prog 55 args G K := GC_intro mixed Tryz.func55 c_spec_l17Vertices_d hn h
abbrev c_spec_l17Within_0 : List GOp := [oo 6 (.mv (cb  false))]
abbrev c_spec_l17Within_1 : List GOp := [oo 7 (.mv (ci 0))]
abbrev c_spec_l17Within_2 : List GOp := [oo 10 (.mv (tt 7)), oo 11 (.mv (tt 1)), oo 12 (.len (tt 11)), oo 13 (.bin .lss (tt 10) (tt 12))]
abbrev c_spec_l17Within_3 : List GOp := [oo 17 (.mv (tt 0)), oo 18 (.mv (tt 1)), oo 19 (.mv (tt 7)), oo 20 (.ia 1 (tt 18) (tt 19)), oo 21 (.ld (tt 20)), oo 22 (.call (ff 110) [tt 17, tt 21]), oo 16 (.mv (tt 22)), oo 23 (.ex 0 (tt 16)), oo 24 (.ex 1 (tt 16)), oo 8 (.mv (tt 23)), oo 9 (.mv (tt 24))]
abbrev c_spec_l17Within_4 : List GOp := [oo 25 (.mv (tt 2)), oo 26 (.mv (tt 8)), oo 27 (.call (ff 111) [tt 25, tt 26]), oo 28 (.mv (tt 27)), og 29 28 true (.mv (tt 2)), og 30 28 true (.mv (tt 9)), og 31 28 true (.call (ff 111) [tt 29, tt 30]), oo 32 (.pick (tt 28) (tt 31) (cb  false))]
abbrev c_spec_l17Within_5 : List GOp := [oo 6 (.mv (cb  false))]
abbrev c_spec_l17Within_6 : List GOp := [oo 14 (.mv (tt 7)), oo 15 (.bin .add (tt 14) (ci 1)), oo 7 (.mv (tt 15))]
abbrev c_spec_l17Within_l0 : GCode := .seq (.seq (.reg c_spec_l17Within_2) (.cond (tt 13) (.skip) (.exit 0))) (.seq (.blk 1 (.seq (.reg c_spec_l17Within_3) (.seq (.reg c_spec_l17Within_4) (.cond (tt 32) (.seq (.reg c_spec_l17Within_5) (.ret)) (.skip))))) (.reg c_spec_l17Within_6))
abbrev c_spec_l17Within_8 : List GOp := [oo 6 (.mv (cb  true))]
abbrev c_spec_l17Within : GCode := .seq (.reg c_spec_l17Within_0) (.seq (.seq (.reg c_spec_l17Within_1) (.blk 0 (.loop c_spec_l17Within_l0))) (.seq (.reg c_spec_l17Within_8) (.ret)))
theorem c_spec_l17Within_d : decFn Tryz.prog Tryz.f56 = some (33, [.t 6], c_spec_l17Within) := by kernel_rfl
theorem c_spec_l17Within_i {args : List Value} {G : GH} {K : Value → GH → Prop} (hn : args.length ≤ 33) (h : gW Tryz.prog c_spec_l17Within (RetK [.t 6] K) (T0 args) G) : GC Tryz.prog 56 args G K := GC_intro mixed Tryz.func56 c_spec_l17Within_d hn h

end Go.Proofs.YtdnipjkpfpahmaaGreat.Gh
