/- Code trees of functions of the loaded program: each is what the decoding gives (checked by the kernel). -/
import Derived.Test.YtpcnfkamlfplmaaProg
import Derived.Test.YtpcnfkamlfplmaaFk
namespace Go.Proofs.Ytpcnfkamlfplmaa.Gh
open Go Go.RowKit Go.Proofs
set_option linter.unusedVariables false
theorem mixed : Try.prog.follows .mixedOrders = true := by kernel_rfl
/-! cmp.Compare[int64] (2 params, 20 temporaries) : 0=x 1=y 2=x 3=y 5=xNaN 6=yNaN
-/
abbrev c_cmp_Compare_int64_0 : List GOp := [oo 4 (.mv (ci 0))]
abbrev c_cmp_Compare_int64_1 : List GOp := [oo 7 (.mv (tt 0)), oo 8 (.call (ff 105) [tt 7]), oo 5 (.mv (tt 8))]
abbrev c_cmp_Compare_int64_2 : List GOp := [oo 9 (.mv (tt 1)), oo 10 (.call (ff 105) [tt 9]), oo 6 (.mv (tt 10))]
abbrev c_cmp_Compare_int64_3 : List GOp := [oo 11 (.mv (tt 5))]
abbrev c_cmp_Compare_int64_4 : List GOp := [oo 12 (.mv (tt 6))]
abbrev c_cmp_Compare_int64_5 : List GOp := [oo 4 (.mv (ci 0))]
abbrev c_cmp_Compare_int64_6 : List GOp := [oo 4 (.mv (ci (-1)))]
abbrev c_cmp_Compare_int64_7 : List GOp := [oo 13 (.mv (tt 6))]
abbrev c_cmp_Compare_int64_8 : List GOp := [oo 4 (.mv (ci 1))]
abbrev c_cmp_Compare_int64_9 : List GOp := [oo 14 (.mv (tt 0)), oo 15 (.mv (tt 1)), oo 16 (.bin .lss (tt 14) (tt 15))]
abbrev c_cmp_Compare_int64_10 : List GOp := [oo 4 (.mv (ci (-1)))]
abbrev c_cmp_Compare_int64_11 : List GOp := [oo 17 (.mv (tt 0)), oo 18 (.mv (tt 1)), oo 19 (.bin .gtr (tt 17) (tt 18))]
abbrev c_cmp_Compare_int64_12 : List GOp := [oo 4 (.mv (ci 1))]
abbrev c_cmp_Compare_int64_13 : List GOp := [oo 4 (.mv (ci 0))]
abbrev c_cmp_Compare_int64 : GCode := .seq (.reg c_cmp_Compare_int64_0) (.seq (.reg c_cmp_Compare_int64_1) (.seq (.reg c_cmp_Compare_int64_2) (.seq (.seq (.reg c_cmp_Compare_int64_3) (.cond (tt 11) (.seq (.seq (.reg c_cmp_Compare_int64_4) (.cond (tt 12) (.seq (.reg c_cmp_Compare_int64_5) (.ret)) (.skip))) (.seq (.reg c_cmp_Compare_int64_6) (.ret))) (.skip))) (.seq (.seq (.reg c_cmp_Compare_int64_7) (.cond (tt 13) (.seq (.reg c_cmp_Compare_int64_8) (.ret)) (.skip))) (.seq (.seq (.reg c_cmp_Compare_int64_9) (.cond (tt 16) (.seq (.reg c_cmp_Compare_int64_10) (.ret)) (.skip))) (.seq (.seq (.reg c_cmp_Compare_int64_11) (.cond (tt 19) (.seq (.reg c_cmp_Compare_int64_12) (.ret)) (.skip))) (.seq (.reg c_cmp_Compare_int64_13) (.ret))))))))
theorem c_cmp_Compare_int64_d : decFn Try.prog Try.f75 = some (20, [.t 4], c_cmp_Compare_int64) := by kernel_rfl
theorem c_cmp_Compare_int64_i {args : List Value} {G : GH} {K : Value → GH → Prop} (hn : args.length ≤ 20) (h : gW Try.prog c_cmp_Compare_int64 (RetK [.t 4] K) (T0 args) G) : GC Try.prog 75 args G K := GC_intro mixed Try.func75 c_cmp_Compare_int64_d hn h
/-! cmp.Or[int] (1 params, 18 temporaries) : 0=vals 1=vals 3=zero 4=_ 5=val
-/
abbrev c_cmp_Or_int_0 : List GOp := [oo 2 (.mv (ci 0))]
abbrev c_cmp_Or_int_1 : List GOp := [oo 3 (.mv (ci 0))]
abbrev c_cmp_Or_int_2 : List GOp := [oo 6 (.mv (tt 0)), oo 7 (.len (tt 6)), oo 8 (.mv (ci 0))]
abbrev c_cmp_Or_int_3 : List GOp := [oo 9 (.bin .lss (tt 8) (tt 7))]
abbrev c_cmp_Or_int_4 : List GOp := [oo 10 (.ia 1 (tt 6) (tt 8)), oo 11 (.ld (tt 10)), oo 5 (.mv (tt 11))]
abbrev c_cmp_Or_int_5 : List GOp := [oo 12 (.mv (tt 5)), oo 13 (.mv (tt 3)), oo 14 (.bin .neq (tt 12) (tt 13))]
abbrev c_cmp_Or_int_6 : List GOp := [oo 15 (.mv (tt 5)), oo 2 (.mv (tt 15))]
abbrev c_cmp_Or_int_7 : List GOp := [oo 16 (.bin .add (tt 8) (ci 1)), oo 8 (.mv (tt 16))]
abbrev c_cmp_Or_int_l0 : GCode := .seq (.reg c_cmp_Or_int_3) (.seq (.cond (tt 9) (.skip) (.exit 0)) (.seq (.blk 1 (.seq (.reg c_cmp_Or_int_4) (.seq (.reg c_cmp_Or_int_5) (.cond (tt 14) (.seq (.reg c_cmp_Or_int_6) (.ret)) (.skip))))) (.reg c_cmp_Or_int_7)))
abbrev c_cmp_Or_int_9 : List GOp := [oo 17 (.mv (tt 3)), oo 2 (.mv (tt 17))]
abbrev c_cmp_Or_int : GCode := .seq (.reg c_cmp_Or_int_0) (.seq (.reg c_cmp_Or_int_1) (.seq (.seq (.reg c_cmp_Or_int_2) (.blk 0 (.loop c_cmp_Or_int_l0))) (.seq (.reg c_cmp_Or_int_9) (.ret))))
theorem c_cmp_Or_int_d : decFn Try.prog Try.f74 = some (18, [.t 2], c_cmp_Or_int) := by kernel_rfl
theorem c_cmp_Or_int_i {args : List Value} {G : GH} {K : Value → GH → Prop} (hn : args.length ≤ 18) (h : gW Try.prog c_cmp_Or_int (RetK [.t 2] K) (T0 args) G) : GC Try.prog 74 args G K := GC_intro mixed Try.func74 c_cmp_Or_int_d hn h
/-! cmp.isNaN[int64] (1 params, 6 temporaries) : 0=x 1=x
-/
abbrev c_cmp_isNaN_int64_0 : List GOp := [oo 2 (.mv (cb  false))]
abbrev c_cmp_isNaN_int64_1 : List GOp := [oo 3 (.mv (tt 0)), oo 4 (.mv (tt 0)), oo 5 (.bin .neq (tt 3) (tt 4)), oo 2 (.mv (tt 5))]
abbrev c_cmp_isNaN_int64 : GCode := .seq (.reg c_cmp_isNaN_int64_0) (.seq (.reg c_cmp_isNaN_int64_1) (.ret))
theorem c_cmp_isNaN_int64_d : decFn Try.prog Try.f105 = some (6, [.t 2], c_cmp_isNaN_int64) := by kernel_rfl
theorem c_cmp_isNaN_int64_i {args : List Value} {G : GH} {K : Value → GH → Prop} (hn : args.length ≤ 6) (h : gW Try.prog c_cmp_isNaN_int64 (RetK [.t 2] K) (T0 args) G) : GC Try.prog 105 args G K := GC_intro mixed Try.func105 c_cmp_isNaN_int64_d hn h
/-! gosem.cut.init (0 params, 1 temporaries) : 
-/
abbrev c_gosem_cut_init_0 : List GOp := [oo 0 (.call (ff 1) [])]
abbrev c_gosem_cut_init : GCode := .reg c_gosem_cut_init_0
theorem c_gosem_cut_init_d : decFn Try.prog Try.f2 = some (1, [], c_gosem_cut_init) := by kernel_rfl
theorem c_gosem_cut_init_i {args : List Value} {G : GH} {K : Value → GH → Prop} (hn : args.length ≤ 1) (h : gW Try.prog c_gosem_cut_init (RetK [] K) (T0 args) G) : GC Try.prog 2 args G K := GC_intro mixed Try.func2 c_gosem_cut_init_d hn h
/-! loop.example/g01005/impl.CutCapacity (2 params, 16 temporaries) : 0=n 1=side 2=n 3=side
-/
abbrev c_impl_CutCapacity_0 : List GOp := [oo 2 (.bx (tt 0)), oo 4 (.mv (ci 0)), oo 5 (.mv (ci 0))]
abbrev c_impl_CutCapacity_1 : List GOp := [oo 6 (.ldn 4 (tt 2)), oo 7 (.call (ff 30) [tt 6]), oo 8 (.un .not (tt 7))]
abbrev c_impl_CutCapacity_2 : List GOp := [oo 4 (.mv (ci 0)), oo 5 (.mv (ci 1))]
abbrev c_impl_CutCapacity_3 : List GOp := [oo 9 (.ldn 4 (tt 2)), oo 10 (.mv (tt 1)), oo 11 (.call (ff 84) [tt 9, tt 10]), oo 12 (.un .not (tt 11))]
abbrev c_impl_CutCapacity_4 : List GOp := [oo 4 (.mv (ci 0)), oo 5 (.mv (ci 6))]
abbrev c_impl_CutCapacity_5 : List GOp := [oo 13 (.ldn 4 (tt 2)), oo 14 (.mv (tt 1)), oo 15 (.call (ff 98) [tt 13, tt 14]), oo 4 (.mv (tt 15)), oo 5 (.mv (ci 0))]
abbrev c_impl_CutCapacity : GCode := .seq (.reg c_impl_CutCapacity_0) (.seq (.seq (.reg c_impl_CutCapacity_1) (.cond (tt 8) (.seq (.reg c_impl_CutCapacity_2) (.ret)) (.skip))) (.seq (.seq (.reg c_impl_CutCapacity_3) (.cond (tt 12) (.seq (.reg c_impl_CutCapacity_4) (.ret)) (.skip))) (.seq (.reg c_impl_CutCapacity_5) (.ret))))
theorem c_impl_CutCapacity_d : decFn Try.prog Try.f52 = some (16, [.t 4, .t 5], c_impl_CutCapacity) := by kernel_rfl
theorem c_impl_CutCapacity_i {args : List Value} {G : GH} {K : Value → GH → Prop} (hn : args.length ≤ 16) (h : gW Try.prog c_impl_CutCapacity (RetK [.t 4, .t 5] K) (T0 args) G) : GC Try.prog 52 args G K := GC_intro mixed Try.func52 c_impl_CutCapacity_d hn h
/-! loop.example/g01005/impl.FlowValue (2 params, 20 temporaries) : 0=n 1=flow 2=n 3=flow
-/
abbrev c_impl_FlowValue_0 : List GOp := [oo 2 (.bx (tt 0)), oo 4 (.mv (ci 0)), oo 5 (.mv (ci 0))]
abbrev c_impl_FlowValue_1 : List GOp := [oo 6 (.ldn 4 (tt 2)), oo 7 (.call (ff 30) [tt 6]), oo 8 (.un .not (tt 7))]
abbrev c_impl_FlowValue_2 : List GOp := [oo 4 (.mv (ci 0)), oo 5 (.mv (ci 1))]
abbrev c_impl_FlowValue_3 : List GOp := [oo 9 (.ldn 4 (tt 2)), oo 10 (.mv (tt 1)), oo 11 (.call (ff 82) [tt 9, tt 10]), oo 12 (.un .not (tt 11))]
abbrev c_impl_FlowValue_4 : List GOp := [oo 4 (.mv (ci 0)), oo 5 (.mv (ci 6))]
abbrev c_impl_FlowValue_5 : List DOp := [dl 0 (oo 13 (.ldn 4 (tt 2))), dl 1 (oo 14 (.mv (tt 1))), dl 3 (oo 16 (.fa 2 (tt 2))), dl 4 (oo 17 (.ld (tt 16))), dh 2 [4] (oo 15 (.call (ff 86) [tt 13, tt 14])), dl 5 (oo 18 (.ia 1 (tt 15) (tt 17))), dl 6 (oo 19 (.ld (tt 18))), dl 7 (oo 4 (.mv (tt 19))), dl 8 (oo 5 (.mv (ci 0)))]
abbrev c_impl_FlowValue : GCode := .seq (.reg c_impl_FlowValue_0) (.seq (.seq (.reg c_impl_FlowValue_1) (.cond (tt 8) (.seq (.reg c_impl_FlowValue_2) (.ret)) (.skip))) (.seq (.seq (.reg c_impl_FlowValue_3) (.cond (tt 12) (.seq (.reg c_impl_FlowValue_4) (.ret)) (.skip))) (.seq (.dreg c_impl_FlowValue_5) (.ret))))
theorem c_impl_FlowValue_d : decFn Try.prog Try.f40 = some (20, [.t 4, .t 5], c_impl_FlowValue) := by kernel_rfl
theorem c_impl_FlowValue_i {args : List Value} {G : GH} {K : Value → GH → Prop} (hn : args.length ≤ 20) (h : gW Try.prog c_impl_FlowValue (RetK [.t 4, .t 5] K) (T0 args) G) : GC Try.prog 40 args G K := GC_intro mixed Try.func40 c_impl_FlowValue_d hn h
/-! loop.example/g01005/impl.IsCut (2 params, 12 temporaries) : 0=n 1=side 2=n 3=side
-/
abbrev c_impl_IsCut_0 : List GOp := [oo 2 (.bx (tt 0)), oo 4 (.mv (cb  false))]
abbrev c_impl_IsCut_1 : List GOp := [oo 5 (.ldn 4 (tt 2)), oo 6 (.call (ff 30) [tt 5]), oo 7 (.mv (tt 6)), og 8 7 true (.ldn 4 (tt 2)), og 9 7 true (.mv (tt 1)), og 10 7 true (.call (ff 84) [tt 8, tt 9]), oo 11 (.pick (tt 7) (tt 10) (cb  false)), oo 4 (.mv (tt 11))]
abbrev c_impl_IsCut : GCode := .seq (.reg c_impl_IsCut_0) (.seq (.reg c_impl_IsCut_1) (.ret))
theorem c_impl_IsCut_d : decFn Try.prog Try.f38 = some (12, [.t 4], c_impl_IsCut) := by kernel_rfl
theorem c_impl_IsCut_i {args : List Value} {G : GH} {K : Value → GH → Prop} (hn : args.length ≤ 12) (h : gW Try.prog c_impl_IsCut (RetK [.t 4] K) (T0 args) G) : GC Try.prog 38 args G K := GC_intro mixed Try.func38 c_impl_IsCut_d hn h
/-! loop.example/g01005/impl.IsFlow (2 params, 12 temporaries) : 0=n 1=flow 2=n 3=flow
-/
abbrev c_impl_IsFlow_0 : List GOp := [oo 2 (.bx (tt 0)), oo 4 (.mv (cb  false))]
abbrev c_impl_IsFlow_1 : List GOp := [oo 5 (.ldn 4 (tt 2)), oo 6 (.call (ff 30) [tt 5]), oo 7 (.mv (tt 6)), og 8 7 true (.ldn 4 (tt 2)), og 9 7 true (.mv (tt 1)), og 10 7 true (.call (ff 82) [tt 8, tt 9]), oo 11 (.pick (tt 7) (tt 10) (cb  false)), oo 4 (.mv (tt 11))]
abbrev c_impl_IsFlow : GCode := .seq (.reg c_impl_IsFlow_0) (.seq (.reg c_impl_IsFlow_1) (.ret))
theorem c_impl_IsFlow_d : decFn Try.prog Try.f36 = some (12, [.t 4], c_impl_IsFlow) := by kernel_rfl
theorem c_impl_IsFlow_i {args : List Value} {G : GH} {K : Value → GH → Prop} (hn : args.length ≤ 12) (h : gW Try.prog c_impl_IsFlow (RetK [.t 4] K) (T0 args) G) : GC Try.prog 36 args G K := GC_intro mixed Try.func36 c_impl_IsFlow_d hn h
/-! loop.example/g01005/impl.LoopRank (1 params, 69 temporaries) : 
-/
abbrev c_impl_LoopRank_0 : List GOp := [oo 1 (.bx (tt 0)), oo 2 (.mv (ci 0)), oo 3 (.mv (ci 0))]
abbrev c_impl_LoopRank_1 : List GOp := [oo 11 (.ldn 4 (tt 1)), oo 12 (.call (ff 30) [tt 11]), oo 13 (.un .not (tt 12))]
abbrev c_impl_LoopRank_2 : List GOp := [oo 2 (.mv (ci 0)), oo 3 (.mv (ci 1))]
abbrev c_impl_LoopRank_3 : List GOp := [oo 14 (.fa 0 (tt 1)), oo 15 (.ld (tt 14)), oo 16 (.call (ff 76) [tt 15]), oo 4 (.mv (tt 16))]
abbrev c_impl_LoopRank_4 : List GOp := [oo 5 (.mv (ci 0))]
abbrev c_impl_LoopRank_5 : List GOp := [oo 17 (.fa 3 (tt 1)), oo 18 (.ld (tt 17)), oo 19 (.len (tt 18)), oo 20 (.mv (ci 0))]
abbrev c_impl_LoopRank_6 : List GOp := [oo 21 (.bin .lss (tt 20) (tt 19))]
abbrev c_impl_LoopRank_7 : List GOp := [oo 22 (.ia 3 (tt 18) (tt 20)), oo 23 (.ldn 3 (tt 22)), oo 7 (.al [.int .i64 0, .int .i64 0, .int .i64 0]), on (.st 3 (tt 7) (tt 23))]
abbrev c_impl_LoopRank_8 : List DOp := [dl 0 (oo 24 (.mv (tt 4))), dl 1 (oo 25 (.fa 0 (tt 7))), dl 2 (oo 26 (.ld (tt 25))), dl 3 (oo 27 (.ia 1 (tt 24) (tt 26))), dl 4 (oo 28 (.ld (tt 27))), dl 5 (oo 29 (.mv (tt 4))), dl 6 (oo 30 (.fa 1 (tt 7))), dl 7 (oo 31 (.ld (tt 30))), dl 8 (oo 32 (.ia 1 (tt 29) (tt 31))), dl 9 (oo 33 (.ld (tt 32))), dl 10 (oo 34 (.mn [tt 28, tt 33])), dl 11 (oo 35 (.mv (tt 4))), dl 12 (oo 36 (.fa 0 (tt 7))), dl 13 (oo 37 (.ld (tt 36))), dl 14 (oo 38 (.ia 1 (tt 35) (tt 37))), dl 15 (oo 39 (.ld (tt 38))), dl 16 (oo 40 (.mv (tt 4))), dl 17 (oo 41 (.fa 1 (tt 7))), dl 18 (oo 42 (.ld (tt 41))), dl 19 (oo 43 (.ia 1 (tt 40) (tt 42))), dl 20 (oo 44 (.ld (tt 43))), dl 21 (oo 45 (.mx [tt 39, tt 44])), dl 22 (oo 8 (.mv (tt 34))), dl 23 (oo 9 (.mv (tt 45)))]
abbrev c_impl_LoopRank_9 : List GOp := [oo 46 (.mv (tt 8)), oo 47 (.mv (tt 9)), oo 48 (.bin .eql (tt 46) (tt 47))]
abbrev c_impl_LoopRank_10 : List GOp := [oo 49 (.mv (tt 5)), oo 50 (.bin .add (tt 49) (ci 1)), oo 5 (.mv (tt 50))]
abbrev c_impl_LoopRank_11 : List GOp := [oo 51 (.mv (tt 4)), oo 52 (.len (tt 51)), oo 53 (.mv (ci 0))]
abbrev c_impl_LoopRank_12 : List GOp := [oo 54 (.bin .lss (tt 53) (tt 52))]
abbrev c_impl_LoopRank_13 : List GOp := [oo 55 (.mv (tt 53)), oo 10 (.mv (tt 55))]
abbrev c_impl_LoopRank_14 : List GOp := [oo 56 (.mv (tt 4)), oo 57 (.mv (tt 10)), oo 58 (.ia 1 (tt 56) (tt 57)), oo 59 (.ld (tt 58)), oo 60 (.mv (tt 9)), oo 61 (.bin .eql (tt 59) (tt 60))]
abbrev c_impl_LoopRank_15 : List GOp := [oo 62 (.mv (tt 4)), oo 63 (.mv (tt 10)), oo 64 (.mv (tt 8)), oo 65 (.ia 1 (tt 62) (tt 63)), on (.st 1 (tt 65) (tt 64))]
abbrev c_impl_LoopRank_16 : List GOp := [oo 66 (.bin .add (tt 53) (ci 1)), oo 53 (.mv (tt 66))]
abbrev c_impl_LoopRank_l0 : GCode := .seq (.reg c_impl_LoopRank_12) (.seq (.cond (tt 54) (.skip) (.exit 2)) (.seq (.blk 3 (.seq (.reg c_impl_LoopRank_13) (.seq (.reg c_impl_LoopRank_14) (.cond (tt 61) (.reg c_impl_LoopRank_15) (.skip))))) (.reg c_impl_LoopRank_16)))
abbrev c_impl_LoopRank_18 : List GOp := [oo 67 (.bin .add (tt 20) (ci 1)), oo 20 (.mv (tt 67))]
abbrev c_impl_LoopRank_l1 : GCode := .seq (.reg c_impl_LoopRank_6) (.seq (.cond (tt 21) (.skip) (.exit 0)) (.seq (.blk 1 (.seq (.reg c_impl_LoopRank_7) (.seq (.dreg c_impl_LoopRank_8) (.seq (.seq (.reg c_impl_LoopRank_9) (.cond (tt 48) (.reg c_impl_LoopRank_10) (.skip))) (.seq (.reg c_impl_LoopRank_11) (.blk 2 (.loop c_impl_LoopRank_l0))))))) (.reg c_impl_LoopRank_18)))
abbrev c_impl_LoopRank_20 : List GOp := [oo 68 (.mv (tt 5)), oo 2 (.mv (tt 68)), oo 3 (.mv (ci 0))]
abbrev c_impl_LoopRank : GCode := .seq (.reg c_impl_LoopRank_0) (.seq (.seq (.reg c_impl_LoopRank_1) (.cond (tt 13) (.seq (.reg c_impl_LoopRank_2) (.ret)) (.skip))) (.seq (.reg c_impl_LoopRank_3) (.seq (.reg c_impl_LoopRank_4) (.seq (.seq (.reg c_impl_LoopRank_5) (.blk 0 (.loop c_impl_LoopRank_l1))) (.seq (.reg c_impl_LoopRank_20) (.ret))))))
theorem c_impl_LoopRank_d : decFn Try.prog Try.f32 = some (69, [.t 2, .t 3], c_impl_LoopRank) := by kernel_rfl
theorem c_impl_LoopRank_i {args : List Value} {G : GH} {K : Value → GH → Prop} (hn : args.length ≤ 69) (h : gW Try.prog c_impl_LoopRank (RetK [.t 2, .t 3] K) (T0 args) G) : GC Try.prog 32 args G K := GC_intro mixed Try.func32 c_impl_LoopRank_d hn h
/-! loop.example/g01005/impl.SameNetwork (2 params, 31 temporaries) : 0=a 1=b 2=a 3=b
-/
abbrev c_impl_SameNetwork_0 : List GOp := [oo 2 (.bx (tt 0)), oo 3 (.bx (tt 1)), oo 4 (.mv (cb  false))]
abbrev c_impl_SameNetwork_1 : List GOp := [oo 5 (.fa 0 (tt 2)), oo 6 (.ld (tt 5)), oo 7 (.fa 0 (tt 3)), oo 8 (.ld (tt 7)), oo 9 (.bin .eql (tt 6) (tt 8)), oo 10 (.mv (tt 9)), og 11 10 true (.fa 1 (tt 2)), og 12 10 true (.ld (tt 11)), og 13 10 true (.fa 1 (tt 3)), og 14 10 true (.ld (tt 13)), og 15 10 true (.bin .eql (tt 12) (tt 14)), oo 16 (.pick (tt 10) (tt 15) (cb  false)), oo 17 (.mv (tt 16)), og 18 17 true (.fa 2 (tt 2)), og 19 17 true (.ld (tt 18)), og 20 17 true (.fa 2 (tt 3)), og 21 17 true (.ld (tt 20)), og 22 17 true (.bin .eql (tt 19) (tt 21)), oo 23 (.pick (tt 17) (tt 22) (cb  false)), oo 24 (.mv (tt 23)), og 25 24 true (.fa 3 (tt 2)), og 26 24 true (.ld (tt 25)), og 27 24 true (.fa 3 (tt 3)), og 28 24 true (.ld (tt 27)), og 29 24 true (.call (ff 63) [tt 26, tt 28]), oo 30 (.pick (tt 24) (tt 29) (cb  false)), oo 4 (.mv (tt 30))]
abbrev c_impl_SameNetwork : GCode := .seq (.reg c_impl_SameNetwork_0) (.seq (.reg c_impl_SameNetwork_1) (.ret))
theorem c_impl_SameNetwork_d : decFn Try.prog Try.f22 = some (31, [.t 4], c_impl_SameNetwork) := by kernel_rfl
theorem c_impl_SameNetwork_i {args : List Value} {G : GH} {K : Value → GH → Prop} (hn : args.length ≤ 31) (h : gW Try.prog c_impl_SameNetwork (RetK [.t 4] K) (T0 args) G) : GC Try.prog 22 args G K := GC_intro mixed Try.func22 c_impl_SameNetwork_d hn h
/-! loop.example/g01005/impl.SameTable (2 params, 17 temporaries) : 0=a 1=b 2=a 3=b
-/
abbrev c_impl_SameTable_0 : List GOp := [oo 2 (.bx (tt 0)), oo 3 (.bx (tt 1)), oo 4 (.mv (cb  false))]
abbrev c_impl_SameTable_1 : List GOp := [oo 5 (.fa 0 (tt 2)), oo 6 (.ld (tt 5)), oo 7 (.fa 0 (tt 3)), oo 8 (.ld (tt 7)), oo 9 (.call (ff 69) [tt 6, tt 8]), oo 10 (.mv (tt 9)), og 11 10 true (.fa 1 (tt 2)), og 12 10 true (.ld (tt 11)), og 13 10 true (.fa 1 (tt 3)), og 14 10 true (.ld (tt 13)), og 15 10 true (.call (ff 70) [tt 12, tt 14]), oo 16 (.pick (tt 10) (tt 15) (cb  false)), oo 4 (.mv (tt 16))]
abbrev c_impl_SameTable : GCode := .seq (.reg c_impl_SameTable_0) (.seq (.reg c_impl_SameTable_1) (.ret))
theorem c_impl_SameTable_d : decFn Try.prog Try.f27 = some (17, [.t 4], c_impl_SameTable) := by kernel_rfl
theorem c_impl_SameTable_i {args : List Value} {G : GH} {K : Value → GH → Prop} (hn : args.length ≤ 17) (h : gW Try.prog c_impl_SameTable (RetK [.t 4] K) (T0 args) G) : GC Try.prog 27 args G K := GC_intro mixed Try.func27 c_impl_SameTable_d hn h
/-! loop.example/g01005/impl.SpreadOf (1 params, 19 temporaries) : 0=x 1=x
-/
abbrev c_impl_SpreadOf_0 : List GOp := [oo 2 (.mv (ci 0)), oo 3 (.mv (ci 0))]
abbrev c_impl_SpreadOf_1 : List GOp := [oo 4 (.mv (tt 0)), oo 5 (.len (tt 4)), oo 6 (.bin .gtr (tt 5) (ci 12)), oo 7 (.mv (tt 6)), og 8 7 false (.mv (tt 0)), og 9 7 false (.call (ff 56) [tt 8, (ff 57)]), oo 10 (.pick (tt 7) (cb  true) (tt 9))]
abbrev c_impl_SpreadOf_2 : List GOp := [oo 2 (.mv (ci 0)), oo 3 (.mv (ci 2))]
abbrev c_impl_SpreadOf_3 : List GOp := [oo 11 (.mv (tt 0)), oo 12 (.len (tt 11)), oo 13 (.bin .eql (tt 12) (ci 0))]
abbrev c_impl_SpreadOf_4 : List GOp := [oo 2 (.mv (ci 0)), oo 3 (.mv (ci 0))]
abbrev c_impl_SpreadOf_5 : List GOp := [oo 14 (.mv (tt 0)), oo 15 (.call (ff 59) [tt 14]), oo 16 (.mv (tt 0)), oo 17 (.call (ff 60) [tt 16]), oo 18 (.bin .sub (tt 15) (tt 17)), oo 2 (.mv (tt 18)), oo 3 (.mv (ci 0))]
abbrev c_impl_SpreadOf : GCode := .seq (.reg c_impl_SpreadOf_0) (.seq (.seq (.reg c_impl_SpreadOf_1) (.cond (tt 10) (.seq (.reg c_impl_SpreadOf_2) (.ret)) (.skip))) (.seq (.seq (.reg c_impl_SpreadOf_3) (.cond (tt 13) (.seq (.reg c_impl_SpreadOf_4) (.ret)) (.skip))) (.seq (.reg c_impl_SpreadOf_5) (.ret))))
theorem c_impl_SpreadOf_d : decFn Try.prog Try.f17 = some (19, [.t 2, .t 3], c_impl_SpreadOf) := by kernel_rfl
theorem c_impl_SpreadOf_i {args : List Value} {G : GH} {K : Value → GH → Prop} (hn : args.length ≤ 19) (h : gW Try.prog c_impl_SpreadOf (RetK [.t 2, .t 3] K) (T0 args) G) : GC Try.prog 17 args G K := GC_intro mixed Try.func17 c_impl_SpreadOf_d hn h
/-! loop.example/g01005/impl.SpreadOf$1 (1 params, 6 temporaries) : 0=n 1=n
-/
abbrev c_impl_SpreadOf_fn1_0 : List GOp := [oo 2 (.mv (cb  false))]
abbrev c_impl_SpreadOf_fn1_1 : List GOp := [oo 3 (.mv (tt 0)), oo 4 (.call (ff 58) [tt 3, (ci (-1000000)), (ci 1000000)]), oo 5 (.un .not (tt 4)), oo 2 (.mv (tt 5))]
abbrev c_impl_SpreadOf_fn1 : GCode := .seq (.reg c_impl_SpreadOf_fn1_0) (.seq (.reg c_impl_SpreadOf_fn1_1) (.ret))
theorem c_impl_SpreadOf_fn1_d : decFn Try.prog Try.f57 = some (6, [.t 2], c_impl_SpreadOf_fn1) := by kernel_rfl
theorem c_impl_SpreadOf_fn1_i {args : List Value} {G : GH} {K : Value → GH → Prop} (hn : args.length ≤ 6) (h : gW Try.prog c_impl_SpreadOf_fn1 (RetK [.t 2] K) (T0 args) G) : GC Try.prog 57 args G K := GC_intro mixed Try.func57 c_impl_SpreadOf_fn1_d hn h
/-! loop.example/g01005/impl.ValidGraph (1 params, 61 temporaries) : 0=g 1=g 3=k 4=e
-/
abbrev c_impl_ValidGraph_0 : List GOp := [oo 1 (.bx (tt 0)), oo 2 (.mv (cb  false))]
abbrev c_impl_ValidGraph_1 : List GOp := [oo 5 (.fa 1 (tt 1)), oo 6 (.ld (tt 5)), oo 7 (.len (tt 6)), oo 8 (.mv (ci 0))]
abbrev c_impl_ValidGraph_2 : List GOp := [oo 9 (.bin .lss (tt 8) (tt 7))]
abbrev c_impl_ValidGraph_3 : List GOp := [oo 10 (.mv (tt 8)), oo 11 (.ia 3 (tt 6) (tt 8)), oo 12 (.ldn 3 (tt 11)), oo 4 (.al [.int .i64 0, .int .i64 0, .int .i64 0]), oo 3 (.mv (tt 10)), on (.st 3 (tt 4) (tt 12))]
abbrev c_impl_ValidGraph_4 : List DOp := [dl 0 (oo 13 (.fa 0 (tt 4))), dl 1 (oo 14 (.ld (tt 13))), dl 2 (oo 15 (.bin .lss (tt 14) (ci 0))), dl 3 (oo 16 (.mv (tt 15))), dl 4 (og 17 16 false (.fa 0 (tt 4))), dl 5 (og 18 16 false (.ld (tt 17))), dl 6 (og 19 16 false (.fa 1 (tt 4))), dl 7 (og 20 16 false (.ld (tt 19))), dl 8 (og 21 16 false (.bin .geq (tt 18) (tt 20))), dl 9 (oo 22 (.pick (tt 16) (cb  true) (tt 21))), dl 10 (oo 23 (.mv (tt 22))), dl 11 (og 24 23 false (.fa 1 (tt 4))), dl 12 (og 25 23 false (.ld (tt 24))), dl 13 (og 26 23 false (.fa 0 (tt 1))), dl 14 (og 27 23 false (.ld (tt 26))), dl 15 (og 28 23 false (.bin .geq (tt 25) (tt 27))), dl 16 (oo 29 (.pick (tt 23) (cb  true) (tt 28))), dl 17 (oo 30 (.mv (tt 29))), dl 18 (og 31 30 false (.fa 2 (tt 4))), dl 19 (og 32 30 false (.ld (tt 31))), dh 20 [14, 12, 7, 5, 1] (og 33 30 false (.call (ff 58) [tt 32, (ci 1), (ci 9)])), dl 21 (og 34 30 false (.un .not (tt 33))), dl 22 (oo 35 (.pick (tt 30) (cb  true) (tt 34))), dl 23 (oo 36 (.mv (tt 35))), dl 24 (og 37 36 false (.mv (tt 3))), dl 25 (og 38 36 false (.bin .gtr (tt 37) (ci 0))), dl 26 (og 39 36 false (.mv (tt 38))), dl 27 (og 40 39 true (.fa 1 (tt 1))), dl 28 (og 41 39 true (.ld (tt 40))), dl 29 (og 42 39 true (.mv (tt 3))), dl 30 (og 43 39 true (.bin .sub (tt 42) (ci 1))), dl 31 (og 44 39 true (.ia 3 (tt 41) (tt 43))), dl 32 (og 45 39 true (.ldn 3 (tt 44))), dl 33 (og 46 39 true (.ldn 3 (tt 4))), dh 34 [28, 19, 14, 12, 7, 5, 1] (og 47 39 true (.call (ff 120) [tt 45, tt 46])), dl 35 (og 48 39 true (.bin .geq (tt 47) (ci 0))), dl 36 (og 49 36 false (.pick (tt 39) (tt 48) (cb  false))), dl 37 (oo 50 (.pick (tt 36) (cb  true) (tt 49)))]
abbrev c_impl_ValidGraph_5 : List GOp := [oo 2 (.mv (cb  false))]
abbrev c_impl_ValidGraph_6 : List GOp := [oo 51 (.bin .add (tt 8) (ci 1)), oo 8 (.mv (tt 51))]
abbrev c_impl_ValidGraph_l0 : GCode := .seq (.reg c_impl_ValidGraph_2) (.seq (.cond (tt 9) (.skip) (.exit 0)) (.seq (.blk 1 (.seq (.reg c_impl_ValidGraph_3) (.seq (.dreg c_impl_ValidGraph_4) (.cond (tt 50) (.seq (.reg c_impl_ValidGraph_5) (.ret)) (.skip))))) (.reg c_impl_ValidGraph_6)))
abbrev c_impl_ValidGraph_8 : List GOp := [oo 52 (.fa 0 (tt 1)), oo 53 (.ld (tt 52)), oo 54 (.call (ff 58) [tt 53, (ci 1), (ci 12)]), oo 55 (.mv (tt 54)), og 56 55 true (.fa 1 (tt 1)), og 57 55 true (.ld (tt 56)), og 58 55 true (.len (tt 57)), og 59 55 true (.bin .leq (tt 58) (ci 24)), oo 60 (.pick (tt 55) (tt 59) (cb  false)), oo 2 (.mv (tt 60))]
abbrev c_impl_ValidGraph : GCode := .seq (.reg c_impl_ValidGraph_0) (.seq (.seq (.reg c_impl_ValidGraph_1) (.blk 0 (.loop c_impl_ValidGraph_l0))) (.seq (.reg c_impl_ValidGraph_8) (.ret)))
theorem c_impl_ValidGraph_d : decFn Try.prog Try.f115 = some (61, [.t 2], c_impl_ValidGraph) := by kernel_rfl
theorem c_impl_ValidGraph_i {args : List Value} {G : GH} {K : Value → GH → Prop} (hn : args.length ≤ 61) (h : gW Try.prog c_impl_ValidGraph (RetK [.t 2] K) (T0 args) G) : GC Try.prog 115 args G K := GC_intro mixed Try.func115 c_impl_ValidGraph_d hn h
/-! loop.example/g01005/impl.ValidNetwork (1 params, 98 temporaries) : 
-/
abbrev c_impl_ValidNetwork_0 : List GOp := [oo 1 (.bx (tt 0)), oo 2 (.mv (cb  false))]
abbrev c_impl_ValidNetwork_1 : List GOp := [oo 5 (.fa 3 (tt 1)), oo 6 (.ld (tt 5)), oo 7 (.len (tt 6)), oo 8 (.mv (ci 0))]
abbrev c_impl_ValidNetwork_2 : List GOp := [oo 9 (.bin .lss (tt 8) (tt 7))]
abbrev c_impl_ValidNetwork_3 : List GOp := [oo 10 (.mv (tt 8)), oo 11 (.ia 3 (tt 6) (tt 8)), oo 12 (.ldn 3 (tt 11)), oo 4 (.al [.int .i64 0, .int .i64 0, .int .i64 0]), oo 3 (.mv (tt 10)), on (.st 3 (tt 4) (tt 12))]
abbrev c_impl_ValidNetwork_4 : List GOp := [oo 13 (.fa 0 (tt 4)), oo 14 (.ld (tt 13)), oo 15 (.fa 0 (tt 1)), oo 16 (.ld (tt 15)), oo 17 (.call (ff 73) [tt 14, tt 16]), oo 18 (.un .not (tt 17)), oo 19 (.mv (tt 18)), og 20 19 false (.fa 1 (tt 4)), og 21 19 false (.ld (tt 20)), og 22 19 false (.fa 0 (tt 1)), og 23 19 false (.ld (tt 22)), og 24 19 false (.call (ff 73) [tt 21, tt 23]), og 25 19 false (.un .not (tt 24)), oo 26 (.pick (tt 19) (cb  true) (tt 25)), oo 27 (.mv (tt 26)), og 28 27 false (.fa 0 (tt 4)), og 29 27 false (.ld (tt 28)), og 30 27 false (.fa 1 (tt 4)), og 31 27 false (.ld (tt 30)), og 32 27 false (.bin .eql (tt 29) (tt 31)), oo 33 (.pick (tt 27) (cb  true) (tt 32)), oo 34 (.mv (tt 33)), og 35 34 false (.fa 2 (tt 4)), og 36 34 false (.ld (tt 35)), og 37 34 false (.call (ff 58) [tt 36, (ci 0), (ci 1000000)]), og 38 34 false (.un .not (tt 37)), oo 39 (.pick (tt 34) (cb  true) (tt 38))]
abbrev c_impl_ValidNetwork_5 : List GOp := [oo 2 (.mv (cb  false))]
abbrev c_impl_ValidNetwork_6 : List DOp := [dl 0 (oo 40 (.mv (tt 3))), dl 1 (oo 41 (.bin .gtr (tt 40) (ci 0))), dl 2 (oo 42 (.mv (tt 41))), dl 3 (og 43 42 true (.fa 3 (tt 1))), dl 4 (og 44 42 true (.ld (tt 43))), dl 5 (og 45 42 true (.mv (tt 3))), dl 6 (og 46 42 true (.bin .sub (tt 45) (ci 1))), dl 7 (og 47 42 true (.ia 3 (tt 44) (tt 46))), dl 8 (og 48 42 true (.fa 0 (tt 47))), dl 9 (og 49 42 true (.ld (tt 48))), dl 10 (og 50 42 true (.fa 0 (tt 4))), dl 11 (og 51 42 true (.ld (tt 50))), dl 13 (og 53 42 true (.fa 3 (tt 1))), dl 14 (og 54 42 true (.ld (tt 53))), dl 15 (og 55 42 true (.mv (tt 3))), dl 16 (og 56 42 true (.bin .sub (tt 55) (ci 1))), dl 17 (og 57 42 true (.ia 3 (tt 54) (tt 56))), dl 18 (og 58 42 true (.fa 1 (tt 57))), dl 19 (og 59 42 true (.ld (tt 58))), dl 20 (og 60 42 true (.fa 1 (tt 4))), dl 21 (og 61 42 true (.ld (tt 60))), dh 12 [21, 19, 14, 4] (og 52 42 true (.call (ff 75) [tt 49, tt 51])), dh 22 [14, 11, 9, 4] (og 62 42 true (.call (ff 75) [tt 59, tt 61])), dh 23 [21, 19, 14, 11, 9, 4] (og 63 42 true (.bs 1 [tt 52, tt 62])), dh 24 [21, 19, 14, 11, 9, 4] (og 64 42 true (.call (ff 74) [tt 63])), dl 25 (og 65 42 true (.bin .geq (tt 64) (ci 0))), dl 26 (oo 66 (.pick (tt 42) (tt 65) (cb  false)))]
abbrev c_impl_ValidNetwork_7 : List GOp := [oo 2 (.mv (cb  false))]
abbrev c_impl_ValidNetwork_8 : List GOp := [oo 67 (.bin .add (tt 8) (ci 1)), oo 8 (.mv (tt 67))]
abbrev c_impl_ValidNetwork_l0 : GCode := .seq (.reg c_impl_ValidNetwork_2) (.seq (.cond (tt 9) (.skip) (.exit 0)) (.seq (.blk 1 (.seq (.reg c_impl_ValidNetwork_3) (.seq (.seq (.reg c_impl_ValidNetwork_4) (.cond (tt 39) (.seq (.reg c_impl_ValidNetwork_5) (.ret)) (.skip))) (.seq (.dreg c_impl_ValidNetwork_6) (.cond (tt 66) (.seq (.reg c_impl_ValidNetwork_7) (.ret)) (.skip)))))) (.reg c_impl_ValidNetwork_8)))
abbrev c_impl_ValidNetwork_10 : List GOp := [oo 68 (.fa 0 (tt 1)), oo 69 (.ld (tt 68)), oo 70 (.call (ff 58) [tt 69, (ci 2), (ci 12)]), oo 71 (.mv (tt 70)), og 72 71 true (.fa 1 (tt 1)), og 73 71 true (.ld (tt 72)), og 74 71 true (.fa 0 (tt 1)), og 75 71 true (.ld (tt 74)), og 76 71 true (.call (ff 73) [tt 73, tt 75]), oo 77 (.pick (tt 71) (tt 76) (cb  false)), oo 78 (.mv (tt 77)), og 79 78 true (.fa 2 (tt 1)), og 80 78 true (.ld (tt 79)), og 81 78 true (.fa 0 (tt 1)), og 82 78 true (.ld (tt 81)), og 83 78 true (.call (ff 73) [tt 80, tt 82]), oo 84 (.pick (tt 78) (tt 83) (cb  false)), oo 85 (.mv (tt 84)), og 86 85 true (.fa 1 (tt 1)), og 87 85 true (.ld (tt 86)), og 88 85 true (.fa 2 (tt 1)), og 89 85 true (.ld (tt 88)), og 90 85 true (.bin .neq (tt 87) (tt 89)), oo 91 (.pick (tt 85) (tt 90) (cb  false)), oo 92 (.mv (tt 91)), og 93 92 true (.fa 3 (tt 1)), og 94 92 true (.ld (tt 93)), og 95 92 true (.len (tt 94)), og 96 92 true (.bin .leq (tt 95) (ci 24)), oo 97 (.pick (tt 92) (tt 96) (cb  false)), oo 2 (.mv (tt 97))]
abbrev c_impl_ValidNetwork : GCode := .seq (.reg c_impl_ValidNetwork_0) (.seq (.seq (.reg c_impl_ValidNetwork_1) (.blk 0 (.loop c_impl_ValidNetwork_l0))) (.seq (.reg c_impl_ValidNetwork_10) (.ret)))
theorem c_impl_ValidNetwork_d : decFn Try.prog Try.f30 = some (98, [.t 2], c_impl_ValidNetwork) := by kernel_rfl
theorem c_impl_ValidNetwork_i {args : List Value} {G : GH} {K : Value → GH → Prop} (hn : args.length ≤ 98) (h : gW Try.prog c_impl_ValidNetwork (RetK [.t 2] K) (T0 args) G) : GC Try.prog 30 args G K := GC_intro mixed Try.func30 c_impl_ValidNetwork_d hn h
/-! loop.example/g01005/impl.ValidTable (1 params, 56 temporaries) : 0=t 1=t 3=k 4=row
-/
abbrev c_impl_ValidTable_0 : List GOp := [oo 1 (.bx (tt 0)), oo 2 (.mv (cb  false))]
abbrev c_impl_ValidTable_1 : List GOp := [oo 5 (.fa 0 (tt 1)), oo 6 (.ld (tt 5)), oo 7 (.call (ff 78) [tt 6]), oo 8 (.un .not (tt 7)), oo 9 (.mv (tt 8)), og 10 9 false (.fa 0 (tt 1)), og 11 9 false (.ld (tt 10)), og 12 9 false (.call (ff 79) [tt 11, (ci 8)]), og 13 9 false (.un .not (tt 12)), oo 14 (.pick (tt 9) (cb  true) (tt 13)), oo 15 (.mv (tt 14)), og 16 15 false (.fa 1 (tt 1)), og 17 15 false (.ld (tt 16)), og 18 15 false (.len (tt 17)), og 19 15 false (.bin .gtr (tt 18) (ci 24)), oo 20 (.pick (tt 15) (cb  true) (tt 19))]
abbrev c_impl_ValidTable_2 : List GOp := [oo 2 (.mv (cb  false))]
abbrev c_impl_ValidTable_3 : List GOp := [oo 21 (.fa 1 (tt 1)), oo 22 (.ld (tt 21)), oo 23 (.len (tt 22)), oo 24 (.mv (ci 0))]
abbrev c_impl_ValidTable_4 : List GOp := [oo 25 (.bin .lss (tt 24) (tt 23))]
abbrev c_impl_ValidTable_5 : List GOp := [oo 26 (.mv (tt 24)), oo 27 (.ia 1 (tt 22) (tt 24)), oo 28 (.ld (tt 27)), oo 3 (.mv (tt 26)), oo 4 (.mv (tt 28))]
abbrev c_impl_ValidTable_6 : List GOp := [oo 29 (.mv (tt 4)), oo 30 (.len (tt 29)), oo 31 (.fa 0 (tt 1)), oo 32 (.ld (tt 31)), oo 33 (.len (tt 32)), oo 34 (.bin .neq (tt 30) (tt 33)), oo 35 (.mv (tt 34)), og 36 35 false (.mv (tt 4)), og 37 35 false (.call (ff 79) [tt 36, (ci 4)]), og 38 35 false (.un .not (tt 37)), oo 39 (.pick (tt 35) (cb  true) (tt 38)), oo 40 (.mv (tt 39)), og 41 40 false (.mv (tt 3)), og 42 40 false (.bin .gtr (tt 41) (ci 0)), og 43 40 false (.mv (tt 42)), og 44 43 true (.fa 1 (tt 1)), og 45 43 true (.ld (tt 44)), og 46 43 true (.mv (tt 3)), og 47 43 true (.bin .sub (tt 46) (ci 1)), og 48 43 true (.ia 1 (tt 45) (tt 47)), og 49 43 true (.ld (tt 48)), og 50 43 true (.mv (tt 4)), og 51 43 true (.call (ff 80) [tt 49, tt 50]), og 52 43 true (.bin .geq (tt 51) (ci 0)), og 53 40 false (.pick (tt 43) (tt 52) (cb  false)), oo 54 (.pick (tt 40) (cb  true) (tt 53))]
abbrev c_impl_ValidTable_7 : List GOp := [oo 2 (.mv (cb  false))]
abbrev c_impl_ValidTable_8 : List GOp := [oo 55 (.bin .add (tt 24) (ci 1)), oo 24 (.mv (tt 55))]
abbrev c_impl_ValidTable_l0 : GCode := .seq (.reg c_impl_ValidTable_4) (.seq (.cond (tt 25) (.skip) (.exit 0)) (.seq (.blk 1 (.seq (.reg c_impl_ValidTable_5) (.seq (.reg c_impl_ValidTable_6) (.cond (tt 54) (.seq (.reg c_impl_ValidTable_7) (.ret)) (.skip))))) (.reg c_impl_ValidTable_8)))
abbrev c_impl_ValidTable_10 : List GOp := [oo 2 (.mv (cb  true))]
abbrev c_impl_ValidTable : GCode := .seq (.reg c_impl_ValidTable_0) (.seq (.seq (.reg c_impl_ValidTable_1) (.cond (tt 20) (.seq (.reg c_impl_ValidTable_2) (.ret)) (.skip))) (.seq (.seq (.reg c_impl_ValidTable_3) (.blk 0 (.loop c_impl_ValidTable_l0))) (.seq (.reg c_impl_ValidTable_10) (.ret))))
theorem c_impl_ValidTable_d : decFn Try.prog Try.f34 = some (56, [.t 2], c_impl_ValidTable) := by kernel_rfl
theorem c_impl_ValidTable_i {args : List Value} {G : GH} {K : Value → GH → Prop} (hn : args.length ≤ 56) (h : gW Try.prog c_impl_ValidTable (RetK [.t 2] K) (T0 args) G) : GC Try.prog 34 args G K := GC_intro mixed Try.func34 c_impl_ValidTable_d hn h
/-! loop.example/g01005/impl.ValidTables (1 params, 11 temporaries) : 0=list 1=list
-/
abbrev c_impl_ValidTables_0 : List GOp := [oo 2 (.mv (cb  false))]
abbrev c_impl_ValidTables_1 : List GOp := [oo 3 (.mv (tt 0)), oo 4 (.len (tt 3)), oo 5 (.bin .leq (tt 4) (ci 6)), oo 6 (.mv (tt 5)), og 7 6 true (.mv (tt 0)), og 8 6 true (.call (ff 88) [tt 7, (ff 89)]), og 9 6 true (.un .not (tt 8)), oo 10 (.pick (tt 6) (tt 9) (cb  false)), oo 2 (.mv (tt 10))]
abbrev c_impl_ValidTables : GCode := .seq (.reg c_impl_ValidTables_0) (.seq (.reg c_impl_ValidTables_1) (.ret))
theorem c_impl_ValidTables_d : decFn Try.prog Try.f44 = some (11, [.t 2], c_impl_ValidTables) := by kernel_rfl
theorem c_impl_ValidTables_i {args : List Value} {G : GH} {K : Value → GH → Prop} (hn : args.length ≤ 11) (h : gW Try.prog c_impl_ValidTables (RetK [.t 2] K) (T0 args) G) : GC Try.prog 44 args G K := GC_intro mixed Try.func44 c_impl_ValidTables_d hn h
/-! loop.example/g01005/impl.ValidTables$1 (1 params, 6 temporaries) : 0=t 1=t
-/
abbrev c_impl_ValidTables_fn1_0 : List GOp := [oo 1 (.bx (tt 0)), oo 2 (.mv (cb  false))]
abbrev c_impl_ValidTables_fn1_1 : List GOp := [oo 3 (.ldn 2 (tt 1)), oo 4 (.call (ff 34) [tt 3]), oo 5 (.un .not (tt 4)), oo 2 (.mv (tt 5))]
abbrev c_impl_ValidTables_fn1 : GCode := .seq (.reg c_impl_ValidTables_fn1_0) (.seq (.reg c_impl_ValidTables_fn1_1) (.ret))
theorem c_impl_ValidTables_fn1_d : decFn Try.prog Try.f89 = some (6, [.t 2], c_impl_ValidTables_fn1) := by kernel_rfl
theorem c_impl_ValidTables_fn1_i {args : List Value} {G : GH} {K : Value → GH → Prop} (hn : args.length ≤ 6) (h : gW Try.prog c_impl_ValidTables_fn1 (RetK [.t 2] K) (T0 args) G) : GC Try.prog 89 args G K := GC_intro mixed Try.func89 c_impl_ValidTables_fn1_d hn h
/-! loop.example/g01005/impl.WeightedMean (2 params, 53 temporaries) : 0=g 1=x 2=g 3=x 6=code 7=sum 8=weight 9=_ 10=e
-/
abbrev c_impl_WeightedMean_0 : List GOp := [oo 2 (.bx (tt 0)), oo 4 (.mv (ci 0)), oo 5 (.mv (ci 0))]
abbrev c_impl_WeightedMean_1 : List GOp := [oo 11 (.ldn 2 (tt 2)), oo 12 (.mv (tt 1)), oo 13 (.call (ff 94) [tt 11, tt 12]), oo 6 (.mv (tt 13))]
abbrev c_impl_WeightedMean_2 : List GOp := [oo 14 (.mv (tt 6)), oo 15 (.bin .neq (tt 14) (ci 0))]
abbrev c_impl_WeightedMean_3 : List GOp := [oo 16 (.mv (tt 6)), oo 4 (.mv (ci 0)), oo 5 (.mv (tt 16))]
abbrev c_impl_WeightedMean_4 : List GOp := [oo 17 (.fa 1 (tt 2)), oo 18 (.ld (tt 17)), oo 19 (.len (tt 18)), oo 20 (.bin .eql (tt 19) (ci 0))]
abbrev c_impl_WeightedMean_5 : List GOp := [oo 4 (.mv (ci 0)), oo 5 (.mv (ci 6))]
abbrev c_impl_WeightedMean_6 : List GOp := [oo 7 (.mv (ci 0)), oo 8 (.mv (ci 0))]
abbrev c_impl_WeightedMean_7 : List GOp := [oo 21 (.fa 1 (tt 2)), oo 22 (.ld (tt 21)), oo 23 (.len (tt 22)), oo 24 (.mv (ci 0))]
abbrev c_impl_WeightedMean_8 : List GOp := [oo 25 (.bin .lss (tt 24) (tt 23))]
abbrev c_impl_WeightedMean_9 : List GOp := [oo 26 (.ia 3 (tt 22) (tt 24)), oo 27 (.ldn 3 (tt 26)), oo 10 (.al [.int .i64 0, .int .i64 0, .int .i64 0]), on (.st 3 (tt 10) (tt 27))]
abbrev c_impl_WeightedMean_10 : List DOp := [dl 0 (oo 28 (.mv (tt 7))), dl 1 (oo 29 (.fa 2 (tt 10))), dl 2 (oo 30 (.ld (tt 29))), dl 3 (oo 31 (.mv (tt 1))), dl 4 (oo 32 (.fa 0 (tt 10))), dl 5 (oo 33 (.ld (tt 32))), dl 6 (oo 34 (.ia 1 (tt 31) (tt 33))), dl 7 (oo 35 (.ld (tt 34))), dl 8 (oo 36 (.mv (tt 1))), dl 9 (oo 37 (.fa 1 (tt 10))), dl 10 (oo 38 (.ld (tt 37))), dl 11 (oo 39 (.ia 1 (tt 36) (tt 38))), dl 12 (oo 40 (.ld (tt 39))), dl 13 (oo 41 (.bin .add (tt 35) (tt 40))), dl 14 (oo 42 (.bin .mul (tt 30) (tt 41))), dl 15 (oo 43 (.bin .add (tt 28) (tt 42))), dl 16 (oo 7 (.mv (tt 43)))]
abbrev c_impl_WeightedMean_11 : List GOp := [oo 44 (.mv (tt 8)), oo 45 (.fa 2 (tt 10)), oo 46 (.ld (tt 45)), oo 47 (.bin .mul (ci 2) (tt 46)), oo 48 (.bin .add (tt 44) (tt 47)), oo 8 (.mv (tt 48))]
abbrev c_impl_WeightedMean_12 : List GOp := [oo 49 (.bin .add (tt 24) (ci 1)), oo 24 (.mv (tt 49))]
abbrev c_impl_WeightedMean_l0 : GCode := .seq (.reg c_impl_WeightedMean_8) (.seq (.cond (tt 25) (.skip) (.exit 0)) (.seq (.blk 1 (.seq (.reg c_impl_WeightedMean_9) (.seq (.dreg c_impl_WeightedMean_10) (.reg c_impl_WeightedMean_11)))) (.reg c_impl_WeightedMean_12)))
abbrev c_impl_WeightedMean_14 : List GOp := [oo 50 (.mv (tt 7)), oo 51 (.mv (tt 8)), oo 52 (.call (ff 95) [tt 50, tt 51]), oo 4 (.mv (tt 52)), oo 5 (.mv (ci 0))]
abbrev c_impl_WeightedMean : GCode := .seq (.reg c_impl_WeightedMean_0) (.seq (.seq (.reg c_impl_WeightedMean_1) (.seq (.reg c_impl_WeightedMean_2) (.cond (tt 15) (.seq (.reg c_impl_WeightedMean_3) (.ret)) (.skip)))) (.seq (.seq (.reg c_impl_WeightedMean_4) (.cond (tt 20) (.seq (.reg c_impl_WeightedMean_5) (.ret)) (.skip))) (.seq (.reg c_impl_WeightedMean_6) (.seq (.seq (.reg c_impl_WeightedMean_7) (.blk 0 (.loop c_impl_WeightedMean_l0))) (.seq (.reg c_impl_WeightedMean_14) (.ret))))))
theorem c_impl_WeightedMean_d : decFn Try.prog Try.f49 = some (53, [.t 4, .t 5], c_impl_WeightedMean) := by kernel_rfl
theorem c_impl_WeightedMean_i {args : List Value} {G : GH} {K : Value → GH → Prop} (hn : args.length ≤ 53) (h : gW Try.prog c_impl_WeightedMean (RetK [.t 4, .t 5] K) (T0 args) G) : GC Try.prog 49 args G K := GC_intro mixed Try.func49 c_impl_WeightedMean_d hn h
/-! loop.example/g01005/impl.abs (1 params, 8 temporaries) : 0=n 1=n
-/
abbrev c_impl_abs_0 : List GOp := [oo 2 (.mv (ci 0))]
abbrev c_impl_abs_1 : List GOp := [oo 3 (.mv (tt 0)), oo 4 (.bin .lss (tt 3) (ci 0))]
abbrev c_impl_abs_2 : List GOp := [oo 5 (.mv (tt 0)), oo 6 (.un .neg (tt 5)), oo 2 (.mv (tt 6))]
abbrev c_impl_abs_3 : List GOp := [oo 7 (.mv (tt 0)), oo 2 (.mv (tt 7))]
abbrev c_impl_abs : GCode := .seq (.reg c_impl_abs_0) (.seq (.seq (.reg c_impl_abs_1) (.cond (tt 4) (.seq (.reg c_impl_abs_2) (.ret)) (.skip))) (.seq (.reg c_impl_abs_3) (.ret)))
theorem c_impl_abs_d : decFn Try.prog Try.f117 = some (8, [.t 2], c_impl_abs) := by kernel_rfl
theorem c_impl_abs_i {args : List Value} {G : GH} {K : Value → GH → Prop} (hn : args.length ≤ 8) (h : gW Try.prog c_impl_abs (RetK [.t 2] K) (T0 args) G) : GC Try.prog 117 args G K := GC_intro mixed Try.func117 c_impl_abs_d hn h
/-! loop.example/g01005/impl.areElements (2 params, 9 temporaries) : 0=list 1=p 2=list 3=p
-/
abbrev c_impl_areElements_0 : List GOp := [oo 3 (.bx (tt 1)), oo 4 (.mv (cb  false))]
abbrev c_impl_areElements_1 : List GOp := [oo 5 (.mv (tt 0)), oo 6 (.mf (.func 108) [] [tt 3]), oo 7 (.call (ff 56) [tt 5, tt 6]), oo 8 (.un .not (tt 7)), oo 4 (.mv (tt 8))]
abbrev c_impl_areElements : GCode := .seq (.reg c_impl_areElements_0) (.seq (.reg c_impl_areElements_1) (.ret))
theorem c_impl_areElements_d : decFn Try.prog Try.f79 = some (9, [.t 4], c_impl_areElements) := by kernel_rfl
theorem c_impl_areElements_i {args : List Value} {G : GH} {K : Value → GH → Prop} (hn : args.length ≤ 9) (h : gW Try.prog c_impl_areElements (RetK [.t 4] K) (T0 args) G) : GC Try.prog 79 args G K := GC_intro mixed Try.func79 c_impl_areElements_d hn h
/-! loop.example/g01005/impl.areElements$1 (1 params, 8 temporaries) : 0=a 2=a
-/
abbrev c_impl_areElements_fn1_0 : List GOp := [oo 3 (.mv (cb  false))]
abbrev c_impl_areElements_fn1_1 : List GOp := [oo 4 (.mv (tt 0)), oo 5 (.ld (tt 1)), oo 6 (.call (ff 73) [tt 4, tt 5]), oo 7 (.un .not (tt 6)), oo 3 (.mv (tt 7))]
abbrev c_impl_areElements_fn1 : GCode := .seq (.reg c_impl_areElements_fn1_0) (.seq (.reg c_impl_areElements_fn1_1) (.ret))
theorem c_impl_areElements_fn1_d : decFn Try.prog Try.f108 = some (8, [.t 3], c_impl_areElements_fn1) := by kernel_rfl
theorem c_impl_areElements_fn1_i {args : List Value} {G : GH} {K : Value → GH → Prop} (hn : args.length ≤ 8) (h : gW Try.prog c_impl_areElements_fn1 (RetK [.t 3] K) (T0 args) G) : GC Try.prog 108 args G K := GC_intro mixed Try.func108 c_impl_areElements_fn1_d hn h
/-! loop.example/g01005/impl.areSame (2 params, 8 temporaries) : 0=a 1=b 2=a 3=b
-/
abbrev c_impl_areSame_0 : List GOp := [oo 4 (.mv (cb  false))]
abbrev c_impl_areSame_1 : List GOp := [oo 5 (.mv (tt 0)), oo 6 (.mv (tt 1)), oo 7 (.call (ff 104) [tt 5, tt 6, (ff 69)]), oo 4 (.mv (tt 7))]
abbrev c_impl_areSame : GCode := .seq (.reg c_impl_areSame_0) (.seq (.reg c_impl_areSame_1) (.ret))
theorem c_impl_areSame_d : decFn Try.prog Try.f70 = some (8, [.t 4], c_impl_areSame) := by kernel_rfl
theorem c_impl_areSame_i {args : List Value} {G : GH} {K : Value → GH → Prop} (hn : args.length ≤ 8) (h : gW Try.prog c_impl_areSame (RetK [.t 4] K) (T0 args) G) : GC Try.prog 70 args G K := GC_intro mixed Try.func70 c_impl_areSame_d hn h
/-! loop.example/g01005/impl.capacity (2 params, 32 temporaries) : 0=n 1=side 2=n 3=side 5=sum 6=_ 7=a
-/
abbrev c_impl_capacity_0 : List GOp := [oo 2 (.bx (tt 0)), oo 4 (.mv (ci 0))]
abbrev c_impl_capacity_1 : List GOp := [oo 5 (.mv (ci 0))]
abbrev c_impl_capacity_2 : List GOp := [oo 8 (.fa 3 (tt 2)), oo 9 (.ld (tt 8)), oo 10 (.len (tt 9)), oo 11 (.mv (ci 0))]
abbrev c_impl_capacity_3 : List GOp := [oo 12 (.bin .lss (tt 11) (tt 10))]
abbrev c_impl_capacity_4 : List GOp := [oo 13 (.ia 3 (tt 9) (tt 11)), oo 14 (.ldn 3 (tt 13)), oo 7 (.al [.int .i64 0, .int .i64 0, .int .i64 0]), on (.st 3 (tt 7) (tt 14))]
abbrev c_impl_capacity_5 : List GOp := [oo 15 (.mv (tt 1)), oo 16 (.fa 0 (tt 7)), oo 17 (.ld (tt 16)), oo 18 (.call (ff 110) [tt 15, tt 17]), oo 19 (.mv (tt 18)), og 20 19 true (.mv (tt 1)), og 21 19 true (.fa 1 (tt 7)), og 22 19 true (.ld (tt 21)), og 23 19 true (.call (ff 110) [tt 20, tt 22]), og 24 19 true (.un .not (tt 23)), oo 25 (.pick (tt 19) (tt 24) (cb  false))]
abbrev c_impl_capacity_6 : List GOp := [oo 26 (.mv (tt 5)), oo 27 (.fa 2 (tt 7)), oo 28 (.ld (tt 27)), oo 29 (.bin .add (tt 26) (tt 28)), oo 5 (.mv (tt 29))]
abbrev c_impl_capacity_7 : List GOp := [oo 30 (.bin .add (tt 11) (ci 1)), oo 11 (.mv (tt 30))]
abbrev c_impl_capacity_l0 : GCode := .seq (.reg c_impl_capacity_3) (.seq (.cond (tt 12) (.skip) (.exit 0)) (.seq (.blk 1 (.seq (.reg c_impl_capacity_4) (.seq (.reg c_impl_capacity_5) (.cond (tt 25) (.reg c_impl_capacity_6) (.skip))))) (.reg c_impl_capacity_7)))
abbrev c_impl_capacity_9 : List GOp := [oo 31 (.mv (tt 5)), oo 4 (.mv (tt 31))]
abbrev c_impl_capacity : GCode := .seq (.reg c_impl_capacity_0) (.seq (.reg c_impl_capacity_1) (.seq (.seq (.reg c_impl_capacity_2) (.blk 0 (.loop c_impl_capacity_l0))) (.seq (.reg c_impl_capacity_9) (.ret))))
theorem c_impl_capacity_d : decFn Try.prog Try.f98 = some (32, [.t 4], c_impl_capacity) := by kernel_rfl
theorem c_impl_capacity_i {args : List Value} {G : GH} {K : Value → GH → Prop} (hn : args.length ≤ 32) (h : gW Try.prog c_impl_capacity (RetK [.t 4] K) (T0 args) G) : GC Try.prog 98 args G K := GC_intro mixed Try.func98 c_impl_capacity_d hn h
/-! loop.example/g01005/impl.compareEdges (2 params, 17 temporaries) : 0=a 1=b 2=a 3=b
-/
abbrev c_impl_compareEdges_0 : List GOp := [oo 2 (.bx (tt 0)), oo 3 (.bx (tt 1)), oo 4 (.mv (ci 0))]
abbrev c_impl_compareEdges_1 : List DOp := [dl 0 (oo 5 (.fa 0 (tt 2))), dl 1 (oo 6 (.ld (tt 5))), dl 2 (oo 7 (.fa 0 (tt 3))), dl 3 (oo 8 (.ld (tt 7))), dl 5 (oo 10 (.fa 1 (tt 2))), dl 6 (oo 11 (.ld (tt 10))), dl 7 (oo 12 (.fa 1 (tt 3))), dl 8 (oo 13 (.ld (tt 12))), dh 4 [8, 6] (oo 9 (.call (ff 75) [tt 6, tt 8])), dh 9 [3, 1] (oo 14 (.call (ff 75) [tt 11, tt 13])), dh 10 [8, 6, 3, 1] (oo 15 (.bs 1 [tt 9, tt 14])), dh 11 [8, 6, 3, 1] (oo 16 (.call (ff 74) [tt 15])), dl 12 (oo 4 (.mv (tt 16)))]
abbrev c_impl_compareEdges : GCode := .seq (.reg c_impl_compareEdges_0) (.seq (.dreg c_impl_compareEdges_1) (.ret))
theorem c_impl_compareEdges_d : decFn Try.prog Try.f120 = some (17, [.t 4], c_impl_compareEdges) := by kernel_rfl
theorem c_impl_compareEdges_i {args : List Value} {G : GH} {K : Value → GH → Prop} (hn : args.length ≤ 17) (h : gW Try.prog c_impl_compareEdges (RetK [.t 4] K) (T0 args) G) : GC Try.prog 120 args G K := GC_intro mixed Try.func120 c_impl_compareEdges_d hn h
/-! loop.example/g01005/impl.excess (2 params, 43 temporaries) : 0=n 1=flow 2=n 3=flow 5=sums 6=k 7=a
-/
abbrev c_impl_excess_0 : List GOp := [oo 2 (.bx (tt 0)), oo 4 (.mv (.const (.slice none 0 0)))]
abbrev c_impl_excess_1 : List GOp := [oo 8 (.fa 0 (tt 2)), oo 9 (.ld (tt 8)), oo 10 (.mk 1 8 [.int .i64 0] (tt 9) (tt 9)), oo 5 (.mv (tt 10))]
abbrev c_impl_excess_2 : List GOp := [oo 11 (.fa 3 (tt 2)), oo 12 (.ld (tt 11)), oo 13 (.len (tt 12)), oo 14 (.mv (ci 0))]
abbrev c_impl_excess_3 : List GOp := [oo 15 (.bin .lss (tt 14) (tt 13))]
abbrev c_impl_excess_4 : List GOp := [oo 16 (.mv (tt 14)), oo 17 (.ia 3 (tt 12) (tt 14)), oo 18 (.ldn 3 (tt 17)), oo 7 (.al [.int .i64 0, .int .i64 0, .int .i64 0]), oo 6 (.mv (tt 16)), on (.st 3 (tt 7) (tt 18))]
abbrev c_impl_excess_5 : List DOp := [dl 0 (oo 19 (.mv (tt 5))), dl 1 (oo 20 (.fa 1 (tt 7))), dl 2 (oo 21 (.ld (tt 20))), dl 3 (oo 22 (.ia 1 (tt 19) (tt 21))), dl 4 (oo 23 (.ld (tt 22))), dl 5 (oo 24 (.mv (tt 1))), dl 6 (oo 25 (.mv (tt 6))), dl 7 (oo 26 (.ia 1 (tt 24) (tt 25))), dl 8 (oo 27 (.ld (tt 26))), dl 9 (oo 28 (.bin .add (tt 23) (tt 27))), dl 10 (oo 29 (.ia 1 (tt 19) (tt 21))), dh 11 [] (on (.st 1 (tt 29) (tt 28)))]
abbrev c_impl_excess_6 : List DOp := [dl 0 (oo 30 (.mv (tt 5))), dl 1 (oo 31 (.fa 0 (tt 7))), dl 2 (oo 32 (.ld (tt 31))), dl 3 (oo 33 (.ia 1 (tt 30) (tt 32))), dl 4 (oo 34 (.ld (tt 33))), dl 5 (oo 35 (.mv (tt 1))), dl 6 (oo 36 (.mv (tt 6))), dl 7 (oo 37 (.ia 1 (tt 35) (tt 36))), dl 8 (oo 38 (.ld (tt 37))), dl 9 (oo 39 (.bin .sub (tt 34) (tt 38))), dl 10 (oo 40 (.ia 1 (tt 30) (tt 32))), dh 11 [] (on (.st 1 (tt 40) (tt 39)))]
abbrev c_impl_excess_7 : List GOp := [oo 41 (.bin .add (tt 14) (ci 1)), oo 14 (.mv (tt 41))]
abbrev c_impl_excess_l0 : GCode := .seq (.reg c_impl_excess_3) (.seq (.cond (tt 15) (.skip) (.exit 0)) (.seq (.blk 1 (.seq (.reg c_impl_excess_4) (.seq (.dreg c_impl_excess_5) (.dreg c_impl_excess_6)))) (.reg c_impl_excess_7)))
abbrev c_impl_excess_9 : List GOp := [oo 42 (.mv (tt 5)), oo 4 (.mv (tt 42))]
abbrev c_impl_excess : GCode := .seq (.reg c_impl_excess_0) (.seq (.reg c_impl_excess_1) (.seq (.seq (.reg c_impl_excess_2) (.blk 0 (.loop c_impl_excess_l0))) (.seq (.reg c_impl_excess_9) (.ret))))
theorem c_impl_excess_d : decFn Try.prog Try.f86 = some (43, [.t 4], c_impl_excess) := by kernel_rfl
theorem c_impl_excess_i {args : List Value} {G : GH} {K : Value → GH → Prop} (hn : args.length ≤ 43) (h : gW Try.prog c_impl_excess (RetK [.t 4] K) (T0 args) G) : GC Try.prog 86 args G K := GC_intro mixed Try.func86 c_impl_excess_d hn h
/-! loop.example/g01005/impl.firstChoice (1 params, 15 temporaries) : 0=m 1=m 3=list 4=k
-/
abbrev c_impl_firstChoice_0 : List GOp := [oo 2 (.mv (.const (.slice none 0 0)))]
abbrev c_impl_firstChoice_1 : List GOp := [oo 3 (.mv (.const (.slice none 0 0)))]
abbrev c_impl_firstChoice_2 : List GOp := [oo 5 (.mv (tt 0)), oo 6 (.mv (ci 0))]
abbrev c_impl_firstChoice_3 : List GOp := [oo 7 (.bin .lss (tt 6) (tt 5))]
abbrev c_impl_firstChoice_4 : List GOp := [oo 8 (.mv (tt 6)), oo 4 (.mv (tt 8))]
abbrev c_impl_firstChoice_5 : List GOp := [oo 9 (.mv (tt 3)), oo 10 (.mv (tt 4)), oo 11 (.bs 1 [tt 10]), oo 12 (.ap 1 8 [.int .i64 0] (tt 9) (tt 11)), oo 3 (.mv (tt 12))]
abbrev c_impl_firstChoice_6 : List GOp := [oo 13 (.bin .add (tt 6) (ci 1)), oo 6 (.mv (tt 13))]
abbrev c_impl_firstChoice_l0 : GCode := .seq (.reg c_impl_firstChoice_3) (.seq (.cond (tt 7) (.skip) (.exit 0)) (.seq (.blk 1 (.seq (.reg c_impl_firstChoice_4) (.reg c_impl_firstChoice_5))) (.reg c_impl_firstChoice_6)))
abbrev c_impl_firstChoice_8 : List GOp := [oo 14 (.mv (tt 3)), oo 2 (.mv (tt 14))]
abbrev c_impl_firstChoice : GCode := .seq (.reg c_impl_firstChoice_0) (.seq (.reg c_impl_firstChoice_1) (.seq (.seq (.reg c_impl_firstChoice_2) (.blk 0 (.loop c_impl_firstChoice_l0))) (.seq (.reg c_impl_firstChoice_8) (.ret))))
theorem c_impl_firstChoice_d : decFn Try.prog Try.f76 = some (15, [.t 2], c_impl_firstChoice) := by kernel_rfl
theorem c_impl_firstChoice_i {args : List Value} {G : GH} {K : Value → GH → Prop} (hn : args.length ≤ 15) (h : gW Try.prog c_impl_firstChoice (RetK [.t 2] K) (T0 args) G) : GC Try.prog 76 args G K := GC_intro mixed Try.func76 c_impl_firstChoice_d hn h
/-! loop.example/g01005/impl.isCut (2 params, 26 temporaries) : 0=n 1=side 2=n 3=side
-/
abbrev c_impl_isCut_0 : List GOp := [oo 2 (.bx (tt 0)), oo 4 (.mv (cb  false))]
abbrev c_impl_isCut_1 : List GOp := [oo 5 (.mv (tt 1)), oo 6 (.call (ff 78) [tt 5]), oo 7 (.mv (tt 6)), og 8 7 true (.mv (tt 1)), og 9 7 true (.fa 0 (tt 2)), og 10 7 true (.ld (tt 9)), og 11 7 true (.call (ff 79) [tt 8, tt 10]), oo 12 (.pick (tt 7) (tt 11) (cb  false)), oo 13 (.mv (tt 12)), og 14 13 true (.mv (tt 1)), og 15 13 true (.fa 1 (tt 2)), og 16 13 true (.ld (tt 15)), og 17 13 true (.call (ff 110) [tt 14, tt 16]), oo 18 (.pick (tt 13) (tt 17) (cb  false)), oo 19 (.mv (tt 18)), og 20 19 true (.mv (tt 1)), og 21 19 true (.fa 2 (tt 2)), og 22 19 true (.ld (tt 21)), og 23 19 true (.call (ff 110) [tt 20, tt 22]), og 24 19 true (.un .not (tt 23)), oo 25 (.pick (tt 19) (tt 24) (cb  false)), oo 4 (.mv (tt 25))]
abbrev c_impl_isCut : GCode := .seq (.reg c_impl_isCut_0) (.seq (.reg c_impl_isCut_1) (.ret))
theorem c_impl_isCut_d : decFn Try.prog Try.f84 = some (26, [.t 4], c_impl_isCut) := by kernel_rfl
theorem c_impl_isCut_i {args : List Value} {G : GH} {K : Value → GH → Prop} (hn : args.length ≤ 26) (h : gW Try.prog c_impl_isCut (RetK [.t 4] K) (T0 args) G) : GC Try.prog 84 args G K := GC_intro mixed Try.func84 c_impl_isCut_d hn h
/-! loop.example/g01005/impl.isElement (2 params, 9 temporaries) : 0=a 1=p 2=a 3=p
-/
abbrev c_impl_isElement_0 : List GOp := [oo 4 (.mv (cb  false))]
abbrev c_impl_isElement_1 : List GOp := [oo 5 (.mv (tt 0)), oo 6 (.mv (tt 1)), oo 7 (.bin .sub (tt 6) (ci 1)), oo 8 (.call (ff 58) [tt 5, (ci 0), tt 7]), oo 4 (.mv (tt 8))]
abbrev c_impl_isElement : GCode := .seq (.reg c_impl_isElement_0) (.seq (.reg c_impl_isElement_1) (.ret))
theorem c_impl_isElement_d : decFn Try.prog Try.f73 = some (9, [.t 4], c_impl_isElement) := by kernel_rfl
theorem c_impl_isElement_i {args : List Value} {G : GH} {K : Value → GH → Prop} (hn : args.length ≤ 9) (h : gW Try.prog c_impl_isElement (RetK [.t 4] K) (T0 args) G) : GC Try.prog 73 args G K := GC_intro mixed Try.func73 c_impl_isElement_d hn h
/-! loop.example/g01005/impl.isFlow (2 params, 56 temporaries) : 0=n 1=flow 2=n 3=flow 5=k 6=a 7=v 8=sum
-/
abbrev c_impl_isFlow_0 : List GOp := [oo 2 (.bx (tt 0)), oo 4 (.mv (cb  false))]
abbrev c_impl_isFlow_1 : List GOp := [oo 9 (.mv (tt 1)), oo 10 (.len (tt 9)), oo 11 (.fa 3 (tt 2)), oo 12 (.ld (tt 11)), oo 13 (.len (tt 12)), oo 14 (.bin .neq (tt 10) (tt 13))]
abbrev c_impl_isFlow_2 : List GOp := [oo 4 (.mv (cb  false))]
abbrev c_impl_isFlow_3 : List GOp := [oo 15 (.fa 3 (tt 2)), oo 16 (.ld (tt 15)), oo 17 (.len (tt 16)), oo 18 (.mv (ci 0))]
abbrev c_impl_isFlow_4 : List GOp := [oo 19 (.bin .lss (tt 18) (tt 17))]
abbrev c_impl_isFlow_5 : List GOp := [oo 20 (.mv (tt 18)), oo 21 (.ia 3 (tt 16) (tt 18)), oo 22 (.ldn 3 (tt 21)), oo 6 (.al [.int .i64 0, .int .i64 0, .int .i64 0]), oo 5 (.mv (tt 20)), on (.st 3 (tt 6) (tt 22))]
abbrev c_impl_isFlow_6 : List DOp := [dl 0 (oo 23 (.mv (tt 1))), dl 1 (oo 24 (.mv (tt 5))), dl 2 (oo 25 (.ia 1 (tt 23) (tt 24))), dl 3 (oo 26 (.ld (tt 25))), dl 4 (oo 27 (.fa 2 (tt 6))), dl 5 (oo 28 (.ld (tt 27))), dh 6 [] (oo 29 (.call (ff 58) [tt 26, (ci 0), tt 28])), dl 7 (oo 30 (.un .not (tt 29)))]
abbrev c_impl_isFlow_7 : List GOp := [oo 4 (.mv (cb  false))]
abbrev c_impl_isFlow_8 : List GOp := [oo 31 (.bin .add (tt 18) (ci 1)), oo 18 (.mv (tt 31))]
abbrev c_impl_isFlow_l0 : GCode := .seq (.reg c_impl_isFlow_4) (.seq (.cond (tt 19) (.skip) (.exit 0)) (.seq (.blk 1 (.seq (.reg c_impl_isFlow_5) (.seq (.dreg c_impl_isFlow_6) (.cond (tt 30) (.seq (.reg c_impl_isFlow_7) (.ret)) (.skip))))) (.reg c_impl_isFlow_8)))
abbrev c_impl_isFlow_10 : List GOp := [oo 32 (.ldn 4 (tt 2)), oo 33 (.mv (tt 1)), oo 34 (.call (ff 86) [tt 32, tt 33]), oo 35 (.len (tt 34)), oo 36 (.mv (ci 0))]
abbrev c_impl_isFlow_11 : List GOp := [oo 37 (.bin .lss (tt 36) (tt 35))]
abbrev c_impl_isFlow_12 : List GOp := [oo 38 (.mv (tt 36)), oo 39 (.ia 1 (tt 34) (tt 36)), oo 40 (.ld (tt 39)), oo 7 (.mv (tt 38)), oo 8 (.mv (tt 40))]
abbrev c_impl_isFlow_13 : List GOp := [oo 41 (.mv (tt 8)), oo 42 (.bin .neq (tt 41) (ci 0)), oo 43 (.mv (tt 42)), og 44 43 true (.mv (tt 7)), og 45 43 true (.fa 1 (tt 2)), og 46 43 true (.ld (tt 45)), og 47 43 true (.bin .neq (tt 44) (tt 46)), oo 48 (.pick (tt 43) (tt 47) (cb  false)), oo 49 (.mv (tt 48)), og 50 49 true (.mv (tt 7)), og 51 49 true (.fa 2 (tt 2)), og 52 49 true (.ld (tt 51)), og 53 49 true (.bin .neq (tt 50) (tt 52)), oo 54 (.pick (tt 49) (tt 53) (cb  false))]
abbrev c_impl_isFlow_14 : List GOp := [oo 4 (.mv (cb  false))]
abbrev c_impl_isFlow_15 : List GOp := [oo 55 (.bin .add (tt 36) (ci 1)), oo 36 (.mv (tt 55))]
abbrev c_impl_isFlow_l1 : GCode := .seq (.reg c_impl_isFlow_11) (.seq (.cond (tt 37) (.skip) (.exit 2)) (.seq (.blk 3 (.seq (.reg c_impl_isFlow_12) (.seq (.reg c_impl_isFlow_13) (.cond (tt 54) (.seq (.reg c_impl_isFlow_14) (.ret)) (.skip))))) (.reg c_impl_isFlow_15)))
abbrev c_impl_isFlow_17 : List GOp := [oo 4 (.mv (cb  true))]
abbrev c_impl_isFlow : GCode := .seq (.reg c_impl_isFlow_0) (.seq (.seq (.reg c_impl_isFlow_1) (.cond (tt 14) (.seq (.reg c_impl_isFlow_2) (.ret)) (.skip))) (.seq (.seq (.reg c_impl_isFlow_3) (.blk 0 (.loop c_impl_isFlow_l0))) (.seq (.seq (.reg c_impl_isFlow_10) (.blk 2 (.loop c_impl_isFlow_l1))) (.seq (.reg c_impl_isFlow_17) (.ret)))))
theorem c_impl_isFlow_d : decFn Try.prog Try.f82 = some (56, [.t 4], c_impl_isFlow) := by kernel_rfl
theorem c_impl_isFlow_i {args : List Value} {G : GH} {K : Value → GH → Prop} (hn : args.length ≤ 56) (h : gW Try.prog c_impl_isFlow (RetK [.t 4] K) (T0 args) G) : GC Try.prog 82 args G K := GC_intro mixed Try.func82 c_impl_isFlow_d hn h
/-! loop.example/g01005/impl.isGraphVector (2 params, 15 temporaries) : 0=g 1=x 2=g 3=x
-/
abbrev c_impl_isGraphVector_0 : List GOp := [oo 2 (.bx (tt 0)), oo 4 (.mv (cb  false))]
abbrev c_impl_isGraphVector_1 : List DOp := [dl 0 (oo 5 (.mv (tt 1))), dl 2 (oo 7 (.fa 0 (tt 2))), dl 3 (oo 8 (.ld (tt 7))), dh 1 [3] (oo 6 (.call (ff 121) [tt 5])), dl 4 (oo 9 (.bin .eql (tt 6) (tt 8))), dl 5 (oo 10 (.mv (tt 9))), dl 6 (og 11 10 true (.mv (tt 1))), dh 7 [3] (og 12 10 true (.call (ff 56) [tt 11, (ff 122)])), dl 8 (og 13 10 true (.un .not (tt 12))), dl 9 (oo 14 (.pick (tt 10) (tt 13) (cb  false))), dl 10 (oo 4 (.mv (tt 14)))]
abbrev c_impl_isGraphVector : GCode := .seq (.reg c_impl_isGraphVector_0) (.seq (.dreg c_impl_isGraphVector_1) (.ret))
theorem c_impl_isGraphVector_d : decFn Try.prog Try.f116 = some (15, [.t 4], c_impl_isGraphVector) := by kernel_rfl
theorem c_impl_isGraphVector_i {args : List Value} {G : GH} {K : Value → GH → Prop} (hn : args.length ≤ 15) (h : gW Try.prog c_impl_isGraphVector (RetK [.t 4] K) (T0 args) G) : GC Try.prog 116 args G K := GC_intro mixed Try.func116 c_impl_isGraphVector_d hn h
/-! loop.example/g01005/impl.isGraphVector$1 (1 params, 6 temporaries) : 0=n 1=n
-/
abbrev c_impl_isGraphVector_fn1_0 : List GOp := [oo 2 (.mv (cb  false))]
abbrev c_impl_isGraphVector_fn1_1 : List GOp := [oo 3 (.mv (tt 0)), oo 4 (.call (ff 58) [tt 3, (ci (-1000000)), (ci 1000000)]), oo 5 (.un .not (tt 4)), oo 2 (.mv (tt 5))]
abbrev c_impl_isGraphVector_fn1 : GCode := .seq (.reg c_impl_isGraphVector_fn1_0) (.seq (.reg c_impl_isGraphVector_fn1_1) (.ret))
theorem c_impl_isGraphVector_fn1_d : decFn Try.prog Try.f122 = some (6, [.t 2], c_impl_isGraphVector_fn1) := by kernel_rfl
theorem c_impl_isGraphVector_fn1_i {args : List Value} {G : GH} {K : Value → GH → Prop} (hn : args.length ≤ 6) (h : gW Try.prog c_impl_isGraphVector_fn1 (RetK [.t 2] K) (T0 args) G) : GC Try.prog 122 args G K := GC_intro mixed Try.func122 c_impl_isGraphVector_fn1_d hn h
/-! loop.example/g01005/impl.isRising (1 params, 20 temporaries) : 0=list 1=list 3=k
-/
abbrev c_impl_isRising_0 : List GOp := [oo 2 (.mv (cb  false))]
abbrev c_impl_isRising_1 : List GOp := [oo 3 (.mv (ci 1))]
abbrev c_impl_isRising_2 : List GOp := [oo 4 (.mv (tt 3)), oo 5 (.mv (tt 0)), oo 6 (.len (tt 5)), oo 7 (.bin .lss (tt 4) (tt 6))]
abbrev c_impl_isRising_3 : List DOp := [dl 0 (oo 10 (.mv (tt 0))), dl 1 (oo 11 (.mv (tt 3))), dl 2 (oo 12 (.bin .sub (tt 11) (ci 1))), dl 3 (oo 13 (.ia 1 (tt 10) (tt 12))), dl 4 (oo 14 (.ld (tt 13))), dl 5 (oo 15 (.mv (tt 0))), dl 6 (oo 16 (.mv (tt 3))), dl 7 (oo 17 (.ia 1 (tt 15) (tt 16))), dl 8 (oo 18 (.ld (tt 17))), dl 9 (oo 19 (.bin .geq (tt 14) (tt 18)))]
abbrev c_impl_isRising_4 : List GOp := [oo 2 (.mv (cb  false))]
abbrev c_impl_isRising_5 : List GOp := [oo 8 (.mv (tt 3)), oo 9 (.bin .add (tt 8) (ci 1)), oo 3 (.mv (tt 9))]
abbrev c_impl_isRising_l0 : GCode := .seq (.seq (.reg c_impl_isRising_2) (.cond (tt 7) (.skip) (.exit 0))) (.seq (.blk 1 (.seq (.dreg c_impl_isRising_3) (.cond (tt 19) (.seq (.reg c_impl_isRising_4) (.ret)) (.skip)))) (.reg c_impl_isRising_5))
abbrev c_impl_isRising_7 : List GOp := [oo 2 (.mv (cb  true))]
abbrev c_impl_isRising : GCode := .seq (.reg c_impl_isRising_0) (.seq (.seq (.reg c_impl_isRising_1) (.blk 0 (.loop c_impl_isRising_l0))) (.seq (.reg c_impl_isRising_7) (.ret)))
theorem c_impl_isRising_d : decFn Try.prog Try.f78 = some (20, [.t 2], c_impl_isRising) := by kernel_rfl
theorem c_impl_isRising_i {args : List Value} {G : GH} {K : Value → GH → Prop} (hn : args.length ≤ 20) (h : gW Try.prog c_impl_isRising (RetK [.t 2] K) (T0 args) G) : GC Try.prog 78 args G K := GC_intro mixed Try.func78 c_impl_isRising_d hn h
/-! loop.example/g01005/impl.nearest (2 params, 30 temporaries) : 0=a 1=b 2=a 3=b 5=q 6=rest
-/
abbrev c_impl_nearest_0 : List GOp := [oo 4 (.mv (ci 0))]
abbrev c_impl_nearest_1 : List DOp := [dl 0 (oo 7 (.mv (tt 0))), dl 1 (oo 8 (.mv (tt 1))), dl 2 (oo 9 (.bin .quo (tt 7) (tt 8))), dl 3 (oo 10 (.mv (tt 0))), dl 4 (oo 11 (.mv (tt 1))), dl 5 (oo 12 (.bin .rem (tt 10) (tt 11))), dh 6 [] (oo 13 (.call (ff 117) [tt 12])), dl 7 (oo 5 (.mv (tt 9))), dl 8 (oo 6 (.mv (tt 13)))]
abbrev c_impl_nearest_2 : List GOp := [oo 14 (.mv (tt 6)), oo 15 (.mv (tt 1)), oo 16 (.call (ff 117) [tt 15]), oo 17 (.mv (tt 6)), oo 18 (.bin .sub (tt 16) (tt 17)), oo 19 (.bin .geq (tt 14) (tt 18))]
abbrev c_impl_nearest_3 : List GOp := [oo 20 (.mv (tt 0)), oo 21 (.bin .lss (tt 20) (ci 0)), oo 22 (.mv (tt 1)), oo 23 (.bin .lss (tt 22) (ci 0)), oo 24 (.eqb true (tt 21) (tt 23))]
abbrev c_impl_nearest_4 : List GOp := [oo 25 (.mv (tt 5)), oo 26 (.bin .sub (tt 25) (ci 1)), oo 4 (.mv (tt 26))]
abbrev c_impl_nearest_5 : List GOp := [oo 27 (.mv (tt 5)), oo 28 (.bin .add (tt 27) (ci 1)), oo 4 (.mv (tt 28))]
abbrev c_impl_nearest_6 : List GOp := [oo 29 (.mv (tt 5)), oo 4 (.mv (tt 29))]
abbrev c_impl_nearest : GCode := .seq (.reg c_impl_nearest_0) (.seq (.dreg c_impl_nearest_1) (.seq (.seq (.reg c_impl_nearest_2) (.cond (tt 19) (.seq (.seq (.reg c_impl_nearest_3) (.cond (tt 24) (.seq (.reg c_impl_nearest_4) (.ret)) (.skip))) (.seq (.reg c_impl_nearest_5) (.ret))) (.skip))) (.seq (.reg c_impl_nearest_6) (.ret))))
theorem c_impl_nearest_d : decFn Try.prog Try.f95 = some (30, [.t 4], c_impl_nearest) := by kernel_rfl
theorem c_impl_nearest_i {args : List Value} {G : GH} {K : Value → GH → Prop} (hn : args.length ≤ 30) (h : gW Try.prog c_impl_nearest (RetK [.t 4] K) (T0 args) G) : GC Try.prog 95 args G K := GC_intro mixed Try.func95 c_impl_nearest_d hn h
/-! loop.example/g01005/impl.size[int64] (1 params, 5 temporaries) : 0=list 1=list
-/
abbrev c_impl_size_int64_0 : List GOp := [oo 2 (.mv (ci 0))]
abbrev c_impl_size_int64_1 : List GOp := [oo 3 (.mv (tt 0)), oo 4 (.len (tt 3)), oo 2 (.mv (tt 4))]
abbrev c_impl_size_int64 : GCode := .seq (.reg c_impl_size_int64_0) (.seq (.reg c_impl_size_int64_1) (.ret))
theorem c_impl_size_int64_d : decFn Try.prog Try.f121 = some (5, [.t 2], c_impl_size_int64) := by kernel_rfl
theorem c_impl_size_int64_i {args : List Value} {G : GH} {K : Value → GH → Prop} (hn : args.length ≤ 5) (h : gW Try.prog c_impl_size_int64 (RetK [.t 2] K) (T0 args) G) : GC Try.prog 121 args G K := GC_intro mixed Try.func121 c_impl_size_int64_d hn h
/-! loop.example/g01005/impl.withVector (2 params, 14 temporaries) : 0=g 1=x 2=g 3=x
-/
abbrev c_impl_withVector_0 : List GOp := [oo 2 (.bx (tt 0)), oo 4 (.mv (ci 0))]
abbrev c_impl_withVector_1 : List GOp := [oo 6 (.ldn 2 (tt 2)), oo 7 (.call (ff 115) [tt 6]), oo 8 (.un .not (tt 7)), oo 5 (.mv (tt 8))]
abbrev c_impl_withVector_2 : List GOp := [oo 4 (.mv (ci 1))]
abbrev c_impl_withVector_3 : List GOp := [oo 10 (.ldn 2 (tt 2)), oo 11 (.mv (tt 1)), oo 12 (.call (ff 116) [tt 10, tt 11]), oo 13 (.un .not (tt 12)), oo 9 (.mv (tt 13))]
abbrev c_impl_withVector_4 : List GOp := [oo 4 (.mv (ci 2))]
abbrev c_impl_withVector_5 : List GOp := [oo 4 (.mv (ci 0))]
abbrev c_impl_withVector : GCode := .seq (.reg c_impl_withVector_0) (.seq (.blk 0 (.seq (.reg c_impl_withVector_1) (.cond (tt 5) (.seq (.reg c_impl_withVector_2) (.ret)) (.seq (.reg c_impl_withVector_3) (.cond (tt 9) (.seq (.reg c_impl_withVector_4) (.ret)) (.skip)))))) (.seq (.reg c_impl_withVector_5) (.ret)))
theorem c_impl_withVector_d : decFn Try.prog Try.f94 = some (14, [.t 4], c_impl_withVector) := by kernel_rfl
theorem c_impl_withVector_i {args : List Value} {G : GH} {K : Value → GH → Prop} (hn : args.length ≤ 14) (h : gW Try.prog c_impl_withVector (RetK [.t 4] K) (T0 args) G) : GC Try.prog 94 args G K := GC_intro mixed Try.func94 c_impl_withVector_d hn h
/-! loop.example/g01005/impl.within (3 params, 15 temporaries) : 0=n 1=low 2=high 3=n 4=low 5=high
-/
abbrev c_impl_within_0 : List GOp := [oo 6 (.mv (cb  false))]
abbrev c_impl_within_1 : List GOp := [oo 7 (.mv (tt 0)), oo 8 (.mv (tt 1)), oo 9 (.bin .geq (tt 7) (tt 8)), oo 10 (.mv (tt 9)), og 11 10 true (.mv (tt 0)), og 12 10 true (.mv (tt 2)), og 13 10 true (.bin .leq (tt 11) (tt 12)), oo 14 (.pick (tt 10) (tt 13) (cb  false)), oo 6 (.mv (tt 14))]
abbrev c_impl_within : GCode := .seq (.reg c_impl_within_0) (.seq (.reg c_impl_within_1) (.ret))
theorem c_impl_within_d : decFn Try.prog Try.f58 = some (15, [.t 6], c_impl_within) := by kernel_rfl
theorem c_impl_within_i {args : List Value} {G : GH} {K : Value → GH → Prop} (hn : args.length ≤ 15) (h : gW Try.prog c_impl_within (RetK [.t 6] K) (T0 args) G) : GC Try.prog 58 args G K := GC_intro mixed Try.func58 c_impl_within_d hn h
/-! loop.example/g01005/laws.FnExactCutCapacity (2 params, 56 temporaries) : 0=aN 1=aSide 2=aN 3=aSide 5=left 6=w0 7=w1 8=x0 9=x1 10=g0 11=g1
-/
abbrev c_laws_FnExactCutCapacity_0 : List GOp := [oo 2 (.bx (tt 0)), oo 4 (.mv (cb  false))]
abbrev c_laws_FnExactCutCapacity_1 : List GOp := [oo 12 (.mv (tt 1)), oo 13 (.len (tt 12)), oo 14 (.bin .gtr (tt 13) (ci 1048576))]
abbrev c_laws_FnExactCutCapacity_2 : List GOp := [oo 4 (.mv (cb  true))]
abbrev c_laws_FnExactCutCapacity_3 : List GOp := [oo 5 (.mv (ci 1048576))]
abbrev c_laws_FnExactCutCapacity_4 : List GOp := [oo 15 (.ldn 4 (tt 2)), oo 16 (.mv (tt 5)), oo 17 (.call (ff 19) [tt 15, tt 16]), oo 5 (.mv (tt 17))]
abbrev c_laws_FnExactCutCapacity_5 : List GOp := [oo 18 (.mv (tt 5)), oo 19 (.bin .lss (tt 18) (ci 0))]
abbrev c_laws_FnExactCutCapacity_6 : List GOp := [oo 4 (.mv (cb  true))]
abbrev c_laws_FnExactCutCapacity_7 : List GOp := [oo 21 (.ldn 4 (tt 2)), oo 22 (.call (ff 21) [tt 21]), oo 23 (.mv (tt 1)), oo 24 (.call (ff 16) [tt 23]), oo 25 (.call (ff 51) [tt 22, tt 24]), oo 20 (.mv (tt 25)), oo 26 (.ex 0 (tt 20)), oo 27 (.ex 1 (tt 20)), oo 6 (.mv (tt 26)), oo 7 (.mv (tt 27))]
abbrev c_laws_FnExactCutCapacity_8 : List GOp := [oo 28 (.ldn 4 (tt 2)), oo 29 (.call (ff 21) [tt 28]), oo 8 (.al [.int .i64 0, .int .i64 0, .int .i64 0, .slice none 0 0]), on (.st 4 (tt 8) (tt 29))]
abbrev c_laws_FnExactCutCapacity_9 : List GOp := [oo 30 (.mv (tt 1)), oo 31 (.call (ff 16) [tt 30]), oo 9 (.mv (tt 31))]
abbrev c_laws_FnExactCutCapacity_10 : List GOp := [oo 33 (.ldn 4 (tt 8)), oo 34 (.mv (tt 9)), oo 35 (.call (ff 52) [tt 33, tt 34]), oo 32 (.mv (tt 35)), oo 36 (.ex 0 (tt 32)), oo 37 (.ex 1 (tt 32)), oo 10 (.mv (tt 36)), oo 11 (.mv (tt 37))]
abbrev c_laws_FnExactCutCapacity_11 : List GOp := [oo 38 (.mv (tt 10)), oo 39 (.mv (tt 6)), oo 40 (.bin .neq (tt 38) (tt 39)), oo 41 (.mv (tt 40)), og 42 41 false (.mv (tt 11)), og 43 41 false (.mv (tt 7)), og 44 41 false (.bin .neq (tt 42) (tt 43)), oo 45 (.pick (tt 41) (cb  true) (tt 44))]
abbrev c_laws_FnExactCutCapacity_12 : List GOp := [oo 4 (.mv (cb  false))]
abbrev c_laws_FnExactCutCapacity_13 : List DOp := [dl 0 (oo 46 (.ldn 4 (tt 8))), dl 1 (oo 47 (.ldn 4 (tt 2))), dh 2 [0] (oo 48 (.call (ff 21) [tt 47])), dh 3 [1] (oo 49 (.call (ff 23) [tt 46, tt 48])), dl 4 (oo 50 (.un .not (tt 49)))]
abbrev c_laws_FnExactCutCapacity_14 : List GOp := [oo 4 (.mv (cb  false))]
abbrev c_laws_FnExactCutCapacity_15 : List GOp := [oo 51 (.mv (tt 9)), oo 52 (.mv (tt 1)), oo 53 (.call (ff 16) [tt 52]), oo 54 (.call (ff 18) [tt 51, tt 53]), oo 55 (.un .not (tt 54))]
abbrev c_laws_FnExactCutCapacity_16 : List GOp := [oo 4 (.mv (cb  false))]
abbrev c_laws_FnExactCutCapacity_17 : List GOp := [oo 4 (.mv (cb  true))]
abbrev c_laws_FnExactCutCapacity : GCode := .seq (.reg c_laws_FnExactCutCapacity_0) (.seq (.seq (.reg c_laws_FnExactCutCapacity_1) (.cond (tt 14) (.seq (.reg c_laws_FnExactCutCapacity_2) (.ret)) (.skip))) (.seq (.reg c_laws_FnExactCutCapacity_3) (.seq (.reg c_laws_FnExactCutCapacity_4) (.seq (.seq (.reg c_laws_FnExactCutCapacity_5) (.cond (tt 19) (.seq (.reg c_laws_FnExactCutCapacity_6) (.ret)) (.skip))) (.seq (.reg c_laws_FnExactCutCapacity_7) (.seq (.reg c_laws_FnExactCutCapacity_8) (.seq (.reg c_laws_FnExactCutCapacity_9) (.seq (.reg c_laws_FnExactCutCapacity_10) (.seq (.seq (.reg c_laws_FnExactCutCapacity_11) (.cond (tt 45) (.seq (.reg c_laws_FnExactCutCapacity_12) (.ret)) (.skip))) (.seq (.seq (.dreg c_laws_FnExactCutCapacity_13) (.cond (tt 50) (.seq (.reg c_laws_FnExactCutCapacity_14) (.ret)) (.skip))) (.seq (.seq (.reg c_laws_FnExactCutCapacity_15) (.cond (tt 55) (.seq (.reg c_laws_FnExactCutCapacity_16) (.ret)) (.skip))) (.seq (.reg c_laws_FnExactCutCapacity_17) (.ret)))))))))))))
theorem c_laws_FnExactCutCapacity_d : decFn Try.prog Try.f14 = some (56, [.t 4], c_laws_FnExactCutCapacity) := by kernel_rfl
theorem c_laws_FnExactCutCapacity_i {args : List Value} {G : GH} {K : Value → GH → Prop} (hn : args.length ≤ 56) (h : gW Try.prog c_laws_FnExactCutCapacity (RetK [.t 4] K) (T0 args) G) : GC Try.prog 14 args G K := GC_intro mixed Try.func14 c_laws_FnExactCutCapacity_d hn h
/-! loop.example/g01005/laws.FnExactFlowValue (2 params, 56 temporaries) : 0=aN 1=aFlow 2=aN 3=aFlow 5=left 6=w0 7=w1 8=x0 9=x1 10=g0 11=g1
-/
abbrev c_laws_FnExactFlowValue_0 : List GOp := [oo 2 (.bx (tt 0)), oo 4 (.mv (cb  false))]
abbrev c_laws_FnExactFlowValue_1 : List GOp := [oo 12 (.mv (tt 1)), oo 13 (.len (tt 12)), oo 14 (.bin .gtr (tt 13) (ci 1048576))]
abbrev c_laws_FnExactFlowValue_2 : List GOp := [oo 4 (.mv (cb  true))]
abbrev c_laws_FnExactFlowValue_3 : List GOp := [oo 5 (.mv (ci 1048576))]
abbrev c_laws_FnExactFlowValue_4 : List GOp := [oo 15 (.ldn 4 (tt 2)), oo 16 (.mv (tt 5)), oo 17 (.call (ff 19) [tt 15, tt 16]), oo 5 (.mv (tt 17))]
abbrev c_laws_FnExactFlowValue_5 : List GOp := [oo 18 (.mv (tt 5)), oo 19 (.bin .lss (tt 18) (ci 0))]
abbrev c_laws_FnExactFlowValue_6 : List GOp := [oo 4 (.mv (cb  true))]
abbrev c_laws_FnExactFlowValue_7 : List GOp := [oo 21 (.ldn 4 (tt 2)), oo 22 (.call (ff 21) [tt 21]), oo 23 (.mv (tt 1)), oo 24 (.call (ff 16) [tt 23]), oo 25 (.call (ff 39) [tt 22, tt 24]), oo 20 (.mv (tt 25)), oo 26 (.ex 0 (tt 20)), oo 27 (.ex 1 (tt 20)), oo 6 (.mv (tt 26)), oo 7 (.mv (tt 27))]
abbrev c_laws_FnExactFlowValue_8 : List GOp := [oo 28 (.ldn 4 (tt 2)), oo 29 (.call (ff 21) [tt 28]), oo 8 (.al [.int .i64 0, .int .i64 0, .int .i64 0, .slice none 0 0]), on (.st 4 (tt 8) (tt 29))]
abbrev c_laws_FnExactFlowValue_9 : List GOp := [oo 30 (.mv (tt 1)), oo 31 (.call (ff 16) [tt 30]), oo 9 (.mv (tt 31))]
abbrev c_laws_FnExactFlowValue_10 : List GOp := [oo 33 (.ldn 4 (tt 8)), oo 34 (.mv (tt 9)), oo 35 (.call (ff 40) [tt 33, tt 34]), oo 32 (.mv (tt 35)), oo 36 (.ex 0 (tt 32)), oo 37 (.ex 1 (tt 32)), oo 10 (.mv (tt 36)), oo 11 (.mv (tt 37))]
abbrev c_laws_FnExactFlowValue_11 : List GOp := [oo 38 (.mv (tt 10)), oo 39 (.mv (tt 6)), oo 40 (.bin .neq (tt 38) (tt 39)), oo 41 (.mv (tt 40)), og 42 41 false (.mv (tt 11)), og 43 41 false (.mv (tt 7)), og 44 41 false (.bin .neq (tt 42) (tt 43)), oo 45 (.pick (tt 41) (cb  true) (tt 44))]
abbrev c_laws_FnExactFlowValue_12 : List GOp := [oo 4 (.mv (cb  false))]
abbrev c_laws_FnExactFlowValue_13 : List DOp := [dl 0 (oo 46 (.ldn 4 (tt 8))), dl 1 (oo 47 (.ldn 4 (tt 2))), dh 2 [0] (oo 48 (.call (ff 21) [tt 47])), dh 3 [1] (oo 49 (.call (ff 23) [tt 46, tt 48])), dl 4 (oo 50 (.un .not (tt 49)))]
abbrev c_laws_FnExactFlowValue_14 : List GOp := [oo 4 (.mv (cb  false))]
abbrev c_laws_FnExactFlowValue_15 : List GOp := [oo 51 (.mv (tt 9)), oo 52 (.mv (tt 1)), oo 53 (.call (ff 16) [tt 52]), oo 54 (.call (ff 18) [tt 51, tt 53]), oo 55 (.un .not (tt 54))]
abbrev c_laws_FnExactFlowValue_16 : List GOp := [oo 4 (.mv (cb  false))]
abbrev c_laws_FnExactFlowValue_17 : List GOp := [oo 4 (.mv (cb  true))]
abbrev c_laws_FnExactFlowValue : GCode := .seq (.reg c_laws_FnExactFlowValue_0) (.seq (.seq (.reg c_laws_FnExactFlowValue_1) (.cond (tt 14) (.seq (.reg c_laws_FnExactFlowValue_2) (.ret)) (.skip))) (.seq (.reg c_laws_FnExactFlowValue_3) (.seq (.reg c_laws_FnExactFlowValue_4) (.seq (.seq (.reg c_laws_FnExactFlowValue_5) (.cond (tt 19) (.seq (.reg c_laws_FnExactFlowValue_6) (.ret)) (.skip))) (.seq (.reg c_laws_FnExactFlowValue_7) (.seq (.reg c_laws_FnExactFlowValue_8) (.seq (.reg c_laws_FnExactFlowValue_9) (.seq (.reg c_laws_FnExactFlowValue_10) (.seq (.seq (.reg c_laws_FnExactFlowValue_11) (.cond (tt 45) (.seq (.reg c_laws_FnExactFlowValue_12) (.ret)) (.skip))) (.seq (.seq (.dreg c_laws_FnExactFlowValue_13) (.cond (tt 50) (.seq (.reg c_laws_FnExactFlowValue_14) (.ret)) (.skip))) (.seq (.seq (.reg c_laws_FnExactFlowValue_15) (.cond (tt 55) (.seq (.reg c_laws_FnExactFlowValue_16) (.ret)) (.skip))) (.seq (.reg c_laws_FnExactFlowValue_17) (.ret)))))))))))))
theorem c_laws_FnExactFlowValue_d : decFn Try.prog Try.f11 = some (56, [.t 4], c_laws_FnExactFlowValue) := by kernel_rfl
theorem c_laws_FnExactFlowValue_i {args : List Value} {G : GH} {K : Value → GH → Prop} (hn : args.length ≤ 56) (h : gW Try.prog c_laws_FnExactFlowValue (RetK [.t 4] K) (T0 args) G) : GC Try.prog 11 args G K := GC_intro mixed Try.func11 c_laws_FnExactFlowValue_d hn h
/-! loop.example/g01005/laws.FnExactIsCut (2 params, 43 temporaries) : 0=aN 1=aSide 2=aN 3=aSide 5=left 6=w0 7=x0 8=x1 9=g0
-/
abbrev c_laws_FnExactIsCut_0 : List GOp := [oo 2 (.bx (tt 0)), oo 4 (.mv (cb  false))]
abbrev c_laws_FnExactIsCut_1 : List GOp := [oo 10 (.mv (tt 1)), oo 11 (.len (tt 10)), oo 12 (.bin .gtr (tt 11) (ci 1048576))]
abbrev c_laws_FnExactIsCut_2 : List GOp := [oo 4 (.mv (cb  true))]
abbrev c_laws_FnExactIsCut_3 : List GOp := [oo 5 (.mv (ci 1048576))]
abbrev c_laws_FnExactIsCut_4 : List GOp := [oo 13 (.ldn 4 (tt 2)), oo 14 (.mv (tt 5)), oo 15 (.call (ff 19) [tt 13, tt 14]), oo 5 (.mv (tt 15))]
abbrev c_laws_FnExactIsCut_5 : List GOp := [oo 16 (.mv (tt 5)), oo 17 (.bin .lss (tt 16) (ci 0))]
abbrev c_laws_FnExactIsCut_6 : List GOp := [oo 4 (.mv (cb  true))]
abbrev c_laws_FnExactIsCut_7 : List GOp := [oo 18 (.ldn 4 (tt 2)), oo 19 (.call (ff 21) [tt 18]), oo 20 (.mv (tt 1)), oo 21 (.call (ff 16) [tt 20]), oo 22 (.call (ff 37) [tt 19, tt 21]), oo 6 (.mv (tt 22))]
abbrev c_laws_FnExactIsCut_8 : List GOp := [oo 23 (.ldn 4 (tt 2)), oo 24 (.call (ff 21) [tt 23]), oo 7 (.al [.int .i64 0, .int .i64 0, .int .i64 0, .slice none 0 0]), on (.st 4 (tt 7) (tt 24))]
abbrev c_laws_FnExactIsCut_9 : List GOp := [oo 25 (.mv (tt 1)), oo 26 (.call (ff 16) [tt 25]), oo 8 (.mv (tt 26))]
abbrev c_laws_FnExactIsCut_10 : List GOp := [oo 27 (.ldn 4 (tt 7)), oo 28 (.mv (tt 8)), oo 29 (.call (ff 38) [tt 27, tt 28]), oo 9 (.mv (tt 29))]
abbrev c_laws_FnExactIsCut_11 : List GOp := [oo 30 (.mv (tt 9)), oo 31 (.mv (tt 6)), oo 32 (.eqb true (tt 30) (tt 31))]
abbrev c_laws_FnExactIsCut_12 : List GOp := [oo 4 (.mv (cb  false))]
abbrev c_laws_FnExactIsCut_13 : List DOp := [dl 0 (oo 33 (.ldn 4 (tt 7))), dl 1 (oo 34 (.ldn 4 (tt 2))), dh 2 [0] (oo 35 (.call (ff 21) [tt 34])), dh 3 [1] (oo 36 (.call (ff 23) [tt 33, tt 35])), dl 4 (oo 37 (.un .not (tt 36)))]
abbrev c_laws_FnExactIsCut_14 : List GOp := [oo 4 (.mv (cb  false))]
abbrev c_laws_FnExactIsCut_15 : List GOp := [oo 38 (.mv (tt 8)), oo 39 (.mv (tt 1)), oo 40 (.call (ff 16) [tt 39]), oo 41 (.call (ff 18) [tt 38, tt 40]), oo 42 (.un .not (tt 41))]
abbrev c_laws_FnExactIsCut_16 : List GOp := [oo 4 (.mv (cb  false))]
abbrev c_laws_FnExactIsCut_17 : List GOp := [oo 4 (.mv (cb  true))]
abbrev c_laws_FnExactIsCut : GCode := .seq (.reg c_laws_FnExactIsCut_0) (.seq (.seq (.reg c_laws_FnExactIsCut_1) (.cond (tt 12) (.seq (.reg c_laws_FnExactIsCut_2) (.ret)) (.skip))) (.seq (.reg c_laws_FnExactIsCut_3) (.seq (.reg c_laws_FnExactIsCut_4) (.seq (.seq (.reg c_laws_FnExactIsCut_5) (.cond (tt 17) (.seq (.reg c_laws_FnExactIsCut_6) (.ret)) (.skip))) (.seq (.reg c_laws_FnExactIsCut_7) (.seq (.reg c_laws_FnExactIsCut_8) (.seq (.reg c_laws_FnExactIsCut_9) (.seq (.reg c_laws_FnExactIsCut_10) (.seq (.seq (.reg c_laws_FnExactIsCut_11) (.cond (tt 32) (.seq (.reg c_laws_FnExactIsCut_12) (.ret)) (.skip))) (.seq (.seq (.dreg c_laws_FnExactIsCut_13) (.cond (tt 37) (.seq (.reg c_laws_FnExactIsCut_14) (.ret)) (.skip))) (.seq (.seq (.reg c_laws_FnExactIsCut_15) (.cond (tt 42) (.seq (.reg c_laws_FnExactIsCut_16) (.ret)) (.skip))) (.seq (.reg c_laws_FnExactIsCut_17) (.ret)))))))))))))
theorem c_laws_FnExactIsCut_d : decFn Try.prog Try.f10 = some (43, [.t 4], c_laws_FnExactIsCut) := by kernel_rfl
theorem c_laws_FnExactIsCut_i {args : List Value} {G : GH} {K : Value → GH → Prop} (hn : args.length ≤ 43) (h : gW Try.prog c_laws_FnExactIsCut (RetK [.t 4] K) (T0 args) G) : GC Try.prog 10 args G K := GC_intro mixed Try.func10 c_laws_FnExactIsCut_d hn h
/-! loop.example/g01005/laws.FnExactIsFlow (2 params, 43 temporaries) : 0=aN 1=aFlow 2=aN 3=aFlow 5=left 6=w0 7=x0 8=x1 9=g0
-/
abbrev c_laws_FnExactIsFlow_0 : List GOp := [oo 2 (.bx (tt 0)), oo 4 (.mv (cb  false))]
abbrev c_laws_FnExactIsFlow_1 : List GOp := [oo 10 (.mv (tt 1)), oo 11 (.len (tt 10)), oo 12 (.bin .gtr (tt 11) (ci 1048576))]
abbrev c_laws_FnExactIsFlow_2 : List GOp := [oo 4 (.mv (cb  true))]
abbrev c_laws_FnExactIsFlow_3 : List GOp := [oo 5 (.mv (ci 1048576))]
abbrev c_laws_FnExactIsFlow_4 : List GOp := [oo 13 (.ldn 4 (tt 2)), oo 14 (.mv (tt 5)), oo 15 (.call (ff 19) [tt 13, tt 14]), oo 5 (.mv (tt 15))]
abbrev c_laws_FnExactIsFlow_5 : List GOp := [oo 16 (.mv (tt 5)), oo 17 (.bin .lss (tt 16) (ci 0))]
abbrev c_laws_FnExactIsFlow_6 : List GOp := [oo 4 (.mv (cb  true))]
abbrev c_laws_FnExactIsFlow_7 : List GOp := [oo 18 (.ldn 4 (tt 2)), oo 19 (.call (ff 21) [tt 18]), oo 20 (.mv (tt 1)), oo 21 (.call (ff 16) [tt 20]), oo 22 (.call (ff 35) [tt 19, tt 21]), oo 6 (.mv (tt 22))]
abbrev c_laws_FnExactIsFlow_8 : List GOp := [oo 23 (.ldn 4 (tt 2)), oo 24 (.call (ff 21) [tt 23]), oo 7 (.al [.int .i64 0, .int .i64 0, .int .i64 0, .slice none 0 0]), on (.st 4 (tt 7) (tt 24))]
abbrev c_laws_FnExactIsFlow_9 : List GOp := [oo 25 (.mv (tt 1)), oo 26 (.call (ff 16) [tt 25]), oo 8 (.mv (tt 26))]
abbrev c_laws_FnExactIsFlow_10 : List GOp := [oo 27 (.ldn 4 (tt 7)), oo 28 (.mv (tt 8)), oo 29 (.call (ff 36) [tt 27, tt 28]), oo 9 (.mv (tt 29))]
abbrev c_laws_FnExactIsFlow_11 : List GOp := [oo 30 (.mv (tt 9)), oo 31 (.mv (tt 6)), oo 32 (.eqb true (tt 30) (tt 31))]
abbrev c_laws_FnExactIsFlow_12 : List GOp := [oo 4 (.mv (cb  false))]
abbrev c_laws_FnExactIsFlow_13 : List DOp := [dl 0 (oo 33 (.ldn 4 (tt 7))), dl 1 (oo 34 (.ldn 4 (tt 2))), dh 2 [0] (oo 35 (.call (ff 21) [tt 34])), dh 3 [1] (oo 36 (.call (ff 23) [tt 33, tt 35])), dl 4 (oo 37 (.un .not (tt 36)))]
abbrev c_laws_FnExactIsFlow_14 : List GOp := [oo 4 (.mv (cb  false))]
abbrev c_laws_FnExactIsFlow_15 : List GOp := [oo 38 (.mv (tt 8)), oo 39 (.mv (tt 1)), oo 40 (.call (ff 16) [tt 39]), oo 41 (.call (ff 18) [tt 38, tt 40]), oo 42 (.un .not (tt 41))]
abbrev c_laws_FnExactIsFlow_16 : List GOp := [oo 4 (.mv (cb  false))]
abbrev c_laws_FnExactIsFlow_17 : List GOp := [oo 4 (.mv (cb  true))]
abbrev c_laws_FnExactIsFlow : GCode := .seq (.reg c_laws_FnExactIsFlow_0) (.seq (.seq (.reg c_laws_FnExactIsFlow_1) (.cond (tt 12) (.seq (.reg c_laws_FnExactIsFlow_2) (.ret)) (.skip))) (.seq (.reg c_laws_FnExactIsFlow_3) (.seq (.reg c_laws_FnExactIsFlow_4) (.seq (.seq (.reg c_laws_FnExactIsFlow_5) (.cond (tt 17) (.seq (.reg c_laws_FnExactIsFlow_6) (.ret)) (.skip))) (.seq (.reg c_laws_FnExactIsFlow_7) (.seq (.reg c_laws_FnExactIsFlow_8) (.seq (.reg c_laws_FnExactIsFlow_9) (.seq (.reg c_laws_FnExactIsFlow_10) (.seq (.seq (.reg c_laws_FnExactIsFlow_11) (.cond (tt 32) (.seq (.reg c_laws_FnExactIsFlow_12) (.ret)) (.skip))) (.seq (.seq (.dreg c_laws_FnExactIsFlow_13) (.cond (tt 37) (.seq (.reg c_laws_FnExactIsFlow_14) (.ret)) (.skip))) (.seq (.seq (.reg c_laws_FnExactIsFlow_15) (.cond (tt 42) (.seq (.reg c_laws_FnExactIsFlow_16) (.ret)) (.skip))) (.seq (.reg c_laws_FnExactIsFlow_17) (.ret)))))))))))))
theorem c_laws_FnExactIsFlow_d : decFn Try.prog Try.f9 = some (43, [.t 4], c_laws_FnExactIsFlow) := by kernel_rfl
theorem c_laws_FnExactIsFlow_i {args : List Value} {G : GH} {K : Value → GH → Prop} (hn : args.length ≤ 43) (h : gW Try.prog c_laws_FnExactIsFlow (RetK [.t 4] K) (T0 args) G) : GC Try.prog 9 args G K := GC_intro mixed Try.func9 c_laws_FnExactIsFlow_d hn h
/-! loop.example/g01005/laws.FnExactLoopRank (1 params, 40 temporaries) : 0=aN 1=aN 3=left 4=w0 5=w1 6=x0 7=g0 8=g1
-/
abbrev c_laws_FnExactLoopRank_0 : List GOp := [oo 1 (.bx (tt 0)), oo 2 (.mv (cb  false))]
abbrev c_laws_FnExactLoopRank_1 : List GOp := [oo 3 (.mv (ci 1048576))]
abbrev c_laws_FnExactLoopRank_2 : List GOp := [oo 9 (.ldn 4 (tt 1)), oo 10 (.mv (tt 3)), oo 11 (.call (ff 19) [tt 9, tt 10]), oo 3 (.mv (tt 11))]
abbrev c_laws_FnExactLoopRank_3 : List GOp := [oo 12 (.mv (tt 3)), oo 13 (.bin .lss (tt 12) (ci 0))]
abbrev c_laws_FnExactLoopRank_4 : List GOp := [oo 2 (.mv (cb  true))]
abbrev c_laws_FnExactLoopRank_5 : List GOp := [oo 15 (.ldn 4 (tt 1)), oo 16 (.call (ff 21) [tt 15]), oo 17 (.call (ff 31) [tt 16]), oo 14 (.mv (tt 17)), oo 18 (.ex 0 (tt 14)), oo 19 (.ex 1 (tt 14)), oo 4 (.mv (tt 18)), oo 5 (.mv (tt 19))]
abbrev c_laws_FnExactLoopRank_6 : List GOp := [oo 20 (.ldn 4 (tt 1)), oo 21 (.call (ff 21) [tt 20]), oo 6 (.al [.int .i64 0, .int .i64 0, .int .i64 0, .slice none 0 0]), on (.st 4 (tt 6) (tt 21))]
abbrev c_laws_FnExactLoopRank_7 : List GOp := [oo 23 (.ldn 4 (tt 6)), oo 24 (.call (ff 32) [tt 23]), oo 22 (.mv (tt 24)), oo 25 (.ex 0 (tt 22)), oo 26 (.ex 1 (tt 22)), oo 7 (.mv (tt 25)), oo 8 (.mv (tt 26))]
abbrev c_laws_FnExactLoopRank_8 : List GOp := [oo 27 (.mv (tt 7)), oo 28 (.mv (tt 4)), oo 29 (.bin .neq (tt 27) (tt 28)), oo 30 (.mv (tt 29)), og 31 30 false (.mv (tt 8)), og 32 30 false (.mv (tt 5)), og 33 30 false (.bin .neq (tt 31) (tt 32)), oo 34 (.pick (tt 30) (cb  true) (tt 33))]
abbrev c_laws_FnExactLoopRank_9 : List GOp := [oo 2 (.mv (cb  false))]
abbrev c_laws_FnExactLoopRank_10 : List DOp := [dl 0 (oo 35 (.ldn 4 (tt 6))), dl 1 (oo 36 (.ldn 4 (tt 1))), dh 2 [0] (oo 37 (.call (ff 21) [tt 36])), dh 3 [1] (oo 38 (.call (ff 23) [tt 35, tt 37])), dl 4 (oo 39 (.un .not (tt 38)))]
abbrev c_laws_FnExactLoopRank_11 : List GOp := [oo 2 (.mv (cb  false))]
abbrev c_laws_FnExactLoopRank_12 : List GOp := [oo 2 (.mv (cb  true))]
abbrev c_laws_FnExactLoopRank : GCode := .seq (.reg c_laws_FnExactLoopRank_0) (.seq (.reg c_laws_FnExactLoopRank_1) (.seq (.reg c_laws_FnExactLoopRank_2) (.seq (.seq (.reg c_laws_FnExactLoopRank_3) (.cond (tt 13) (.seq (.reg c_laws_FnExactLoopRank_4) (.ret)) (.skip))) (.seq (.reg c_laws_FnExactLoopRank_5) (.seq (.reg c_laws_FnExactLoopRank_6) (.seq (.reg c_laws_FnExactLoopRank_7) (.seq (.seq (.reg c_laws_FnExactLoopRank_8) (.cond (tt 34) (.seq (.reg c_laws_FnExactLoopRank_9) (.ret)) (.skip))) (.seq (.seq (.dreg c_laws_FnExactLoopRank_10) (.cond (tt 39) (.seq (.reg c_laws_FnExactLoopRank_11) (.ret)) (.skip))) (.seq (.reg c_laws_FnExactLoopRank_12) (.ret))))))))))
theorem c_laws_FnExactLoopRank_d : decFn Try.prog Try.f7 = some (40, [.t 2], c_laws_FnExactLoopRank) := by kernel_rfl
theorem c_laws_FnExactLoopRank_i {args : List Value} {G : GH} {K : Value → GH → Prop} (hn : args.length ≤ 40) (h : gW Try.prog c_laws_FnExactLoopRank (RetK [.t 2] K) (T0 args) G) : GC Try.prog 7 args G K := GC_intro mixed Try.func7 c_laws_FnExactLoopRank_d hn h
/-! loop.example/g01005/laws.FnExactSameNetwork (2 params, 45 temporaries) : 0=aA 1=aB 2=aA 3=aB 5=left 6=w0 7=x0 8=x1 9=g0
-/
abbrev c_laws_FnExactSameNetwork_0 : List GOp := [oo 2 (.bx (tt 0)), oo 3 (.bx (tt 1)), oo 4 (.mv (cb  false))]
abbrev c_laws_FnExactSameNetwork_1 : List GOp := [oo 5 (.mv (ci 1048576))]
abbrev c_laws_FnExactSameNetwork_2 : List GOp := [oo 10 (.ldn 4 (tt 2)), oo 11 (.mv (tt 5)), oo 12 (.call (ff 19) [tt 10, tt 11]), oo 5 (.mv (tt 12))]
abbrev c_laws_FnExactSameNetwork_3 : List GOp := [oo 13 (.mv (tt 5)), oo 14 (.bin .lss (tt 13) (ci 0))]
abbrev c_laws_FnExactSameNetwork_4 : List GOp := [oo 4 (.mv (cb  true))]
abbrev c_laws_FnExactSameNetwork_5 : List GOp := [oo 15 (.ldn 4 (tt 3)), oo 16 (.mv (tt 5)), oo 17 (.call (ff 19) [tt 15, tt 16]), oo 5 (.mv (tt 17))]
abbrev c_laws_FnExactSameNetwork_6 : List GOp := [oo 18 (.mv (tt 5)), oo 19 (.bin .lss (tt 18) (ci 0))]
abbrev c_laws_FnExactSameNetwork_7 : List GOp := [oo 4 (.mv (cb  true))]
abbrev c_laws_FnExactSameNetwork_8 : List DOp := [dl 0 (oo 20 (.ldn 4 (tt 2))), dl 2 (oo 22 (.ldn 4 (tt 3))), dh 1 [2] (oo 21 (.call (ff 21) [tt 20])), dh 3 [0] (oo 23 (.call (ff 21) [tt 22])), dh 4 [2, 0] (oo 24 (.call (ff 20) [tt 21, tt 23])), dl 5 (oo 6 (.mv (tt 24)))]
abbrev c_laws_FnExactSameNetwork_9 : List GOp := [oo 25 (.ldn 4 (tt 2)), oo 26 (.call (ff 21) [tt 25]), oo 7 (.al [.int .i64 0, .int .i64 0, .int .i64 0, .slice none 0 0]), on (.st 4 (tt 7) (tt 26))]
abbrev c_laws_FnExactSameNetwork_10 : List GOp := [oo 27 (.ldn 4 (tt 3)), oo 28 (.call (ff 21) [tt 27]), oo 8 (.al [.int .i64 0, .int .i64 0, .int .i64 0, .slice none 0 0]), on (.st 4 (tt 8) (tt 28))]
abbrev c_laws_FnExactSameNetwork_11 : List GOp := [oo 29 (.ldn 4 (tt 7)), oo 30 (.ldn 4 (tt 8)), oo 31 (.call (ff 22) [tt 29, tt 30]), oo 9 (.mv (tt 31))]
abbrev c_laws_FnExactSameNetwork_12 : List GOp := [oo 32 (.mv (tt 9)), oo 33 (.mv (tt 6)), oo 34 (.eqb true (tt 32) (tt 33))]
abbrev c_laws_FnExactSameNetwork_13 : List GOp := [oo 4 (.mv (cb  false))]
abbrev c_laws_FnExactSameNetwork_14 : List DOp := [dl 0 (oo 35 (.ldn 4 (tt 7))), dl 1 (oo 36 (.ldn 4 (tt 2))), dh 2 [0] (oo 37 (.call (ff 21) [tt 36])), dh 3 [1] (oo 38 (.call (ff 23) [tt 35, tt 37])), dl 4 (oo 39 (.un .not (tt 38)))]
abbrev c_laws_FnExactSameNetwork_15 : List GOp := [oo 4 (.mv (cb  false))]
abbrev c_laws_FnExactSameNetwork_16 : List DOp := [dl 0 (oo 40 (.ldn 4 (tt 8))), dl 1 (oo 41 (.ldn 4 (tt 3))), dh 2 [0] (oo 42 (.call (ff 21) [tt 41])), dh 3 [1] (oo 43 (.call (ff 23) [tt 40, tt 42])), dl 4 (oo 44 (.un .not (tt 43)))]
abbrev c_laws_FnExactSameNetwork_17 : List GOp := [oo 4 (.mv (cb  false))]
abbrev c_laws_FnExactSameNetwork_18 : List GOp := [oo 4 (.mv (cb  true))]
abbrev c_laws_FnExactSameNetwork : GCode := .seq (.reg c_laws_FnExactSameNetwork_0) (.seq (.reg c_laws_FnExactSameNetwork_1) (.seq (.reg c_laws_FnExactSameNetwork_2) (.seq (.seq (.reg c_laws_FnExactSameNetwork_3) (.cond (tt 14) (.seq (.reg c_laws_FnExactSameNetwork_4) (.ret)) (.skip))) (.seq (.reg c_laws_FnExactSameNetwork_5) (.seq (.seq (.reg c_laws_FnExactSameNetwork_6) (.cond (tt 19) (.seq (.reg c_laws_FnExactSameNetwork_7) (.ret)) (.skip))) (.seq (.dreg c_laws_FnExactSameNetwork_8) (.seq (.reg c_laws_FnExactSameNetwork_9) (.seq (.reg c_laws_FnExactSameNetwork_10) (.seq (.reg c_laws_FnExactSameNetwork_11) (.seq (.seq (.reg c_laws_FnExactSameNetwork_12) (.cond (tt 34) (.seq (.reg c_laws_FnExactSameNetwork_13) (.ret)) (.skip))) (.seq (.seq (.dreg c_laws_FnExactSameNetwork_14) (.cond (tt 39) (.seq (.reg c_laws_FnExactSameNetwork_15) (.ret)) (.skip))) (.seq (.seq (.dreg c_laws_FnExactSameNetwork_16) (.cond (tt 44) (.seq (.reg c_laws_FnExactSameNetwork_17) (.ret)) (.skip))) (.seq (.reg c_laws_FnExactSameNetwork_18) (.ret))))))))))))))
theorem c_laws_FnExactSameNetwork_d : decFn Try.prog Try.f4 = some (45, [.t 4], c_laws_FnExactSameNetwork) := by kernel_rfl
theorem c_laws_FnExactSameNetwork_i {args : List Value} {G : GH} {K : Value → GH → Prop} (hn : args.length ≤ 45) (h : gW Try.prog c_laws_FnExactSameNetwork (RetK [.t 4] K) (T0 args) G) : GC Try.prog 4 args G K := GC_intro mixed Try.func4 c_laws_FnExactSameNetwork_d hn h
/-! loop.example/g01005/laws.FnExactSameTable (2 params, 45 temporaries) : 0=aA 1=aB 2=aA 3=aB 5=left 6=w0 7=x0 8=x1 9=g0
-/
abbrev c_laws_FnExactSameTable_0 : List GOp := [oo 2 (.bx (tt 0)), oo 3 (.bx (tt 1)), oo 4 (.mv (cb  false))]
abbrev c_laws_FnExactSameTable_1 : List GOp := [oo 5 (.mv (ci 1048576))]
abbrev c_laws_FnExactSameTable_2 : List GOp := [oo 10 (.ldn 2 (tt 2)), oo 11 (.mv (tt 5)), oo 12 (.call (ff 24) [tt 10, tt 11]), oo 5 (.mv (tt 12))]
abbrev c_laws_FnExactSameTable_3 : List GOp := [oo 13 (.mv (tt 5)), oo 14 (.bin .lss (tt 13) (ci 0))]
abbrev c_laws_FnExactSameTable_4 : List GOp := [oo 4 (.mv (cb  true))]
abbrev c_laws_FnExactSameTable_5 : List GOp := [oo 15 (.ldn 2 (tt 3)), oo 16 (.mv (tt 5)), oo 17 (.call (ff 24) [tt 15, tt 16]), oo 5 (.mv (tt 17))]
abbrev c_laws_FnExactSameTable_6 : List GOp := [oo 18 (.mv (tt 5)), oo 19 (.bin .lss (tt 18) (ci 0))]
abbrev c_laws_FnExactSameTable_7 : List GOp := [oo 4 (.mv (cb  true))]
abbrev c_laws_FnExactSameTable_8 : List DOp := [dl 0 (oo 20 (.ldn 2 (tt 2))), dl 2 (oo 22 (.ldn 2 (tt 3))), dh 1 [2] (oo 21 (.call (ff 26) [tt 20])), dh 3 [0] (oo 23 (.call (ff 26) [tt 22])), dh 4 [2, 0] (oo 24 (.call (ff 25) [tt 21, tt 23])), dl 5 (oo 6 (.mv (tt 24)))]
abbrev c_laws_FnExactSameTable_9 : List GOp := [oo 25 (.ldn 2 (tt 2)), oo 26 (.call (ff 26) [tt 25]), oo 7 (.al [.slice none 0 0, .slice none 0 0]), on (.st 2 (tt 7) (tt 26))]
abbrev c_laws_FnExactSameTable_10 : List GOp := [oo 27 (.ldn 2 (tt 3)), oo 28 (.call (ff 26) [tt 27]), oo 8 (.al [.slice none 0 0, .slice none 0 0]), on (.st 2 (tt 8) (tt 28))]
abbrev c_laws_FnExactSameTable_11 : List GOp := [oo 29 (.ldn 2 (tt 7)), oo 30 (.ldn 2 (tt 8)), oo 31 (.call (ff 27) [tt 29, tt 30]), oo 9 (.mv (tt 31))]
abbrev c_laws_FnExactSameTable_12 : List GOp := [oo 32 (.mv (tt 9)), oo 33 (.mv (tt 6)), oo 34 (.eqb true (tt 32) (tt 33))]
abbrev c_laws_FnExactSameTable_13 : List GOp := [oo 4 (.mv (cb  false))]
abbrev c_laws_FnExactSameTable_14 : List DOp := [dl 0 (oo 35 (.ldn 2 (tt 7))), dl 1 (oo 36 (.ldn 2 (tt 2))), dh 2 [0] (oo 37 (.call (ff 26) [tt 36])), dh 3 [1] (oo 38 (.call (ff 28) [tt 35, tt 37])), dl 4 (oo 39 (.un .not (tt 38)))]
abbrev c_laws_FnExactSameTable_15 : List GOp := [oo 4 (.mv (cb  false))]
abbrev c_laws_FnExactSameTable_16 : List DOp := [dl 0 (oo 40 (.ldn 2 (tt 8))), dl 1 (oo 41 (.ldn 2 (tt 3))), dh 2 [0] (oo 42 (.call (ff 26) [tt 41])), dh 3 [1] (oo 43 (.call (ff 28) [tt 40, tt 42])), dl 4 (oo 44 (.un .not (tt 43)))]
abbrev c_laws_FnExactSameTable_17 : List GOp := [oo 4 (.mv (cb  false))]
abbrev c_laws_FnExactSameTable_18 : List GOp := [oo 4 (.mv (cb  true))]
abbrev c_laws_FnExactSameTable : GCode := .seq (.reg c_laws_FnExactSameTable_0) (.seq (.reg c_laws_FnExactSameTable_1) (.seq (.reg c_laws_FnExactSameTable_2) (.seq (.seq (.reg c_laws_FnExactSameTable_3) (.cond (tt 14) (.seq (.reg c_laws_FnExactSameTable_4) (.ret)) (.skip))) (.seq (.reg c_laws_FnExactSameTable_5) (.seq (.seq (.reg c_laws_FnExactSameTable_6) (.cond (tt 19) (.seq (.reg c_laws_FnExactSameTable_7) (.ret)) (.skip))) (.seq (.dreg c_laws_FnExactSameTable_8) (.seq (.reg c_laws_FnExactSameTable_9) (.seq (.reg c_laws_FnExactSameTable_10) (.seq (.reg c_laws_FnExactSameTable_11) (.seq (.seq (.reg c_laws_FnExactSameTable_12) (.cond (tt 34) (.seq (.reg c_laws_FnExactSameTable_13) (.ret)) (.skip))) (.seq (.seq (.dreg c_laws_FnExactSameTable_14) (.cond (tt 39) (.seq (.reg c_laws_FnExactSameTable_15) (.ret)) (.skip))) (.seq (.seq (.dreg c_laws_FnExactSameTable_16) (.cond (tt 44) (.seq (.reg c_laws_FnExactSameTable_17) (.ret)) (.skip))) (.seq (.reg c_laws_FnExactSameTable_18) (.ret))))))))))))))
theorem c_laws_FnExactSameTable_d : decFn Try.prog Try.f5 = some (45, [.t 4], c_laws_FnExactSameTable) := by kernel_rfl
theorem c_laws_FnExactSameTable_i {args : List Value} {G : GH} {K : Value → GH → Prop} (hn : args.length ≤ 45) (h : gW Try.prog c_laws_FnExactSameTable (RetK [.t 4] K) (T0 args) G) : GC Try.prog 5 args G K := GC_intro mixed Try.func5 c_laws_FnExactSameTable_d hn h
/-! loop.example/g01005/laws.FnExactSpreadOf (1 params, 37 temporaries) : 0=aX 1=aX 3=w0 4=w1 5=x0 6=g0 7=g1
-/
abbrev c_laws_FnExactSpreadOf_0 : List GOp := [oo 2 (.mv (cb  false))]
abbrev c_laws_FnExactSpreadOf_1 : List GOp := [oo 8 (.mv (tt 0)), oo 9 (.len (tt 8)), oo 10 (.bin .gtr (tt 9) (ci 1048576))]
abbrev c_laws_FnExactSpreadOf_2 : List GOp := [oo 2 (.mv (cb  true))]
abbrev c_laws_FnExactSpreadOf_3 : List GOp := [oo 12 (.mv (tt 0)), oo 13 (.call (ff 16) [tt 12]), oo 14 (.call (ff 15) [tt 13]), oo 11 (.mv (tt 14)), oo 15 (.ex 0 (tt 11)), oo 16 (.ex 1 (tt 11)), oo 3 (.mv (tt 15)), oo 4 (.mv (tt 16))]
abbrev c_laws_FnExactSpreadOf_4 : List GOp := [oo 17 (.mv (tt 0)), oo 18 (.call (ff 16) [tt 17]), oo 5 (.mv (tt 18))]
abbrev c_laws_FnExactSpreadOf_5 : List GOp := [oo 20 (.mv (tt 5)), oo 21 (.call (ff 17) [tt 20]), oo 19 (.mv (tt 21)), oo 22 (.ex 0 (tt 19)), oo 23 (.ex 1 (tt 19)), oo 6 (.mv (tt 22)), oo 7 (.mv (tt 23))]
abbrev c_laws_FnExactSpreadOf_6 : List GOp := [oo 24 (.mv (tt 6)), oo 25 (.mv (tt 3)), oo 26 (.bin .neq (tt 24) (tt 25)), oo 27 (.mv (tt 26)), og 28 27 false (.mv (tt 7)), og 29 27 false (.mv (tt 4)), og 30 27 false (.bin .neq (tt 28) (tt 29)), oo 31 (.pick (tt 27) (cb  true) (tt 30))]
abbrev c_laws_FnExactSpreadOf_7 : List GOp := [oo 2 (.mv (cb  false))]
abbrev c_laws_FnExactSpreadOf_8 : List GOp := [oo 32 (.mv (tt 5)), oo 33 (.mv (tt 0)), oo 34 (.call (ff 16) [tt 33]), oo 35 (.call (ff 18) [tt 32, tt 34]), oo 36 (.un .not (tt 35))]
abbrev c_laws_FnExactSpreadOf_9 : List GOp := [oo 2 (.mv (cb  false))]
abbrev c_laws_FnExactSpreadOf_10 : List GOp := [oo 2 (.mv (cb  true))]
abbrev c_laws_FnExactSpreadOf : GCode := .seq (.reg c_laws_FnExactSpreadOf_0) (.seq (.seq (.reg c_laws_FnExactSpreadOf_1) (.cond (tt 10) (.seq (.reg c_laws_FnExactSpreadOf_2) (.ret)) (.skip))) (.seq (.reg c_laws_FnExactSpreadOf_3) (.seq (.reg c_laws_FnExactSpreadOf_4) (.seq (.reg c_laws_FnExactSpreadOf_5) (.seq (.seq (.reg c_laws_FnExactSpreadOf_6) (.cond (tt 31) (.seq (.reg c_laws_FnExactSpreadOf_7) (.ret)) (.skip))) (.seq (.seq (.reg c_laws_FnExactSpreadOf_8) (.cond (tt 36) (.seq (.reg c_laws_FnExactSpreadOf_9) (.ret)) (.skip))) (.seq (.reg c_laws_FnExactSpreadOf_10) (.ret))))))))
theorem c_laws_FnExactSpreadOf_d : decFn Try.prog Try.f3 = some (37, [.t 2], c_laws_FnExactSpreadOf) := by kernel_rfl
theorem c_laws_FnExactSpreadOf_i {args : List Value} {G : GH} {K : Value → GH → Prop} (hn : args.length ≤ 37) (h : gW Try.prog c_laws_FnExactSpreadOf (RetK [.t 2] K) (T0 args) G) : GC Try.prog 3 args G K := GC_intro mixed Try.func3 c_laws_FnExactSpreadOf_d hn h
/-! loop.example/g01005/laws.FnExactValidNetwork (1 params, 27 temporaries) : 0=aN 1=aN 3=left 4=w0 5=x0 6=g0
-/
abbrev c_laws_FnExactValidNetwork_0 : List GOp := [oo 1 (.bx (tt 0)), oo 2 (.mv (cb  false))]
abbrev c_laws_FnExactValidNetwork_1 : List GOp := [oo 3 (.mv (ci 1048576))]
abbrev c_laws_FnExactValidNetwork_2 : List GOp := [oo 7 (.ldn 4 (tt 1)), oo 8 (.mv (tt 3)), oo 9 (.call (ff 19) [tt 7, tt 8]), oo 3 (.mv (tt 9))]
abbrev c_laws_FnExactValidNetwork_3 : List GOp := [oo 10 (.mv (tt 3)), oo 11 (.bin .lss (tt 10) (ci 0))]
abbrev c_laws_FnExactValidNetwork_4 : List GOp := [oo 2 (.mv (cb  true))]
abbrev c_laws_FnExactValidNetwork_5 : List GOp := [oo 12 (.ldn 4 (tt 1)), oo 13 (.call (ff 21) [tt 12]), oo 14 (.call (ff 29) [tt 13]), oo 4 (.mv (tt 14))]
abbrev c_laws_FnExactValidNetwork_6 : List GOp := [oo 15 (.ldn 4 (tt 1)), oo 16 (.call (ff 21) [tt 15]), oo 5 (.al [.int .i64 0, .int .i64 0, .int .i64 0, .slice none 0 0]), on (.st 4 (tt 5) (tt 16))]
abbrev c_laws_FnExactValidNetwork_7 : List GOp := [oo 17 (.ldn 4 (tt 5)), oo 18 (.call (ff 30) [tt 17]), oo 6 (.mv (tt 18))]
abbrev c_laws_FnExactValidNetwork_8 : List GOp := [oo 19 (.mv (tt 6)), oo 20 (.mv (tt 4)), oo 21 (.eqb true (tt 19) (tt 20))]
abbrev c_laws_FnExactValidNetwork_9 : List GOp := [oo 2 (.mv (cb  false))]
abbrev c_laws_FnExactValidNetwork_10 : List DOp := [dl 0 (oo 22 (.ldn 4 (tt 5))), dl 1 (oo 23 (.ldn 4 (tt 1))), dh 2 [0] (oo 24 (.call (ff 21) [tt 23])), dh 3 [1] (oo 25 (.call (ff 23) [tt 22, tt 24])), dl 4 (oo 26 (.un .not (tt 25)))]
abbrev c_laws_FnExactValidNetwork_11 : List GOp := [oo 2 (.mv (cb  false))]
abbrev c_laws_FnExactValidNetwork_12 : List GOp := [oo 2 (.mv (cb  true))]
abbrev c_laws_FnExactValidNetwork : GCode := .seq (.reg c_laws_FnExactValidNetwork_0) (.seq (.reg c_laws_FnExactValidNetwork_1) (.seq (.reg c_laws_FnExactValidNetwork_2) (.seq (.seq (.reg c_laws_FnExactValidNetwork_3) (.cond (tt 11) (.seq (.reg c_laws_FnExactValidNetwork_4) (.ret)) (.skip))) (.seq (.reg c_laws_FnExactValidNetwork_5) (.seq (.reg c_laws_FnExactValidNetwork_6) (.seq (.reg c_laws_FnExactValidNetwork_7) (.seq (.seq (.reg c_laws_FnExactValidNetwork_8) (.cond (tt 21) (.seq (.reg c_laws_FnExactValidNetwork_9) (.ret)) (.skip))) (.seq (.seq (.dreg c_laws_FnExactValidNetwork_10) (.cond (tt 26) (.seq (.reg c_laws_FnExactValidNetwork_11) (.ret)) (.skip))) (.seq (.reg c_laws_FnExactValidNetwork_12) (.ret))))))))))
theorem c_laws_FnExactValidNetwork_d : decFn Try.prog Try.f6 = some (27, [.t 2], c_laws_FnExactValidNetwork) := by kernel_rfl
theorem c_laws_FnExactValidNetwork_i {args : List Value} {G : GH} {K : Value → GH → Prop} (hn : args.length ≤ 27) (h : gW Try.prog c_laws_FnExactValidNetwork (RetK [.t 2] K) (T0 args) G) : GC Try.prog 6 args G K := GC_intro mixed Try.func6 c_laws_FnExactValidNetwork_d hn h
/-! loop.example/g01005/laws.FnExactValidTable (1 params, 27 temporaries) : 0=aT 1=aT 3=left 4=w0 5=x0 6=g0
-/
abbrev c_laws_FnExactValidTable_0 : List GOp := [oo 1 (.bx (tt 0)), oo 2 (.mv (cb  false))]
abbrev c_laws_FnExactValidTable_1 : List GOp := [oo 3 (.mv (ci 1048576))]
abbrev c_laws_FnExactValidTable_2 : List GOp := [oo 7 (.ldn 2 (tt 1)), oo 8 (.mv (tt 3)), oo 9 (.call (ff 24) [tt 7, tt 8]), oo 3 (.mv (tt 9))]
abbrev c_laws_FnExactValidTable_3 : List GOp := [oo 10 (.mv (tt 3)), oo 11 (.bin .lss (tt 10) (ci 0))]
abbrev c_laws_FnExactValidTable_4 : List GOp := [oo 2 (.mv (cb  true))]
abbrev c_laws_FnExactValidTable_5 : List GOp := [oo 12 (.ldn 2 (tt 1)), oo 13 (.call (ff 26) [tt 12]), oo 14 (.call (ff 33) [tt 13]), oo 4 (.mv (tt 14))]
abbrev c_laws_FnExactValidTable_6 : List GOp := [oo 15 (.ldn 2 (tt 1)), oo 16 (.call (ff 26) [tt 15]), oo 5 (.al [.slice none 0 0, .slice none 0 0]), on (.st 2 (tt 5) (tt 16))]
abbrev c_laws_FnExactValidTable_7 : List GOp := [oo 17 (.ldn 2 (tt 5)), oo 18 (.call (ff 34) [tt 17]), oo 6 (.mv (tt 18))]
abbrev c_laws_FnExactValidTable_8 : List GOp := [oo 19 (.mv (tt 6)), oo 20 (.mv (tt 4)), oo 21 (.eqb true (tt 19) (tt 20))]
abbrev c_laws_FnExactValidTable_9 : List GOp := [oo 2 (.mv (cb  false))]
abbrev c_laws_FnExactValidTable_10 : List DOp := [dl 0 (oo 22 (.ldn 2 (tt 5))), dl 1 (oo 23 (.ldn 2 (tt 1))), dh 2 [0] (oo 24 (.call (ff 26) [tt 23])), dh 3 [1] (oo 25 (.call (ff 28) [tt 22, tt 24])), dl 4 (oo 26 (.un .not (tt 25)))]
abbrev c_laws_FnExactValidTable_11 : List GOp := [oo 2 (.mv (cb  false))]
abbrev c_laws_FnExactValidTable_12 : List GOp := [oo 2 (.mv (cb  true))]
abbrev c_laws_FnExactValidTable : GCode := .seq (.reg c_laws_FnExactValidTable_0) (.seq (.reg c_laws_FnExactValidTable_1) (.seq (.reg c_laws_FnExactValidTable_2) (.seq (.seq (.reg c_laws_FnExactValidTable_3) (.cond (tt 11) (.seq (.reg c_laws_FnExactValidTable_4) (.ret)) (.skip))) (.seq (.reg c_laws_FnExactValidTable_5) (.seq (.reg c_laws_FnExactValidTable_6) (.seq (.reg c_laws_FnExactValidTable_7) (.seq (.seq (.reg c_laws_FnExactValidTable_8) (.cond (tt 21) (.seq (.reg c_laws_FnExactValidTable_9) (.ret)) (.skip))) (.seq (.seq (.dreg c_laws_FnExactValidTable_10) (.cond (tt 26) (.seq (.reg c_laws_FnExactValidTable_11) (.ret)) (.skip))) (.seq (.reg c_laws_FnExactValidTable_12) (.ret))))))))))
theorem c_laws_FnExactValidTable_d : decFn Try.prog Try.f8 = some (27, [.t 2], c_laws_FnExactValidTable) := by kernel_rfl
theorem c_laws_FnExactValidTable_i {args : List Value} {G : GH} {K : Value → GH → Prop} (hn : args.length ≤ 27) (h : gW Try.prog c_laws_FnExactValidTable (RetK [.t 2] K) (T0 args) G) : GC Try.prog 8 args G K := GC_intro mixed Try.func8 c_laws_FnExactValidTable_d hn h
/-! loop.example/g01005/laws.FnExactValidTables (1 params, 27 temporaries) : 0=aList 1=aList 3=left 4=w0 5=x0 6=g0
-/
abbrev c_laws_FnExactValidTables_0 : List GOp := [oo 2 (.mv (cb  false))]
abbrev c_laws_FnExactValidTables_1 : List GOp := [oo 3 (.mv (ci 1048576))]
abbrev c_laws_FnExactValidTables_2 : List GOp := [oo 7 (.mv (tt 0)), oo 8 (.mv (tt 3)), oo 9 (.call (ff 41) [tt 7, tt 8]), oo 3 (.mv (tt 9))]
abbrev c_laws_FnExactValidTables_3 : List GOp := [oo 10 (.mv (tt 3)), oo 11 (.bin .lss (tt 10) (ci 0))]
abbrev c_laws_FnExactValidTables_4 : List GOp := [oo 2 (.mv (cb  true))]
abbrev c_laws_FnExactValidTables_5 : List GOp := [oo 12 (.mv (tt 0)), oo 13 (.call (ff 43) [tt 12]), oo 14 (.call (ff 42) [tt 13]), oo 4 (.mv (tt 14))]
abbrev c_laws_FnExactValidTables_6 : List GOp := [oo 15 (.mv (tt 0)), oo 16 (.call (ff 43) [tt 15]), oo 5 (.mv (tt 16))]
abbrev c_laws_FnExactValidTables_7 : List GOp := [oo 17 (.mv (tt 5)), oo 18 (.call (ff 44) [tt 17]), oo 6 (.mv (tt 18))]
abbrev c_laws_FnExactValidTables_8 : List GOp := [oo 19 (.mv (tt 6)), oo 20 (.mv (tt 4)), oo 21 (.eqb true (tt 19) (tt 20))]
abbrev c_laws_FnExactValidTables_9 : List GOp := [oo 2 (.mv (cb  false))]
abbrev c_laws_FnExactValidTables_10 : List GOp := [oo 22 (.mv (tt 5)), oo 23 (.mv (tt 0)), oo 24 (.call (ff 43) [tt 23]), oo 25 (.call (ff 45) [tt 22, tt 24]), oo 26 (.un .not (tt 25))]
abbrev c_laws_FnExactValidTables_11 : List GOp := [oo 2 (.mv (cb  false))]
abbrev c_laws_FnExactValidTables_12 : List GOp := [oo 2 (.mv (cb  true))]
abbrev c_laws_FnExactValidTables : GCode := .seq (.reg c_laws_FnExactValidTables_0) (.seq (.reg c_laws_FnExactValidTables_1) (.seq (.reg c_laws_FnExactValidTables_2) (.seq (.seq (.reg c_laws_FnExactValidTables_3) (.cond (tt 11) (.seq (.reg c_laws_FnExactValidTables_4) (.ret)) (.skip))) (.seq (.reg c_laws_FnExactValidTables_5) (.seq (.reg c_laws_FnExactValidTables_6) (.seq (.reg c_laws_FnExactValidTables_7) (.seq (.seq (.reg c_laws_FnExactValidTables_8) (.cond (tt 21) (.seq (.reg c_laws_FnExactValidTables_9) (.ret)) (.skip))) (.seq (.seq (.reg c_laws_FnExactValidTables_10) (.cond (tt 26) (.seq (.reg c_laws_FnExactValidTables_11) (.ret)) (.skip))) (.seq (.reg c_laws_FnExactValidTables_12) (.ret))))))))))
theorem c_laws_FnExactValidTables_d : decFn Try.prog Try.f12 = some (27, [.t 2], c_laws_FnExactValidTables) := by kernel_rfl
theorem c_laws_FnExactValidTables_i {args : List Value} {G : GH} {K : Value → GH → Prop} (hn : args.length ≤ 27) (h : gW Try.prog c_laws_FnExactValidTables (RetK [.t 2] K) (T0 args) G) : GC Try.prog 12 args G K := GC_intro mixed Try.func12 c_laws_FnExactValidTables_d hn h
/-! loop.example/g01005/laws.FnExactWeightedMean (2 params, 56 temporaries) : 0=aG 1=aX 2=aG 3=aX 5=left 6=w0 7=w1 8=x0 9=x1 10=g0 11=g1
-/
abbrev c_laws_FnExactWeightedMean_0 : List GOp := [oo 2 (.bx (tt 0)), oo 4 (.mv (cb  false))]
abbrev c_laws_FnExactWeightedMean_1 : List GOp := [oo 12 (.mv (tt 1)), oo 13 (.len (tt 12)), oo 14 (.bin .gtr (tt 13) (ci 1048576))]
abbrev c_laws_FnExactWeightedMean_2 : List GOp := [oo 4 (.mv (cb  true))]
abbrev c_laws_FnExactWeightedMean_3 : List GOp := [oo 5 (.mv (ci 1048576))]
abbrev c_laws_FnExactWeightedMean_4 : List GOp := [oo 15 (.ldn 2 (tt 2)), oo 16 (.mv (tt 5)), oo 17 (.call (ff 46) [tt 15, tt 16]), oo 5 (.mv (tt 17))]
abbrev c_laws_FnExactWeightedMean_5 : List GOp := [oo 18 (.mv (tt 5)), oo 19 (.bin .lss (tt 18) (ci 0))]
abbrev c_laws_FnExactWeightedMean_6 : List GOp := [oo 4 (.mv (cb  true))]
abbrev c_laws_FnExactWeightedMean_7 : List GOp := [oo 21 (.ldn 2 (tt 2)), oo 22 (.call (ff 48) [tt 21]), oo 23 (.mv (tt 1)), oo 24 (.call (ff 16) [tt 23]), oo 25 (.call (ff 47) [tt 22, tt 24]), oo 20 (.mv (tt 25)), oo 26 (.ex 0 (tt 20)), oo 27 (.ex 1 (tt 20)), oo 6 (.mv (tt 26)), oo 7 (.mv (tt 27))]
abbrev c_laws_FnExactWeightedMean_8 : List GOp := [oo 28 (.ldn 2 (tt 2)), oo 29 (.call (ff 48) [tt 28]), oo 8 (.al [.int .i64 0, .slice none 0 0]), on (.st 2 (tt 8) (tt 29))]
abbrev c_laws_FnExactWeightedMean_9 : List GOp := [oo 30 (.mv (tt 1)), oo 31 (.call (ff 16) [tt 30]), oo 9 (.mv (tt 31))]
abbrev c_laws_FnExactWeightedMean_10 : List GOp := [oo 33 (.ldn 2 (tt 8)), oo 34 (.mv (tt 9)), oo 35 (.call (ff 49) [tt 33, tt 34]), oo 32 (.mv (tt 35)), oo 36 (.ex 0 (tt 32)), oo 37 (.ex 1 (tt 32)), oo 10 (.mv (tt 36)), oo 11 (.mv (tt 37))]
abbrev c_laws_FnExactWeightedMean_11 : List GOp := [oo 38 (.mv (tt 10)), oo 39 (.mv (tt 6)), oo 40 (.bin .neq (tt 38) (tt 39)), oo 41 (.mv (tt 40)), og 42 41 false (.mv (tt 11)), og 43 41 false (.mv (tt 7)), og 44 41 false (.bin .neq (tt 42) (tt 43)), oo 45 (.pick (tt 41) (cb  true) (tt 44))]
abbrev c_laws_FnExactWeightedMean_12 : List GOp := [oo 4 (.mv (cb  false))]
abbrev c_laws_FnExactWeightedMean_13 : List DOp := [dl 0 (oo 46 (.ldn 2 (tt 8))), dl 1 (oo 47 (.ldn 2 (tt 2))), dh 2 [0] (oo 48 (.call (ff 48) [tt 47])), dh 3 [1] (oo 49 (.call (ff 50) [tt 46, tt 48])), dl 4 (oo 50 (.un .not (tt 49)))]
abbrev c_laws_FnExactWeightedMean_14 : List GOp := [oo 4 (.mv (cb  false))]
abbrev c_laws_FnExactWeightedMean_15 : List GOp := [oo 51 (.mv (tt 9)), oo 52 (.mv (tt 1)), oo 53 (.call (ff 16) [tt 52]), oo 54 (.call (ff 18) [tt 51, tt 53]), oo 55 (.un .not (tt 54))]
abbrev c_laws_FnExactWeightedMean_16 : List GOp := [oo 4 (.mv (cb  false))]
abbrev c_laws_FnExactWeightedMean_17 : List GOp := [oo 4 (.mv (cb  true))]
abbrev c_laws_FnExactWeightedMean : GCode := .seq (.reg c_laws_FnExactWeightedMean_0) (.seq (.seq (.reg c_laws_FnExactWeightedMean_1) (.cond (tt 14) (.seq (.reg c_laws_FnExactWeightedMean_2) (.ret)) (.skip))) (.seq (.reg c_laws_FnExactWeightedMean_3) (.seq (.reg c_laws_FnExactWeightedMean_4) (.seq (.seq (.reg c_laws_FnExactWeightedMean_5) (.cond (tt 19) (.seq (.reg c_laws_FnExactWeightedMean_6) (.ret)) (.skip))) (.seq (.reg c_laws_FnExactWeightedMean_7) (.seq (.reg c_laws_FnExactWeightedMean_8) (.seq (.reg c_laws_FnExactWeightedMean_9) (.seq (.reg c_laws_FnExactWeightedMean_10) (.seq (.seq (.reg c_laws_FnExactWeightedMean_11) (.cond (tt 45) (.seq (.reg c_laws_FnExactWeightedMean_12) (.ret)) (.skip))) (.seq (.seq (.dreg c_laws_FnExactWeightedMean_13) (.cond (tt 50) (.seq (.reg c_laws_FnExactWeightedMean_14) (.ret)) (.skip))) (.seq (.seq (.reg c_laws_FnExactWeightedMean_15) (.cond (tt 55) (.seq (.reg c_laws_FnExactWeightedMean_16) (.ret)) (.skip))) (.seq (.reg c_laws_FnExactWeightedMean_17) (.ret)))))))))))))
theorem c_laws_FnExactWeightedMean_d : decFn Try.prog Try.f13 = some (56, [.t 4], c_laws_FnExactWeightedMean) := by kernel_rfl
theorem c_laws_FnExactWeightedMean_i {args : List Value} {G : GH} {K : Value → GH → Prop} (hn : args.length ≤ 56) (h : gW Try.prog c_laws_FnExactWeightedMean (RetK [.t 4] K) (T0 args) G) : GC Try.prog 13 args G K := GC_intro mixed Try.func13 c_laws_FnExactWeightedMean_d hn h
/-! loop.example/g01005/laws.eqArc (2 params, 20 temporaries) : 0=a 1=b 2=a 3=b
-/
abbrev c_laws_eqArc_0 : List GOp := [oo 2 (.bx (tt 0)), oo 3 (.bx (tt 1)), oo 4 (.mv (cb  false))]
abbrev c_laws_eqArc_1 : List GOp := [oo 5 (.fa 0 (tt 2)), oo 6 (.ld (tt 5)), oo 7 (.fa 0 (tt 3)), oo 8 (.ld (tt 7)), oo 9 (.bin .neq (tt 6) (tt 8))]
abbrev c_laws_eqArc_2 : List GOp := [oo 4 (.mv (cb  false))]
abbrev c_laws_eqArc_3 : List GOp := [oo 10 (.fa 1 (tt 2)), oo 11 (.ld (tt 10)), oo 12 (.fa 1 (tt 3)), oo 13 (.ld (tt 12)), oo 14 (.bin .neq (tt 11) (tt 13))]
abbrev c_laws_eqArc_4 : List GOp := [oo 4 (.mv (cb  false))]
abbrev c_laws_eqArc_5 : List GOp := [oo 15 (.fa 2 (tt 2)), oo 16 (.ld (tt 15)), oo 17 (.fa 2 (tt 3)), oo 18 (.ld (tt 17)), oo 19 (.bin .neq (tt 16) (tt 18))]
abbrev c_laws_eqArc_6 : List GOp := [oo 4 (.mv (cb  false))]
abbrev c_laws_eqArc_7 : List GOp := [oo 4 (.mv (cb  true))]
abbrev c_laws_eqArc : GCode := .seq (.reg c_laws_eqArc_0) (.seq (.seq (.reg c_laws_eqArc_1) (.cond (tt 9) (.seq (.reg c_laws_eqArc_2) (.ret)) (.skip))) (.seq (.seq (.reg c_laws_eqArc_3) (.cond (tt 14) (.seq (.reg c_laws_eqArc_4) (.ret)) (.skip))) (.seq (.seq (.reg c_laws_eqArc_5) (.cond (tt 19) (.seq (.reg c_laws_eqArc_6) (.ret)) (.skip))) (.seq (.reg c_laws_eqArc_7) (.ret)))))
theorem c_laws_eqArc_d : decFn Try.prog Try.f101 = some (20, [.t 4], c_laws_eqArc) := by kernel_rfl
theorem c_laws_eqArc_i {args : List Value} {G : GH} {K : Value → GH → Prop} (hn : args.length ≤ 20) (h : gW Try.prog c_laws_eqArc (RetK [.t 4] K) (T0 args) G) : GC Try.prog 101 args G K := GC_intro mixed Try.func101 c_laws_eqArc_d hn h
/-! loop.example/g01005/laws.eqArcS (2 params, 27 temporaries) : 0=a 1=b 2=a 3=b 5=i
-/
abbrev c_laws_eqArcS_0 : List GOp := [oo 4 (.mv (cb  false))]
abbrev c_laws_eqArcS_1 : List GOp := [oo 6 (.mv (tt 0)), oo 7 (.len (tt 6)), oo 8 (.mv (tt 1)), oo 9 (.len (tt 8)), oo 10 (.bin .neq (tt 7) (tt 9))]
abbrev c_laws_eqArcS_2 : List GOp := [oo 4 (.mv (cb  false))]
abbrev c_laws_eqArcS_3 : List GOp := [oo 5 (.mv (ci 0))]
abbrev c_laws_eqArcS_4 : List GOp := [oo 11 (.mv (tt 5)), oo 12 (.mv (tt 0)), oo 13 (.len (tt 12)), oo 14 (.bin .lss (tt 11) (tt 13))]
abbrev c_laws_eqArcS_5 : List DOp := [dl 0 (oo 17 (.mv (tt 0))), dl 1 (oo 18 (.mv (tt 5))), dl 2 (oo 19 (.ia 3 (tt 17) (tt 18))), dl 3 (oo 20 (.ldn 3 (tt 19))), dl 4 (oo 21 (.mv (tt 1))), dl 5 (oo 22 (.mv (tt 5))), dl 6 (oo 23 (.ia 3 (tt 21) (tt 22))), dl 7 (oo 24 (.ldn 3 (tt 23))), dh 8 [] (oo 25 (.call (ff 101) [tt 20, tt 24])), dl 9 (oo 26 (.un .not (tt 25)))]
abbrev c_laws_eqArcS_6 : List GOp := [oo 4 (.mv (cb  false))]
abbrev c_laws_eqArcS_7 : List GOp := [oo 15 (.mv (tt 5)), oo 16 (.bin .add (tt 15) (ci 1)), oo 5 (.mv (tt 16))]
abbrev c_laws_eqArcS_l0 : GCode := .seq (.seq (.reg c_laws_eqArcS_4) (.cond (tt 14) (.skip) (.exit 0))) (.seq (.blk 1 (.seq (.dreg c_laws_eqArcS_5) (.cond (tt 26) (.seq (.reg c_laws_eqArcS_6) (.ret)) (.skip)))) (.reg c_laws_eqArcS_7))
abbrev c_laws_eqArcS_9 : List GOp := [oo 4 (.mv (cb  true))]
abbrev c_laws_eqArcS : GCode := .seq (.reg c_laws_eqArcS_0) (.seq (.seq (.reg c_laws_eqArcS_1) (.cond (tt 10) (.seq (.reg c_laws_eqArcS_2) (.ret)) (.skip))) (.seq (.seq (.reg c_laws_eqArcS_3) (.blk 0 (.loop c_laws_eqArcS_l0))) (.seq (.reg c_laws_eqArcS_9) (.ret))))
theorem c_laws_eqArcS_d : decFn Try.prog Try.f64 = some (27, [.t 4], c_laws_eqArcS) := by kernel_rfl
theorem c_laws_eqArcS_i {args : List Value} {G : GH} {K : Value → GH → Prop} (hn : args.length ≤ 27) (h : gW Try.prog c_laws_eqArcS (RetK [.t 4] K) (T0 args) G) : GC Try.prog 64 args G K := GC_intro mixed Try.func64 c_laws_eqArcS_d hn h
/-! loop.example/g01005/laws.eqEdge (2 params, 20 temporaries) : 0=a 1=b 2=a 3=b
-/
abbrev c_laws_eqEdge_0 : List GOp := [oo 2 (.bx (tt 0)), oo 3 (.bx (tt 1)), oo 4 (.mv (cb  false))]
abbrev c_laws_eqEdge_1 : List GOp := [oo 5 (.fa 0 (tt 2)), oo 6 (.ld (tt 5)), oo 7 (.fa 0 (tt 3)), oo 8 (.ld (tt 7)), oo 9 (.bin .neq (tt 6) (tt 8))]
abbrev c_laws_eqEdge_2 : List GOp := [oo 4 (.mv (cb  false))]
abbrev c_laws_eqEdge_3 : List GOp := [oo 10 (.fa 1 (tt 2)), oo 11 (.ld (tt 10)), oo 12 (.fa 1 (tt 3)), oo 13 (.ld (tt 12)), oo 14 (.bin .neq (tt 11) (tt 13))]
abbrev c_laws_eqEdge_4 : List GOp := [oo 4 (.mv (cb  false))]
abbrev c_laws_eqEdge_5 : List GOp := [oo 15 (.fa 2 (tt 2)), oo 16 (.ld (tt 15)), oo 17 (.fa 2 (tt 3)), oo 18 (.ld (tt 17)), oo 19 (.bin .neq (tt 16) (tt 18))]
abbrev c_laws_eqEdge_6 : List GOp := [oo 4 (.mv (cb  false))]
abbrev c_laws_eqEdge_7 : List GOp := [oo 4 (.mv (cb  true))]
abbrev c_laws_eqEdge : GCode := .seq (.reg c_laws_eqEdge_0) (.seq (.seq (.reg c_laws_eqEdge_1) (.cond (tt 9) (.seq (.reg c_laws_eqEdge_2) (.ret)) (.skip))) (.seq (.seq (.reg c_laws_eqEdge_3) (.cond (tt 14) (.seq (.reg c_laws_eqEdge_4) (.ret)) (.skip))) (.seq (.seq (.reg c_laws_eqEdge_5) (.cond (tt 19) (.seq (.reg c_laws_eqEdge_6) (.ret)) (.skip))) (.seq (.reg c_laws_eqEdge_7) (.ret)))))
theorem c_laws_eqEdge_d : decFn Try.prog Try.f118 = some (20, [.t 4], c_laws_eqEdge) := by kernel_rfl
theorem c_laws_eqEdge_i {args : List Value} {G : GH} {K : Value → GH → Prop} (hn : args.length ≤ 20) (h : gW Try.prog c_laws_eqEdge (RetK [.t 4] K) (T0 args) G) : GC Try.prog 118 args G K := GC_intro mixed Try.func118 c_laws_eqEdge_d hn h
/-! loop.example/g01005/laws.eqEdgeS (2 params, 27 temporaries) : 0=a 1=b 2=a 3=b 5=i
-/
abbrev c_laws_eqEdgeS_0 : List GOp := [oo 4 (.mv (cb  false))]
abbrev c_laws_eqEdgeS_1 : List GOp := [oo 6 (.mv (tt 0)), oo 7 (.len (tt 6)), oo 8 (.mv (tt 1)), oo 9 (.len (tt 8)), oo 10 (.bin .neq (tt 7) (tt 9))]
abbrev c_laws_eqEdgeS_2 : List GOp := [oo 4 (.mv (cb  false))]
abbrev c_laws_eqEdgeS_3 : List GOp := [oo 5 (.mv (ci 0))]
abbrev c_laws_eqEdgeS_4 : List GOp := [oo 11 (.mv (tt 5)), oo 12 (.mv (tt 0)), oo 13 (.len (tt 12)), oo 14 (.bin .lss (tt 11) (tt 13))]
abbrev c_laws_eqEdgeS_5 : List DOp := [dl 0 (oo 17 (.mv (tt 0))), dl 1 (oo 18 (.mv (tt 5))), dl 2 (oo 19 (.ia 3 (tt 17) (tt 18))), dl 3 (oo 20 (.ldn 3 (tt 19))), dl 4 (oo 21 (.mv (tt 1))), dl 5 (oo 22 (.mv (tt 5))), dl 6 (oo 23 (.ia 3 (tt 21) (tt 22))), dl 7 (oo 24 (.ldn 3 (tt 23))), dh 8 [] (oo 25 (.call (ff 118) [tt 20, tt 24])), dl 9 (oo 26 (.un .not (tt 25)))]
abbrev c_laws_eqEdgeS_6 : List GOp := [oo 4 (.mv (cb  false))]
abbrev c_laws_eqEdgeS_7 : List GOp := [oo 15 (.mv (tt 5)), oo 16 (.bin .add (tt 15) (ci 1)), oo 5 (.mv (tt 16))]
abbrev c_laws_eqEdgeS_l0 : GCode := .seq (.seq (.reg c_laws_eqEdgeS_4) (.cond (tt 14) (.skip) (.exit 0))) (.seq (.blk 1 (.seq (.dreg c_laws_eqEdgeS_5) (.cond (tt 26) (.seq (.reg c_laws_eqEdgeS_6) (.ret)) (.skip)))) (.reg c_laws_eqEdgeS_7))
abbrev c_laws_eqEdgeS_9 : List GOp := [oo 4 (.mv (cb  true))]
abbrev c_laws_eqEdgeS : GCode := .seq (.reg c_laws_eqEdgeS_0) (.seq (.seq (.reg c_laws_eqEdgeS_1) (.cond (tt 10) (.seq (.reg c_laws_eqEdgeS_2) (.ret)) (.skip))) (.seq (.seq (.reg c_laws_eqEdgeS_3) (.blk 0 (.loop c_laws_eqEdgeS_l0))) (.seq (.reg c_laws_eqEdgeS_9) (.ret))))
theorem c_laws_eqEdgeS_d : decFn Try.prog Try.f96 = some (27, [.t 4], c_laws_eqEdgeS) := by kernel_rfl
theorem c_laws_eqEdgeS_i {args : List Value} {G : GH} {K : Value → GH → Prop} (hn : args.length ≤ 27) (h : gW Try.prog c_laws_eqEdgeS (RetK [.t 4] K) (T0 args) G) : GC Try.prog 96 args G K := GC_intro mixed Try.func96 c_laws_eqEdgeS_d hn h
/-! loop.example/g01005/laws.eqGraph (2 params, 16 temporaries) : 0=a 1=b 2=a 3=b
-/
abbrev c_laws_eqGraph_0 : List GOp := [oo 2 (.bx (tt 0)), oo 3 (.bx (tt 1)), oo 4 (.mv (cb  false))]
abbrev c_laws_eqGraph_1 : List GOp := [oo 5 (.fa 0 (tt 2)), oo 6 (.ld (tt 5)), oo 7 (.fa 0 (tt 3)), oo 8 (.ld (tt 7)), oo 9 (.bin .neq (tt 6) (tt 8))]
abbrev c_laws_eqGraph_2 : List GOp := [oo 4 (.mv (cb  false))]
abbrev c_laws_eqGraph_3 : List GOp := [oo 10 (.fa 1 (tt 2)), oo 11 (.ld (tt 10)), oo 12 (.fa 1 (tt 3)), oo 13 (.ld (tt 12)), oo 14 (.call (ff 96) [tt 11, tt 13]), oo 15 (.un .not (tt 14))]
abbrev c_laws_eqGraph_4 : List GOp := [oo 4 (.mv (cb  false))]
abbrev c_laws_eqGraph_5 : List GOp := [oo 4 (.mv (cb  true))]
abbrev c_laws_eqGraph : GCode := .seq (.reg c_laws_eqGraph_0) (.seq (.seq (.reg c_laws_eqGraph_1) (.cond (tt 9) (.seq (.reg c_laws_eqGraph_2) (.ret)) (.skip))) (.seq (.seq (.reg c_laws_eqGraph_3) (.cond (tt 15) (.seq (.reg c_laws_eqGraph_4) (.ret)) (.skip))) (.seq (.reg c_laws_eqGraph_5) (.ret))))
theorem c_laws_eqGraph_d : decFn Try.prog Try.f50 = some (16, [.t 4], c_laws_eqGraph) := by kernel_rfl
theorem c_laws_eqGraph_i {args : List Value} {G : GH} {K : Value → GH → Prop} (hn : args.length ≤ 16) (h : gW Try.prog c_laws_eqGraph (RetK [.t 4] K) (T0 args) G) : GC Try.prog 50 args G K := GC_intro mixed Try.func50 c_laws_eqGraph_d hn h
/-! loop.example/g01005/laws.eqInt64S (2 params, 26 temporaries) : 0=a 1=b 2=a 3=b 5=i
-/
abbrev c_laws_eqInt64S_0 : List GOp := [oo 4 (.mv (cb  false))]
abbrev c_laws_eqInt64S_1 : List GOp := [oo 6 (.mv (tt 0)), oo 7 (.len (tt 6)), oo 8 (.mv (tt 1)), oo 9 (.len (tt 8)), oo 10 (.bin .neq (tt 7) (tt 9))]
abbrev c_laws_eqInt64S_2 : List GOp := [oo 4 (.mv (cb  false))]
abbrev c_laws_eqInt64S_3 : List GOp := [oo 5 (.mv (ci 0))]
abbrev c_laws_eqInt64S_4 : List GOp := [oo 11 (.mv (tt 5)), oo 12 (.mv (tt 0)), oo 13 (.len (tt 12)), oo 14 (.bin .lss (tt 11) (tt 13))]
abbrev c_laws_eqInt64S_5 : List DOp := [dl 0 (oo 17 (.mv (tt 0))), dl 1 (oo 18 (.mv (tt 5))), dl 2 (oo 19 (.ia 1 (tt 17) (tt 18))), dl 3 (oo 20 (.ld (tt 19))), dl 4 (oo 21 (.mv (tt 1))), dl 5 (oo 22 (.mv (tt 5))), dl 6 (oo 23 (.ia 1 (tt 21) (tt 22))), dl 7 (oo 24 (.ld (tt 23))), dl 8 (oo 25 (.bin .neq (tt 20) (tt 24)))]
abbrev c_laws_eqInt64S_6 : List GOp := [oo 4 (.mv (cb  false))]
abbrev c_laws_eqInt64S_7 : List GOp := [oo 15 (.mv (tt 5)), oo 16 (.bin .add (tt 15) (ci 1)), oo 5 (.mv (tt 16))]
abbrev c_laws_eqInt64S_l0 : GCode := .seq (.seq (.reg c_laws_eqInt64S_4) (.cond (tt 14) (.skip) (.exit 0))) (.seq (.blk 1 (.seq (.dreg c_laws_eqInt64S_5) (.cond (tt 25) (.seq (.reg c_laws_eqInt64S_6) (.ret)) (.skip)))) (.reg c_laws_eqInt64S_7))
abbrev c_laws_eqInt64S_9 : List GOp := [oo 4 (.mv (cb  true))]
abbrev c_laws_eqInt64S : GCode := .seq (.reg c_laws_eqInt64S_0) (.seq (.seq (.reg c_laws_eqInt64S_1) (.cond (tt 10) (.seq (.reg c_laws_eqInt64S_2) (.ret)) (.skip))) (.seq (.seq (.reg c_laws_eqInt64S_3) (.blk 0 (.loop c_laws_eqInt64S_l0))) (.seq (.reg c_laws_eqInt64S_9) (.ret))))
theorem c_laws_eqInt64S_d : decFn Try.prog Try.f18 = some (26, [.t 4], c_laws_eqInt64S) := by kernel_rfl
theorem c_laws_eqInt64S_i {args : List Value} {G : GH} {K : Value → GH → Prop} (hn : args.length ≤ 26) (h : gW Try.prog c_laws_eqInt64S (RetK [.t 4] K) (T0 args) G) : GC Try.prog 18 args G K := GC_intro mixed Try.func18 c_laws_eqInt64S_d hn h
/-! loop.example/g01005/laws.eqInt64SS (2 params, 27 temporaries) : 0=a 1=b 2=a 3=b 5=i
-/
abbrev c_laws_eqInt64SS_0 : List GOp := [oo 4 (.mv (cb  false))]
abbrev c_laws_eqInt64SS_1 : List GOp := [oo 6 (.mv (tt 0)), oo 7 (.len (tt 6)), oo 8 (.mv (tt 1)), oo 9 (.len (tt 8)), oo 10 (.bin .neq (tt 7) (tt 9))]
abbrev c_laws_eqInt64SS_2 : List GOp := [oo 4 (.mv (cb  false))]
abbrev c_laws_eqInt64SS_3 : List GOp := [oo 5 (.mv (ci 0))]
abbrev c_laws_eqInt64SS_4 : List GOp := [oo 11 (.mv (tt 5)), oo 12 (.mv (tt 0)), oo 13 (.len (tt 12)), oo 14 (.bin .lss (tt 11) (tt 13))]
abbrev c_laws_eqInt64SS_5 : List DOp := [dl 0 (oo 17 (.mv (tt 0))), dl 1 (oo 18 (.mv (tt 5))), dl 2 (oo 19 (.ia 1 (tt 17) (tt 18))), dl 3 (oo 20 (.ld (tt 19))), dl 4 (oo 21 (.mv (tt 1))), dl 5 (oo 22 (.mv (tt 5))), dl 6 (oo 23 (.ia 1 (tt 21) (tt 22))), dl 7 (oo 24 (.ld (tt 23))), dh 8 [] (oo 25 (.call (ff 18) [tt 20, tt 24])), dl 9 (oo 26 (.un .not (tt 25)))]
abbrev c_laws_eqInt64SS_6 : List GOp := [oo 4 (.mv (cb  false))]
abbrev c_laws_eqInt64SS_7 : List GOp := [oo 15 (.mv (tt 5)), oo 16 (.bin .add (tt 15) (ci 1)), oo 5 (.mv (tt 16))]
abbrev c_laws_eqInt64SS_l0 : GCode := .seq (.seq (.reg c_laws_eqInt64SS_4) (.cond (tt 14) (.skip) (.exit 0))) (.seq (.blk 1 (.seq (.dreg c_laws_eqInt64SS_5) (.cond (tt 26) (.seq (.reg c_laws_eqInt64SS_6) (.ret)) (.skip)))) (.reg c_laws_eqInt64SS_7))
abbrev c_laws_eqInt64SS_9 : List GOp := [oo 4 (.mv (cb  true))]
abbrev c_laws_eqInt64SS : GCode := .seq (.reg c_laws_eqInt64SS_0) (.seq (.seq (.reg c_laws_eqInt64SS_1) (.cond (tt 10) (.seq (.reg c_laws_eqInt64SS_2) (.ret)) (.skip))) (.seq (.seq (.reg c_laws_eqInt64SS_3) (.blk 0 (.loop c_laws_eqInt64SS_l0))) (.seq (.reg c_laws_eqInt64SS_9) (.ret))))
theorem c_laws_eqInt64SS_d : decFn Try.prog Try.f71 = some (27, [.t 4], c_laws_eqInt64SS) := by kernel_rfl
theorem c_laws_eqInt64SS_i {args : List Value} {G : GH} {K : Value → GH → Prop} (hn : args.length ≤ 27) (h : gW Try.prog c_laws_eqInt64SS (RetK [.t 4] K) (T0 args) G) : GC Try.prog 71 args G K := GC_intro mixed Try.func71 c_laws_eqInt64SS_d hn h
/-! loop.example/g01005/laws.eqNetwork (2 params, 26 temporaries) : 0=a 1=b 2=a 3=b
-/
abbrev c_laws_eqNetwork_0 : List GOp := [oo 2 (.bx (tt 0)), oo 3 (.bx (tt 1)), oo 4 (.mv (cb  false))]
abbrev c_laws_eqNetwork_1 : List GOp := [oo 5 (.fa 0 (tt 2)), oo 6 (.ld (tt 5)), oo 7 (.fa 0 (tt 3)), oo 8 (.ld (tt 7)), oo 9 (.bin .neq (tt 6) (tt 8))]
abbrev c_laws_eqNetwork_2 : List GOp := [oo 4 (.mv (cb  false))]
abbrev c_laws_eqNetwork_3 : List GOp := [oo 10 (.fa 1 (tt 2)), oo 11 (.ld (tt 10)), oo 12 (.fa 1 (tt 3)), oo 13 (.ld (tt 12)), oo 14 (.bin .neq (tt 11) (tt 13))]
abbrev c_laws_eqNetwork_4 : List GOp := [oo 4 (.mv (cb  false))]
abbrev c_laws_eqNetwork_5 : List GOp := [oo 15 (.fa 2 (tt 2)), oo 16 (.ld (tt 15)), oo 17 (.fa 2 (tt 3)), oo 18 (.ld (tt 17)), oo 19 (.bin .neq (tt 16) (tt 18))]
abbrev c_laws_eqNetwork_6 : List GOp := [oo 4 (.mv (cb  false))]
abbrev c_laws_eqNetwork_7 : List GOp := [oo 20 (.fa 3 (tt 2)), oo 21 (.ld (tt 20)), oo 22 (.fa 3 (tt 3)), oo 23 (.ld (tt 22)), oo 24 (.call (ff 64) [tt 21, tt 23]), oo 25 (.un .not (tt 24))]
abbrev c_laws_eqNetwork_8 : List GOp := [oo 4 (.mv (cb  false))]
abbrev c_laws_eqNetwork_9 : List GOp := [oo 4 (.mv (cb  true))]
abbrev c_laws_eqNetwork : GCode := .seq (.reg c_laws_eqNetwork_0) (.seq (.seq (.reg c_laws_eqNetwork_1) (.cond (tt 9) (.seq (.reg c_laws_eqNetwork_2) (.ret)) (.skip))) (.seq (.seq (.reg c_laws_eqNetwork_3) (.cond (tt 14) (.seq (.reg c_laws_eqNetwork_4) (.ret)) (.skip))) (.seq (.seq (.reg c_laws_eqNetwork_5) (.cond (tt 19) (.seq (.reg c_laws_eqNetwork_6) (.ret)) (.skip))) (.seq (.seq (.reg c_laws_eqNetwork_7) (.cond (tt 25) (.seq (.reg c_laws_eqNetwork_8) (.ret)) (.skip))) (.seq (.reg c_laws_eqNetwork_9) (.ret))))))
theorem c_laws_eqNetwork_d : decFn Try.prog Try.f23 = some (26, [.t 4], c_laws_eqNetwork) := by kernel_rfl
theorem c_laws_eqNetwork_i {args : List Value} {G : GH} {K : Value → GH → Prop} (hn : args.length ≤ 26) (h : gW Try.prog c_laws_eqNetwork (RetK [.t 4] K) (T0 args) G) : GC Try.prog 23 args G K := GC_intro mixed Try.func23 c_laws_eqNetwork_d hn h
/-! loop.example/g01005/laws.eqTable (2 params, 17 temporaries) : 0=a 1=b 2=a 3=b
-/
abbrev c_laws_eqTable_0 : List GOp := [oo 2 (.bx (tt 0)), oo 3 (.bx (tt 1)), oo 4 (.mv (cb  false))]
abbrev c_laws_eqTable_1 : List GOp := [oo 5 (.fa 0 (tt 2)), oo 6 (.ld (tt 5)), oo 7 (.fa 0 (tt 3)), oo 8 (.ld (tt 7)), oo 9 (.call (ff 18) [tt 6, tt 8]), oo 10 (.un .not (tt 9))]
abbrev c_laws_eqTable_2 : List GOp := [oo 4 (.mv (cb  false))]
abbrev c_laws_eqTable_3 : List GOp := [oo 11 (.fa 1 (tt 2)), oo 12 (.ld (tt 11)), oo 13 (.fa 1 (tt 3)), oo 14 (.ld (tt 13)), oo 15 (.call (ff 71) [tt 12, tt 14]), oo 16 (.un .not (tt 15))]
abbrev c_laws_eqTable_4 : List GOp := [oo 4 (.mv (cb  false))]
abbrev c_laws_eqTable_5 : List GOp := [oo 4 (.mv (cb  true))]
abbrev c_laws_eqTable : GCode := .seq (.reg c_laws_eqTable_0) (.seq (.seq (.reg c_laws_eqTable_1) (.cond (tt 10) (.seq (.reg c_laws_eqTable_2) (.ret)) (.skip))) (.seq (.seq (.reg c_laws_eqTable_3) (.cond (tt 16) (.seq (.reg c_laws_eqTable_4) (.ret)) (.skip))) (.seq (.reg c_laws_eqTable_5) (.ret))))
theorem c_laws_eqTable_d : decFn Try.prog Try.f28 = some (17, [.t 4], c_laws_eqTable) := by kernel_rfl
theorem c_laws_eqTable_i {args : List Value} {G : GH} {K : Value → GH → Prop} (hn : args.length ≤ 17) (h : gW Try.prog c_laws_eqTable (RetK [.t 4] K) (T0 args) G) : GC Try.prog 28 args G K := GC_intro mixed Try.func28 c_laws_eqTable_d hn h
/-! loop.example/g01005/laws.eqTableS (2 params, 27 temporaries) : 0=a 1=b 2=a 3=b 5=i
-/
abbrev c_laws_eqTableS_0 : List GOp := [oo 4 (.mv (cb  false))]
abbrev c_laws_eqTableS_1 : List GOp := [oo 6 (.mv (tt 0)), oo 7 (.len (tt 6)), oo 8 (.mv (tt 1)), oo 9 (.len (tt 8)), oo 10 (.bin .neq (tt 7) (tt 9))]
abbrev c_laws_eqTableS_2 : List GOp := [oo 4 (.mv (cb  false))]
abbrev c_laws_eqTableS_3 : List GOp := [oo 5 (.mv (ci 0))]
abbrev c_laws_eqTableS_4 : List GOp := [oo 11 (.mv (tt 5)), oo 12 (.mv (tt 0)), oo 13 (.len (tt 12)), oo 14 (.bin .lss (tt 11) (tt 13))]
abbrev c_laws_eqTableS_5 : List DOp := [dl 0 (oo 17 (.mv (tt 0))), dl 1 (oo 18 (.mv (tt 5))), dl 2 (oo 19 (.ia 2 (tt 17) (tt 18))), dl 3 (oo 20 (.ldn 2 (tt 19))), dl 4 (oo 21 (.mv (tt 1))), dl 5 (oo 22 (.mv (tt 5))), dl 6 (oo 23 (.ia 2 (tt 21) (tt 22))), dl 7 (oo 24 (.ldn 2 (tt 23))), dh 8 [] (oo 25 (.call (ff 28) [tt 20, tt 24])), dl 9 (oo 26 (.un .not (tt 25)))]
abbrev c_laws_eqTableS_6 : List GOp := [oo 4 (.mv (cb  false))]
abbrev c_laws_eqTableS_7 : List GOp := [oo 15 (.mv (tt 5)), oo 16 (.bin .add (tt 15) (ci 1)), oo 5 (.mv (tt 16))]
abbrev c_laws_eqTableS_l0 : GCode := .seq (.seq (.reg c_laws_eqTableS_4) (.cond (tt 14) (.skip) (.exit 0))) (.seq (.blk 1 (.seq (.dreg c_laws_eqTableS_5) (.cond (tt 26) (.seq (.reg c_laws_eqTableS_6) (.ret)) (.skip)))) (.reg c_laws_eqTableS_7))
abbrev c_laws_eqTableS_9 : List GOp := [oo 4 (.mv (cb  true))]
abbrev c_laws_eqTableS : GCode := .seq (.reg c_laws_eqTableS_0) (.seq (.seq (.reg c_laws_eqTableS_1) (.cond (tt 10) (.seq (.reg c_laws_eqTableS_2) (.ret)) (.skip))) (.seq (.seq (.reg c_laws_eqTableS_3) (.blk 0 (.loop c_laws_eqTableS_l0))) (.seq (.reg c_laws_eqTableS_9) (.ret))))
theorem c_laws_eqTableS_d : decFn Try.prog Try.f45 = some (27, [.t 4], c_laws_eqTableS) := by kernel_rfl
theorem c_laws_eqTableS_i {args : List Value} {G : GH} {K : Value → GH → Prop} (hn : args.length ≤ 27) (h : gW Try.prog c_laws_eqTableS (RetK [.t 4] K) (T0 args) G) : GC Try.prog 45 args G K := GC_intro mixed Try.func45 c_laws_eqTableS_d hn h
/-! loop.example/g01005/laws.szArcS (2 params, 12 temporaries) : 0=a 1=left 2=a 3=left
-/
abbrev c_laws_szArcS_0 : List GOp := [oo 4 (.mv (ci 0))]
abbrev c_laws_szArcS_1 : List GOp := [oo 5 (.mv (tt 1)), oo 6 (.mv (tt 0)), oo 7 (.len (tt 6)), oo 8 (.bin .sub (tt 5) (tt 7)), oo 1 (.mv (tt 8))]
abbrev c_laws_szArcS_2 : List GOp := [oo 9 (.mv (tt 1)), oo 10 (.bin .lss (tt 9) (ci 0))]
abbrev c_laws_szArcS_3 : List GOp := [oo 4 (.mv (ci (-1)))]
abbrev c_laws_szArcS_4 : List GOp := [oo 11 (.mv (tt 1)), oo 4 (.mv (tt 11))]
abbrev c_laws_szArcS : GCode := .seq (.reg c_laws_szArcS_0) (.seq (.reg c_laws_szArcS_1) (.seq (.seq (.reg c_laws_szArcS_2) (.cond (tt 10) (.seq (.reg c_laws_szArcS_3) (.ret)) (.skip))) (.seq (.reg c_laws_szArcS_4) (.ret))))
theorem c_laws_szArcS_d : decFn Try.prog Try.f61 = some (12, [.t 4], c_laws_szArcS) := by kernel_rfl
theorem c_laws_szArcS_i {args : List Value} {G : GH} {K : Value → GH → Prop} (hn : args.length ≤ 12) (h : gW Try.prog c_laws_szArcS (RetK [.t 4] K) (T0 args) G) : GC Try.prog 61 args G K := GC_intro mixed Try.func61 c_laws_szArcS_d hn h
/-! loop.example/g01005/laws.szEdgeS (2 params, 12 temporaries) : 0=a 1=left 2=a 3=left
-/
abbrev c_laws_szEdgeS_0 : List GOp := [oo 4 (.mv (ci 0))]
abbrev c_laws_szEdgeS_1 : List GOp := [oo 5 (.mv (tt 1)), oo 6 (.mv (tt 0)), oo 7 (.len (tt 6)), oo 8 (.bin .sub (tt 5) (tt 7)), oo 1 (.mv (tt 8))]
abbrev c_laws_szEdgeS_2 : List GOp := [oo 9 (.mv (tt 1)), oo 10 (.bin .lss (tt 9) (ci 0))]
abbrev c_laws_szEdgeS_3 : List GOp := [oo 4 (.mv (ci (-1)))]
abbrev c_laws_szEdgeS_4 : List GOp := [oo 11 (.mv (tt 1)), oo 4 (.mv (tt 11))]
abbrev c_laws_szEdgeS : GCode := .seq (.reg c_laws_szEdgeS_0) (.seq (.reg c_laws_szEdgeS_1) (.seq (.seq (.reg c_laws_szEdgeS_2) (.cond (tt 10) (.seq (.reg c_laws_szEdgeS_3) (.ret)) (.skip))) (.seq (.reg c_laws_szEdgeS_4) (.ret))))
theorem c_laws_szEdgeS_d : decFn Try.prog Try.f90 = some (12, [.t 4], c_laws_szEdgeS) := by kernel_rfl
theorem c_laws_szEdgeS_i {args : List Value} {G : GH} {K : Value → GH → Prop} (hn : args.length ≤ 12) (h : gW Try.prog c_laws_szEdgeS (RetK [.t 4] K) (T0 args) G) : GC Try.prog 90 args G K := GC_intro mixed Try.func90 c_laws_szEdgeS_d hn h
/-! loop.example/g01005/laws.szGraph (2 params, 12 temporaries) : 0=a 1=left 2=a 3=left
-/
abbrev c_laws_szGraph_0 : List GOp := [oo 2 (.bx (tt 0)), oo 4 (.mv (ci 0))]
abbrev c_laws_szGraph_1 : List GOp := [oo 5 (.fa 1 (tt 2)), oo 6 (.ld (tt 5)), oo 7 (.mv (tt 1)), oo 8 (.call (ff 90) [tt 6, tt 7]), oo 1 (.mv (tt 8))]
abbrev c_laws_szGraph_2 : List GOp := [oo 9 (.mv (tt 1)), oo 10 (.bin .lss (tt 9) (ci 0))]
abbrev c_laws_szGraph_3 : List GOp := [oo 4 (.mv (ci (-1)))]
abbrev c_laws_szGraph_4 : List GOp := [oo 11 (.mv (tt 1)), oo 4 (.mv (tt 11))]
abbrev c_laws_szGraph : GCode := .seq (.reg c_laws_szGraph_0) (.seq (.reg c_laws_szGraph_1) (.seq (.seq (.reg c_laws_szGraph_2) (.cond (tt 10) (.seq (.reg c_laws_szGraph_3) (.ret)) (.skip))) (.seq (.reg c_laws_szGraph_4) (.ret))))
theorem c_laws_szGraph_d : decFn Try.prog Try.f46 = some (12, [.t 4], c_laws_szGraph) := by kernel_rfl
theorem c_laws_szGraph_i {args : List Value} {G : GH} {K : Value → GH → Prop} (hn : args.length ≤ 12) (h : gW Try.prog c_laws_szGraph (RetK [.t 4] K) (T0 args) G) : GC Try.prog 46 args G K := GC_intro mixed Try.func46 c_laws_szGraph_d hn h
/-! loop.example/g01005/laws.szInt64S (2 params, 12 temporaries) : 0=a 1=left 2=a 3=left
-/
abbrev c_laws_szInt64S_0 : List GOp := [oo 4 (.mv (ci 0))]
abbrev c_laws_szInt64S_1 : List GOp := [oo 5 (.mv (tt 1)), oo 6 (.mv (tt 0)), oo 7 (.len (tt 6)), oo 8 (.bin .sub (tt 5) (tt 7)), oo 1 (.mv (tt 8))]
abbrev c_laws_szInt64S_2 : List GOp := [oo 9 (.mv (tt 1)), oo 10 (.bin .lss (tt 9) (ci 0))]
abbrev c_laws_szInt64S_3 : List GOp := [oo 4 (.mv (ci (-1)))]
abbrev c_laws_szInt64S_4 : List GOp := [oo 11 (.mv (tt 1)), oo 4 (.mv (tt 11))]
abbrev c_laws_szInt64S : GCode := .seq (.reg c_laws_szInt64S_0) (.seq (.reg c_laws_szInt64S_1) (.seq (.seq (.reg c_laws_szInt64S_2) (.cond (tt 10) (.seq (.reg c_laws_szInt64S_3) (.ret)) (.skip))) (.seq (.reg c_laws_szInt64S_4) (.ret))))
theorem c_laws_szInt64S_d : decFn Try.prog Try.f65 = some (12, [.t 4], c_laws_szInt64S) := by kernel_rfl
theorem c_laws_szInt64S_i {args : List Value} {G : GH} {K : Value → GH → Prop} (hn : args.length ≤ 12) (h : gW Try.prog c_laws_szInt64S (RetK [.t 4] K) (T0 args) G) : GC Try.prog 65 args G K := GC_intro mixed Try.func65 c_laws_szInt64S_d hn h
/-! loop.example/g01005/laws.szInt64SS (2 params, 27 temporaries) : 0=a 1=left 2=a 3=left 5=i
-/
abbrev c_laws_szInt64SS_0 : List GOp := [oo 4 (.mv (ci 0))]
abbrev c_laws_szInt64SS_1 : List GOp := [oo 6 (.mv (tt 1)), oo 7 (.mv (tt 0)), oo 8 (.len (tt 7)), oo 9 (.bin .sub (tt 6) (tt 8)), oo 1 (.mv (tt 9))]
abbrev c_laws_szInt64SS_2 : List GOp := [oo 10 (.mv (tt 1)), oo 11 (.bin .lss (tt 10) (ci 0))]
abbrev c_laws_szInt64SS_3 : List GOp := [oo 4 (.mv (ci (-1)))]
abbrev c_laws_szInt64SS_4 : List GOp := [oo 5 (.mv (ci 0))]
abbrev c_laws_szInt64SS_5 : List GOp := [oo 12 (.mv (tt 5)), oo 13 (.mv (tt 0)), oo 14 (.len (tt 13)), oo 15 (.bin .lss (tt 12) (tt 14))]
abbrev c_laws_szInt64SS_6 : List GOp := [oo 18 (.mv (tt 0)), oo 19 (.mv (tt 5)), oo 20 (.ia 1 (tt 18) (tt 19)), oo 21 (.ld (tt 20)), oo 22 (.mv (tt 1)), oo 23 (.call (ff 65) [tt 21, tt 22]), oo 1 (.mv (tt 23))]
abbrev c_laws_szInt64SS_7 : List GOp := [oo 24 (.mv (tt 1)), oo 25 (.bin .lss (tt 24) (ci 0))]
abbrev c_laws_szInt64SS_8 : List GOp := [oo 4 (.mv (ci (-1)))]
abbrev c_laws_szInt64SS_9 : List GOp := [oo 16 (.mv (tt 5)), oo 17 (.bin .add (tt 16) (ci 1)), oo 5 (.mv (tt 17))]
abbrev c_laws_szInt64SS_l0 : GCode := .seq (.seq (.reg c_laws_szInt64SS_5) (.cond (tt 15) (.skip) (.exit 0))) (.seq (.blk 1 (.seq (.reg c_laws_szInt64SS_6) (.seq (.reg c_laws_szInt64SS_7) (.cond (tt 25) (.seq (.reg c_laws_szInt64SS_8) (.ret)) (.skip))))) (.reg c_laws_szInt64SS_9))
abbrev c_laws_szInt64SS_11 : List GOp := [oo 26 (.mv (tt 1)), oo 4 (.mv (tt 26))]
abbrev c_laws_szInt64SS : GCode := .seq (.reg c_laws_szInt64SS_0) (.seq (.reg c_laws_szInt64SS_1) (.seq (.seq (.reg c_laws_szInt64SS_2) (.cond (tt 11) (.seq (.reg c_laws_szInt64SS_3) (.ret)) (.skip))) (.seq (.seq (.reg c_laws_szInt64SS_4) (.blk 0 (.loop c_laws_szInt64SS_l0))) (.seq (.reg c_laws_szInt64SS_11) (.ret)))))
theorem c_laws_szInt64SS_d : decFn Try.prog Try.f66 = some (27, [.t 4], c_laws_szInt64SS) := by kernel_rfl
theorem c_laws_szInt64SS_i {args : List Value} {G : GH} {K : Value → GH → Prop} (hn : args.length ≤ 27) (h : gW Try.prog c_laws_szInt64SS (RetK [.t 4] K) (T0 args) G) : GC Try.prog 66 args G K := GC_intro mixed Try.func66 c_laws_szInt64SS_d hn h
/-! loop.example/g01005/laws.szNetwork (2 params, 12 temporaries) : 0=a 1=left 2=a 3=left
-/
abbrev c_laws_szNetwork_0 : List GOp := [oo 2 (.bx (tt 0)), oo 4 (.mv (ci 0))]
abbrev c_laws_szNetwork_1 : List GOp := [oo 5 (.fa 3 (tt 2)), oo 6 (.ld (tt 5)), oo 7 (.mv (tt 1)), oo 8 (.call (ff 61) [tt 6, tt 7]), oo 1 (.mv (tt 8))]
abbrev c_laws_szNetwork_2 : List GOp := [oo 9 (.mv (tt 1)), oo 10 (.bin .lss (tt 9) (ci 0))]
abbrev c_laws_szNetwork_3 : List GOp := [oo 4 (.mv (ci (-1)))]
abbrev c_laws_szNetwork_4 : List GOp := [oo 11 (.mv (tt 1)), oo 4 (.mv (tt 11))]
abbrev c_laws_szNetwork : GCode := .seq (.reg c_laws_szNetwork_0) (.seq (.reg c_laws_szNetwork_1) (.seq (.seq (.reg c_laws_szNetwork_2) (.cond (tt 10) (.seq (.reg c_laws_szNetwork_3) (.ret)) (.skip))) (.seq (.reg c_laws_szNetwork_4) (.ret))))
theorem c_laws_szNetwork_d : decFn Try.prog Try.f19 = some (12, [.t 4], c_laws_szNetwork) := by kernel_rfl
theorem c_laws_szNetwork_i {args : List Value} {G : GH} {K : Value → GH → Prop} (hn : args.length ≤ 12) (h : gW Try.prog c_laws_szNetwork (RetK [.t 4] K) (T0 args) G) : GC Try.prog 19 args G K := GC_intro mixed Try.func19 c_laws_szNetwork_d hn h
/-! loop.example/g01005/laws.szTable (2 params, 18 temporaries) : 0=a 1=left 2=a 3=left
-/
abbrev c_laws_szTable_0 : List GOp := [oo 2 (.bx (tt 0)), oo 4 (.mv (ci 0))]
abbrev c_laws_szTable_1 : List GOp := [oo 5 (.fa 0 (tt 2)), oo 6 (.ld (tt 5)), oo 7 (.mv (tt 1)), oo 8 (.call (ff 65) [tt 6, tt 7]), oo 1 (.mv (tt 8))]
abbrev c_laws_szTable_2 : List GOp := [oo 9 (.mv (tt 1)), oo 10 (.bin .lss (tt 9) (ci 0))]
abbrev c_laws_szTable_3 : List GOp := [oo 4 (.mv (ci (-1)))]
abbrev c_laws_szTable_4 : List GOp := [oo 11 (.fa 1 (tt 2)), oo 12 (.ld (tt 11)), oo 13 (.mv (tt 1)), oo 14 (.call (ff 66) [tt 12, tt 13]), oo 1 (.mv (tt 14))]
abbrev c_laws_szTable_5 : List GOp := [oo 15 (.mv (tt 1)), oo 16 (.bin .lss (tt 15) (ci 0))]
abbrev c_laws_szTable_6 : List GOp := [oo 4 (.mv (ci (-1)))]
abbrev c_laws_szTable_7 : List GOp := [oo 17 (.mv (tt 1)), oo 4 (.mv (tt 17))]
abbrev c_laws_szTable : GCode := .seq (.reg c_laws_szTable_0) (.seq (.reg c_laws_szTable_1) (.seq (.seq (.reg c_laws_szTable_2) (.cond (tt 10) (.seq (.reg c_laws_szTable_3) (.ret)) (.skip))) (.seq (.reg c_laws_szTable_4) (.seq (.seq (.reg c_laws_szTable_5) (.cond (tt 16) (.seq (.reg c_laws_szTable_6) (.ret)) (.skip))) (.seq (.reg c_laws_szTable_7) (.ret))))))
theorem c_laws_szTable_d : decFn Try.prog Try.f24 = some (18, [.t 4], c_laws_szTable) := by kernel_rfl
theorem c_laws_szTable_i {args : List Value} {G : GH} {K : Value → GH → Prop} (hn : args.length ≤ 18) (h : gW Try.prog c_laws_szTable (RetK [.t 4] K) (T0 args) G) : GC Try.prog 24 args G K := GC_intro mixed Try.func24 c_laws_szTable_d hn h
/-! loop.example/g01005/laws.szTableS (2 params, 27 temporaries) : 0=a 1=left 2=a 3=left 5=i
-/
abbrev c_laws_szTableS_0 : List GOp := [oo 4 (.mv (ci 0))]
abbrev c_laws_szTableS_1 : List GOp := [oo 6 (.mv (tt 1)), oo 7 (.mv (tt 0)), oo 8 (.len (tt 7)), oo 9 (.bin .sub (tt 6) (tt 8)), oo 1 (.mv (tt 9))]
abbrev c_laws_szTableS_2 : List GOp := [oo 10 (.mv (tt 1)), oo 11 (.bin .lss (tt 10) (ci 0))]
abbrev c_laws_szTableS_3 : List GOp := [oo 4 (.mv (ci (-1)))]
abbrev c_laws_szTableS_4 : List GOp := [oo 5 (.mv (ci 0))]
abbrev c_laws_szTableS_5 : List GOp := [oo 12 (.mv (tt 5)), oo 13 (.mv (tt 0)), oo 14 (.len (tt 13)), oo 15 (.bin .lss (tt 12) (tt 14))]
abbrev c_laws_szTableS_6 : List GOp := [oo 18 (.mv (tt 0)), oo 19 (.mv (tt 5)), oo 20 (.ia 2 (tt 18) (tt 19)), oo 21 (.ldn 2 (tt 20)), oo 22 (.mv (tt 1)), oo 23 (.call (ff 24) [tt 21, tt 22]), oo 1 (.mv (tt 23))]
abbrev c_laws_szTableS_7 : List GOp := [oo 24 (.mv (tt 1)), oo 25 (.bin .lss (tt 24) (ci 0))]
abbrev c_laws_szTableS_8 : List GOp := [oo 4 (.mv (ci (-1)))]
abbrev c_laws_szTableS_9 : List GOp := [oo 16 (.mv (tt 5)), oo 17 (.bin .add (tt 16) (ci 1)), oo 5 (.mv (tt 17))]
abbrev c_laws_szTableS_l0 : GCode := .seq (.seq (.reg c_laws_szTableS_5) (.cond (tt 15) (.skip) (.exit 0))) (.seq (.blk 1 (.seq (.reg c_laws_szTableS_6) (.seq (.reg c_laws_szTableS_7) (.cond (tt 25) (.seq (.reg c_laws_szTableS_8) (.ret)) (.skip))))) (.reg c_laws_szTableS_9))
abbrev c_laws_szTableS_11 : List GOp := [oo 26 (.mv (tt 1)), oo 4 (.mv (tt 26))]
abbrev c_laws_szTableS : GCode := .seq (.reg c_laws_szTableS_0) (.seq (.reg c_laws_szTableS_1) (.seq (.seq (.reg c_laws_szTableS_2) (.cond (tt 11) (.seq (.reg c_laws_szTableS_3) (.ret)) (.skip))) (.seq (.seq (.reg c_laws_szTableS_4) (.blk 0 (.loop c_laws_szTableS_l0))) (.seq (.reg c_laws_szTableS_11) (.ret)))))
theorem c_laws_szTableS_d : decFn Try.prog Try.f41 = some (27, [.t 4], c_laws_szTableS) := by kernel_rfl
theorem c_laws_szTableS_i {args : List Value} {G : GH} {K : Value → GH → Prop} (hn : args.length ≤ 27) (h : gW Try.prog c_laws_szTableS (RetK [.t 4] K) (T0 args) G) : GC Try.prog 41 args G K := GC_intro mixed Try.func41 c_laws_szTableS_d hn h
/-! loop.example/g01005/laws.toArc (1 params, 14 temporaries) : 0=a 1=a 3=out
-/
abbrev c_laws_toArc_0 : List GOp := [oo 1 (.bx (tt 0)), oo 2 (.al [.int .i64 0, .int .i64 0, .int .i64 0])]
abbrev c_laws_toArc_1 : List GOp := [oo 3 (.al [.int .i64 0, .int .i64 0, .int .i64 0])]
abbrev c_laws_toArc_2 : List GOp := [oo 4 (.fa 0 (tt 1)), oo 5 (.ld (tt 4)), oo 6 (.fa 0 (tt 3)), on (.st 1 (tt 6) (tt 5))]
abbrev c_laws_toArc_3 : List GOp := [oo 7 (.fa 1 (tt 1)), oo 8 (.ld (tt 7)), oo 9 (.fa 1 (tt 3)), on (.st 1 (tt 9) (tt 8))]
abbrev c_laws_toArc_4 : List GOp := [oo 10 (.fa 2 (tt 1)), oo 11 (.ld (tt 10)), oo 12 (.fa 2 (tt 3)), on (.st 1 (tt 12) (tt 11))]
abbrev c_laws_toArc_5 : List GOp := [oo 13 (.ldn 3 (tt 3)), on (.st 3 (tt 2) (tt 13))]
abbrev c_laws_toArc : GCode := .seq (.reg c_laws_toArc_0) (.seq (.reg c_laws_toArc_1) (.seq (.reg c_laws_toArc_2) (.seq (.reg c_laws_toArc_3) (.seq (.reg c_laws_toArc_4) (.seq (.reg c_laws_toArc_5) (.ret))))))
theorem c_laws_toArc_d : decFn Try.prog Try.f100 = some (14, [.cn 2 3], c_laws_toArc) := by kernel_rfl
theorem c_laws_toArc_i {args : List Value} {G : GH} {K : Value → GH → Prop} (hn : args.length ≤ 14) (h : gW Try.prog c_laws_toArc (RetK [.cn 2 3] K) (T0 args) G) : GC Try.prog 100 args G K := GC_intro mixed Try.func100 c_laws_toArc_d hn h
/-! loop.example/g01005/laws.toArcS (1 params, 23 temporaries) : 0=a 1=a 3=out 4=i
-/
abbrev c_laws_toArcS_0 : List GOp := [oo 2 (.mv (.const (.slice none 0 0)))]
abbrev c_laws_toArcS_1 : List GOp := [oo 5 (.mv (tt 0)), oo 6 (.len (tt 5)), oo 7 (.mk 3 24 [.int .i64 0, .int .i64 0, .int .i64 0] (tt 6) (tt 6)), oo 3 (.mv (tt 7))]
abbrev c_laws_toArcS_2 : List GOp := [oo 4 (.mv (ci 0))]
abbrev c_laws_toArcS_3 : List GOp := [oo 8 (.mv (tt 4)), oo 9 (.mv (tt 0)), oo 10 (.len (tt 9)), oo 11 (.bin .lss (tt 8) (tt 10))]
abbrev c_laws_toArcS_4 : List GOp := [oo 14 (.mv (tt 3)), oo 15 (.mv (tt 4)), oo 16 (.mv (tt 0)), oo 17 (.mv (tt 4)), oo 18 (.ia 3 (tt 16) (tt 17)), oo 19 (.ldn 3 (tt 18)), oo 20 (.call (ff 100) [tt 19]), oo 21 (.ia 3 (tt 14) (tt 15)), on (.st 3 (tt 21) (tt 20))]
abbrev c_laws_toArcS_5 : List GOp := [oo 12 (.mv (tt 4)), oo 13 (.bin .add (tt 12) (ci 1)), oo 4 (.mv (tt 13))]
abbrev c_laws_toArcS_l0 : GCode := .seq (.seq (.reg c_laws_toArcS_3) (.cond (tt 11) (.skip) (.exit 0))) (.seq (.blk 1 (.reg c_laws_toArcS_4)) (.reg c_laws_toArcS_5))
abbrev c_laws_toArcS_7 : List GOp := [oo 22 (.mv (tt 3)), oo 2 (.mv (tt 22))]
abbrev c_laws_toArcS : GCode := .seq (.reg c_laws_toArcS_0) (.seq (.reg c_laws_toArcS_1) (.seq (.seq (.reg c_laws_toArcS_2) (.blk 0 (.loop c_laws_toArcS_l0))) (.seq (.reg c_laws_toArcS_7) (.ret))))
theorem c_laws_toArcS_d : decFn Try.prog Try.f62 = some (23, [.t 2], c_laws_toArcS) := by kernel_rfl
theorem c_laws_toArcS_i {args : List Value} {G : GH} {K : Value → GH → Prop} (hn : args.length ≤ 23) (h : gW Try.prog c_laws_toArcS (RetK [.t 2] K) (T0 args) G) : GC Try.prog 62 args G K := GC_intro mixed Try.func62 c_laws_toArcS_d hn h
/-! loop.example/g01005/laws.toEdge (1 params, 14 temporaries) : 0=a 1=a 3=out
-/
abbrev c_laws_toEdge_0 : List GOp := [oo 1 (.bx (tt 0)), oo 2 (.al [.int .i64 0, .int .i64 0, .int .i64 0])]
abbrev c_laws_toEdge_1 : List GOp := [oo 3 (.al [.int .i64 0, .int .i64 0, .int .i64 0])]
abbrev c_laws_toEdge_2 : List GOp := [oo 4 (.fa 0 (tt 1)), oo 5 (.ld (tt 4)), oo 6 (.fa 0 (tt 3)), on (.st 1 (tt 6) (tt 5))]
abbrev c_laws_toEdge_3 : List GOp := [oo 7 (.fa 1 (tt 1)), oo 8 (.ld (tt 7)), oo 9 (.fa 1 (tt 3)), on (.st 1 (tt 9) (tt 8))]
abbrev c_laws_toEdge_4 : List GOp := [oo 10 (.fa 2 (tt 1)), oo 11 (.ld (tt 10)), oo 12 (.fa 2 (tt 3)), on (.st 1 (tt 12) (tt 11))]
abbrev c_laws_toEdge_5 : List GOp := [oo 13 (.ldn 3 (tt 3)), on (.st 3 (tt 2) (tt 13))]
abbrev c_laws_toEdge : GCode := .seq (.reg c_laws_toEdge_0) (.seq (.reg c_laws_toEdge_1) (.seq (.reg c_laws_toEdge_2) (.seq (.reg c_laws_toEdge_3) (.seq (.reg c_laws_toEdge_4) (.seq (.reg c_laws_toEdge_5) (.ret))))))
theorem c_laws_toEdge_d : decFn Try.prog Try.f114 = some (14, [.cn 2 3], c_laws_toEdge) := by kernel_rfl
theorem c_laws_toEdge_i {args : List Value} {G : GH} {K : Value → GH → Prop} (hn : args.length ≤ 14) (h : gW Try.prog c_laws_toEdge (RetK [.cn 2 3] K) (T0 args) G) : GC Try.prog 114 args G K := GC_intro mixed Try.func114 c_laws_toEdge_d hn h
/-! loop.example/g01005/laws.toEdgeS (1 params, 23 temporaries) : 0=a 1=a 3=out 4=i
-/
abbrev c_laws_toEdgeS_0 : List GOp := [oo 2 (.mv (.const (.slice none 0 0)))]
abbrev c_laws_toEdgeS_1 : List GOp := [oo 5 (.mv (tt 0)), oo 6 (.len (tt 5)), oo 7 (.mk 3 24 [.int .i64 0, .int .i64 0, .int .i64 0] (tt 6) (tt 6)), oo 3 (.mv (tt 7))]
abbrev c_laws_toEdgeS_2 : List GOp := [oo 4 (.mv (ci 0))]
abbrev c_laws_toEdgeS_3 : List GOp := [oo 8 (.mv (tt 4)), oo 9 (.mv (tt 0)), oo 10 (.len (tt 9)), oo 11 (.bin .lss (tt 8) (tt 10))]
abbrev c_laws_toEdgeS_4 : List GOp := [oo 14 (.mv (tt 3)), oo 15 (.mv (tt 4)), oo 16 (.mv (tt 0)), oo 17 (.mv (tt 4)), oo 18 (.ia 3 (tt 16) (tt 17)), oo 19 (.ldn 3 (tt 18)), oo 20 (.call (ff 114) [tt 19]), oo 21 (.ia 3 (tt 14) (tt 15)), on (.st 3 (tt 21) (tt 20))]
abbrev c_laws_toEdgeS_5 : List GOp := [oo 12 (.mv (tt 4)), oo 13 (.bin .add (tt 12) (ci 1)), oo 4 (.mv (tt 13))]
abbrev c_laws_toEdgeS_l0 : GCode := .seq (.seq (.reg c_laws_toEdgeS_3) (.cond (tt 11) (.skip) (.exit 0))) (.seq (.blk 1 (.reg c_laws_toEdgeS_4)) (.reg c_laws_toEdgeS_5))
abbrev c_laws_toEdgeS_7 : List GOp := [oo 22 (.mv (tt 3)), oo 2 (.mv (tt 22))]
abbrev c_laws_toEdgeS : GCode := .seq (.reg c_laws_toEdgeS_0) (.seq (.reg c_laws_toEdgeS_1) (.seq (.seq (.reg c_laws_toEdgeS_2) (.blk 0 (.loop c_laws_toEdgeS_l0))) (.seq (.reg c_laws_toEdgeS_7) (.ret))))
theorem c_laws_toEdgeS_d : decFn Try.prog Try.f93 = some (23, [.t 2], c_laws_toEdgeS) := by kernel_rfl
theorem c_laws_toEdgeS_i {args : List Value} {G : GH} {K : Value → GH → Prop} (hn : args.length ≤ 23) (h : gW Try.prog c_laws_toEdgeS (RetK [.t 2] K) (T0 args) G) : GC Try.prog 93 args G K := GC_intro mixed Try.func93 c_laws_toEdgeS_d hn h
/-! loop.example/g01005/laws.toGraph (1 params, 12 temporaries) : 0=a 1=a 3=out
-/
abbrev c_laws_toGraph_0 : List GOp := [oo 1 (.bx (tt 0)), oo 2 (.al [.int .i64 0, .slice none 0 0])]
abbrev c_laws_toGraph_1 : List GOp := [oo 3 (.al [.int .i64 0, .slice none 0 0])]
abbrev c_laws_toGraph_2 : List GOp := [oo 4 (.fa 0 (tt 1)), oo 5 (.ld (tt 4)), oo 6 (.fa 0 (tt 3)), on (.st 1 (tt 6) (tt 5))]
abbrev c_laws_toGraph_3 : List GOp := [oo 7 (.fa 1 (tt 1)), oo 8 (.ld (tt 7)), oo 9 (.call (ff 93) [tt 8]), oo 10 (.fa 1 (tt 3)), on (.st 1 (tt 10) (tt 9))]
abbrev c_laws_toGraph_4 : List GOp := [oo 11 (.ldn 2 (tt 3)), on (.st 2 (tt 2) (tt 11))]
abbrev c_laws_toGraph : GCode := .seq (.reg c_laws_toGraph_0) (.seq (.reg c_laws_toGraph_1) (.seq (.reg c_laws_toGraph_2) (.seq (.reg c_laws_toGraph_3) (.seq (.reg c_laws_toGraph_4) (.ret)))))
theorem c_laws_toGraph_d : decFn Try.prog Try.f48 = some (12, [.cn 2 2], c_laws_toGraph) := by kernel_rfl
theorem c_laws_toGraph_i {args : List Value} {G : GH} {K : Value → GH → Prop} (hn : args.length ≤ 12) (h : gW Try.prog c_laws_toGraph (RetK [.cn 2 2] K) (T0 args) G) : GC Try.prog 48 args G K := GC_intro mixed Try.func48 c_laws_toGraph_d hn h
/-! loop.example/g01005/laws.toInt64S (1 params, 22 temporaries) : 0=a 1=a 3=out 4=i
-/
abbrev c_laws_toInt64S_0 : List GOp := [oo 2 (.mv (.const (.slice none 0 0)))]
abbrev c_laws_toInt64S_1 : List GOp := [oo 5 (.mv (tt 0)), oo 6 (.len (tt 5)), oo 7 (.mk 1 8 [.int .i64 0] (tt 6) (tt 6)), oo 3 (.mv (tt 7))]
abbrev c_laws_toInt64S_2 : List GOp := [oo 4 (.mv (ci 0))]
abbrev c_laws_toInt64S_3 : List GOp := [oo 8 (.mv (tt 4)), oo 9 (.mv (tt 0)), oo 10 (.len (tt 9)), oo 11 (.bin .lss (tt 8) (tt 10))]
abbrev c_laws_toInt64S_4 : List GOp := [oo 14 (.mv (tt 3)), oo 15 (.mv (tt 4)), oo 16 (.mv (tt 0)), oo 17 (.mv (tt 4)), oo 18 (.ia 1 (tt 16) (tt 17)), oo 19 (.ld (tt 18)), oo 20 (.ia 1 (tt 14) (tt 15)), on (.st 1 (tt 20) (tt 19))]
abbrev c_laws_toInt64S_5 : List GOp := [oo 12 (.mv (tt 4)), oo 13 (.bin .add (tt 12) (ci 1)), oo 4 (.mv (tt 13))]
abbrev c_laws_toInt64S_l0 : GCode := .seq (.seq (.reg c_laws_toInt64S_3) (.cond (tt 11) (.skip) (.exit 0))) (.seq (.blk 1 (.reg c_laws_toInt64S_4)) (.reg c_laws_toInt64S_5))
abbrev c_laws_toInt64S_7 : List GOp := [oo 21 (.mv (tt 3)), oo 2 (.mv (tt 21))]
abbrev c_laws_toInt64S : GCode := .seq (.reg c_laws_toInt64S_0) (.seq (.reg c_laws_toInt64S_1) (.seq (.seq (.reg c_laws_toInt64S_2) (.blk 0 (.loop c_laws_toInt64S_l0))) (.seq (.reg c_laws_toInt64S_7) (.ret))))
theorem c_laws_toInt64S_d : decFn Try.prog Try.f16 = some (22, [.t 2], c_laws_toInt64S) := by kernel_rfl
theorem c_laws_toInt64S_i {args : List Value} {G : GH} {K : Value → GH → Prop} (hn : args.length ≤ 22) (h : gW Try.prog c_laws_toInt64S (RetK [.t 2] K) (T0 args) G) : GC Try.prog 16 args G K := GC_intro mixed Try.func16 c_laws_toInt64S_d hn h
/-! loop.example/g01005/laws.toInt64SS (1 params, 23 temporaries) : 0=a 1=a 3=out 4=i
-/
abbrev c_laws_toInt64SS_0 : List GOp := [oo 2 (.mv (.const (.slice none 0 0)))]
abbrev c_laws_toInt64SS_1 : List GOp := [oo 5 (.mv (tt 0)), oo 6 (.len (tt 5)), oo 7 (.mk 1 24 [.slice none 0 0] (tt 6) (tt 6)), oo 3 (.mv (tt 7))]
abbrev c_laws_toInt64SS_2 : List GOp := [oo 4 (.mv (ci 0))]
abbrev c_laws_toInt64SS_3 : List GOp := [oo 8 (.mv (tt 4)), oo 9 (.mv (tt 0)), oo 10 (.len (tt 9)), oo 11 (.bin .lss (tt 8) (tt 10))]
abbrev c_laws_toInt64SS_4 : List GOp := [oo 14 (.mv (tt 3)), oo 15 (.mv (tt 4)), oo 16 (.mv (tt 0)), oo 17 (.mv (tt 4)), oo 18 (.ia 1 (tt 16) (tt 17)), oo 19 (.ld (tt 18)), oo 20 (.call (ff 16) [tt 19]), oo 21 (.ia 1 (tt 14) (tt 15)), on (.st 1 (tt 21) (tt 20))]
abbrev c_laws_toInt64SS_5 : List GOp := [oo 12 (.mv (tt 4)), oo 13 (.bin .add (tt 12) (ci 1)), oo 4 (.mv (tt 13))]
abbrev c_laws_toInt64SS_l0 : GCode := .seq (.seq (.reg c_laws_toInt64SS_3) (.cond (tt 11) (.skip) (.exit 0))) (.seq (.blk 1 (.reg c_laws_toInt64SS_4)) (.reg c_laws_toInt64SS_5))
abbrev c_laws_toInt64SS_7 : List GOp := [oo 22 (.mv (tt 3)), oo 2 (.mv (tt 22))]
abbrev c_laws_toInt64SS : GCode := .seq (.reg c_laws_toInt64SS_0) (.seq (.reg c_laws_toInt64SS_1) (.seq (.seq (.reg c_laws_toInt64SS_2) (.blk 0 (.loop c_laws_toInt64SS_l0))) (.seq (.reg c_laws_toInt64SS_7) (.ret))))
theorem c_laws_toInt64SS_d : decFn Try.prog Try.f68 = some (23, [.t 2], c_laws_toInt64SS) := by kernel_rfl
theorem c_laws_toInt64SS_i {args : List Value} {G : GH} {K : Value → GH → Prop} (hn : args.length ≤ 23) (h : gW Try.prog c_laws_toInt64SS (RetK [.t 2] K) (T0 args) G) : GC Try.prog 68 args G K := GC_intro mixed Try.func68 c_laws_toInt64SS_d hn h
/-! loop.example/g01005/laws.toNetwork (1 params, 18 temporaries) : 0=a 1=a 3=out
-/
abbrev c_laws_toNetwork_0 : List GOp := [oo 1 (.bx (tt 0)), oo 2 (.al [.int .i64 0, .int .i64 0, .int .i64 0, .slice none 0 0])]
abbrev c_laws_toNetwork_1 : List GOp := [oo 3 (.al [.int .i64 0, .int .i64 0, .int .i64 0, .slice none 0 0])]
abbrev c_laws_toNetwork_2 : List GOp := [oo 4 (.fa 0 (tt 1)), oo 5 (.ld (tt 4)), oo 6 (.fa 0 (tt 3)), on (.st 1 (tt 6) (tt 5))]
abbrev c_laws_toNetwork_3 : List GOp := [oo 7 (.fa 1 (tt 1)), oo 8 (.ld (tt 7)), oo 9 (.fa 1 (tt 3)), on (.st 1 (tt 9) (tt 8))]
abbrev c_laws_toNetwork_4 : List GOp := [oo 10 (.fa 2 (tt 1)), oo 11 (.ld (tt 10)), oo 12 (.fa 2 (tt 3)), on (.st 1 (tt 12) (tt 11))]
abbrev c_laws_toNetwork_5 : List GOp := [oo 13 (.fa 3 (tt 1)), oo 14 (.ld (tt 13)), oo 15 (.call (ff 62) [tt 14]), oo 16 (.fa 3 (tt 3)), on (.st 1 (tt 16) (tt 15))]
abbrev c_laws_toNetwork_6 : List GOp := [oo 17 (.ldn 4 (tt 3)), on (.st 4 (tt 2) (tt 17))]
abbrev c_laws_toNetwork : GCode := .seq (.reg c_laws_toNetwork_0) (.seq (.reg c_laws_toNetwork_1) (.seq (.reg c_laws_toNetwork_2) (.seq (.reg c_laws_toNetwork_3) (.seq (.reg c_laws_toNetwork_4) (.seq (.reg c_laws_toNetwork_5) (.seq (.reg c_laws_toNetwork_6) (.ret)))))))
theorem c_laws_toNetwork_d : decFn Try.prog Try.f21 = some (18, [.cn 2 4], c_laws_toNetwork) := by kernel_rfl
theorem c_laws_toNetwork_i {args : List Value} {G : GH} {K : Value → GH → Prop} (hn : args.length ≤ 18) (h : gW Try.prog c_laws_toNetwork (RetK [.cn 2 4] K) (T0 args) G) : GC Try.prog 21 args G K := GC_intro mixed Try.func21 c_laws_toNetwork_d hn h
/-! loop.example/g01005/laws.toTable (1 params, 13 temporaries) : 0=a 1=a 3=out
-/
abbrev c_laws_toTable_0 : List GOp := [oo 1 (.bx (tt 0)), oo 2 (.al [.slice none 0 0, .slice none 0 0])]
abbrev c_laws_toTable_1 : List GOp := [oo 3 (.al [.slice none 0 0, .slice none 0 0])]
abbrev c_laws_toTable_2 : List GOp := [oo 4 (.fa 0 (tt 1)), oo 5 (.ld (tt 4)), oo 6 (.call (ff 16) [tt 5]), oo 7 (.fa 0 (tt 3)), on (.st 1 (tt 7) (tt 6))]
abbrev c_laws_toTable_3 : List GOp := [oo 8 (.fa 1 (tt 1)), oo 9 (.ld (tt 8)), oo 10 (.call (ff 68) [tt 9]), oo 11 (.fa 1 (tt 3)), on (.st 1 (tt 11) (tt 10))]
abbrev c_laws_toTable_4 : List GOp := [oo 12 (.ldn 2 (tt 3)), on (.st 2 (tt 2) (tt 12))]
abbrev c_laws_toTable : GCode := .seq (.reg c_laws_toTable_0) (.seq (.reg c_laws_toTable_1) (.seq (.reg c_laws_toTable_2) (.seq (.reg c_laws_toTable_3) (.seq (.reg c_laws_toTable_4) (.ret)))))
theorem c_laws_toTable_d : decFn Try.prog Try.f26 = some (13, [.cn 2 2], c_laws_toTable) := by kernel_rfl
theorem c_laws_toTable_i {args : List Value} {G : GH} {K : Value → GH → Prop} (hn : args.length ≤ 13) (h : gW Try.prog c_laws_toTable (RetK [.cn 2 2] K) (T0 args) G) : GC Try.prog 26 args G K := GC_intro mixed Try.func26 c_laws_toTable_d hn h
/-! loop.example/g01005/laws.toTableS (1 params, 23 temporaries) : 0=a 1=a 3=out 4=i
-/
abbrev c_laws_toTableS_0 : List GOp := [oo 2 (.mv (.const (.slice none 0 0)))]
abbrev c_laws_toTableS_1 : List GOp := [oo 5 (.mv (tt 0)), oo 6 (.len (tt 5)), oo 7 (.mk 2 48 [.slice none 0 0, .slice none 0 0] (tt 6) (tt 6)), oo 3 (.mv (tt 7))]
abbrev c_laws_toTableS_2 : List GOp := [oo 4 (.mv (ci 0))]
abbrev c_laws_toTableS_3 : List GOp := [oo 8 (.mv (tt 4)), oo 9 (.mv (tt 0)), oo 10 (.len (tt 9)), oo 11 (.bin .lss (tt 8) (tt 10))]
abbrev c_laws_toTableS_4 : List GOp := [oo 14 (.mv (tt 3)), oo 15 (.mv (tt 4)), oo 16 (.mv (tt 0)), oo 17 (.mv (tt 4)), oo 18 (.ia 2 (tt 16) (tt 17)), oo 19 (.ldn 2 (tt 18)), oo 20 (.call (ff 26) [tt 19]), oo 21 (.ia 2 (tt 14) (tt 15)), on (.st 2 (tt 21) (tt 20))]
abbrev c_laws_toTableS_5 : List GOp := [oo 12 (.mv (tt 4)), oo 13 (.bin .add (tt 12) (ci 1)), oo 4 (.mv (tt 13))]
abbrev c_laws_toTableS_l0 : GCode := .seq (.seq (.reg c_laws_toTableS_3) (.cond (tt 11) (.skip) (.exit 0))) (.seq (.blk 1 (.reg c_laws_toTableS_4)) (.reg c_laws_toTableS_5))
abbrev c_laws_toTableS_7 : List GOp := [oo 22 (.mv (tt 3)), oo 2 (.mv (tt 22))]
abbrev c_laws_toTableS : GCode := .seq (.reg c_laws_toTableS_0) (.seq (.reg c_laws_toTableS_1) (.seq (.seq (.reg c_laws_toTableS_2) (.blk 0 (.loop c_laws_toTableS_l0))) (.seq (.reg c_laws_toTableS_7) (.ret))))
theorem c_laws_toTableS_d : decFn Try.prog Try.f43 = some (23, [.t 2], c_laws_toTableS) := by kernel_rfl
theorem c_laws_toTableS_i {args : List Value} {G : GH} {K : Value → GH → Prop} (hn : args.length ≤ 23) (h : gW Try.prog c_laws_toTableS (RetK [.t 2] K) (T0 args) G) : GC Try.prog 43 args G K := GC_intro mixed Try.func43 c_laws_toTableS_d hn h
/-! slices.Compare[[]int64,int64] (2 params, 36 temporaries) : 0=s1 1=s2 2=s1 3=s2 5=i 6=v1 7=v2 8=c
-/
abbrev c_slices_Compare_int64_int64_0 : List GOp := [oo 4 (.mv (ci 0))]
abbrev c_slices_Compare_int64_int64_1 : List GOp := [oo 9 (.mv (tt 0)), oo 10 (.len (tt 9)), oo 11 (.mv (ci 0))]
abbrev c_slices_Compare_int64_int64_2 : List GOp := [oo 12 (.bin .lss (tt 11) (tt 10))]
abbrev c_slices_Compare_int64_int64_3 : List GOp := [oo 13 (.mv (tt 11)), oo 14 (.ia 1 (tt 9) (tt 11)), oo 15 (.ld (tt 14)), oo 5 (.mv (tt 13)), oo 6 (.mv (tt 15))]
abbrev c_slices_Compare_int64_int64_4 : List GOp := [oo 16 (.mv (tt 5)), oo 17 (.mv (tt 1)), oo 18 (.len (tt 17)), oo 19 (.bin .geq (tt 16) (tt 18))]
abbrev c_slices_Compare_int64_int64_5 : List GOp := [oo 4 (.mv (ci 1))]
abbrev c_slices_Compare_int64_int64_6 : List GOp := [oo 20 (.mv (tt 1)), oo 21 (.mv (tt 5)), oo 22 (.ia 1 (tt 20) (tt 21)), oo 23 (.ld (tt 22)), oo 7 (.mv (tt 23))]
abbrev c_slices_Compare_int64_int64_7 : List GOp := [oo 24 (.mv (tt 6)), oo 25 (.mv (tt 7)), oo 26 (.call (ff 75) [tt 24, tt 25]), oo 8 (.mv (tt 26))]
abbrev c_slices_Compare_int64_int64_8 : List GOp := [oo 27 (.mv (tt 8)), oo 28 (.bin .neq (tt 27) (ci 0))]
abbrev c_slices_Compare_int64_int64_9 : List GOp := [oo 29 (.mv (tt 8)), oo 4 (.mv (tt 29))]
abbrev c_slices_Compare_int64_int64_10 : List GOp := [oo 30 (.bin .add (tt 11) (ci 1)), oo 11 (.mv (tt 30))]
abbrev c_slices_Compare_int64_int64_l0 : GCode := .seq (.reg c_slices_Compare_int64_int64_2) (.seq (.cond (tt 12) (.skip) (.exit 0)) (.seq (.blk 1 (.seq (.reg c_slices_Compare_int64_int64_3) (.seq (.seq (.reg c_slices_Compare_int64_int64_4) (.cond (tt 19) (.seq (.reg c_slices_Compare_int64_int64_5) (.ret)) (.skip))) (.seq (.reg c_slices_Compare_int64_int64_6) (.seq (.reg c_slices_Compare_int64_int64_7) (.seq (.reg c_slices_Compare_int64_int64_8) (.cond (tt 28) (.seq (.reg c_slices_Compare_int64_int64_9) (.ret)) (.skip)))))))) (.reg c_slices_Compare_int64_int64_10)))
abbrev c_slices_Compare_int64_int64_12 : List GOp := [oo 31 (.mv (tt 0)), oo 32 (.len (tt 31)), oo 33 (.mv (tt 1)), oo 34 (.len (tt 33)), oo 35 (.bin .lss (tt 32) (tt 34))]
abbrev c_slices_Compare_int64_int64_13 : List GOp := [oo 4 (.mv (ci (-1)))]
abbrev c_slices_Compare_int64_int64_14 : List GOp := [oo 4 (.mv (ci 0))]
abbrev c_slices_Compare_int64_int64 : GCode := .seq (.reg c_slices_Compare_int64_int64_0) (.seq (.seq (.reg c_slices_Compare_int64_int64_1) (.blk 0 (.loop c_slices_Compare_int64_int64_l0))) (.seq (.seq (.reg c_slices_Compare_int64_int64_12) (.cond (tt 35) (.seq (.reg c_slices_Compare_int64_int64_13) (.ret)) (.skip))) (.seq (.reg c_slices_Compare_int64_int64_14) (.ret))))
theorem c_slices_Compare_int64_int64_d : decFn Try.prog Try.f80 = some (36, [.t 4], c_slices_Compare_int64_int64) := by kernel_rfl
theorem c_slices_Compare_int64_int64_i {args : List Value} {G : GH} {K : Value → GH → Prop} (hn : args.length ≤ 36) (h : gW Try.prog c_slices_Compare_int64_int64 (RetK [.t 4] K) (T0 args) G) : GC Try.prog 80 args G K := GC_intro mixed Try.func80 c_slices_Compare_int64_int64_d hn h
/-! slices.ContainsFunc[[]loop.example/g01005/impl.Table,loop.example/g01005/impl.Table] (2 params, 9 temporaries) : 0=s 1=f 2=s 3=f
-/
abbrev c_slices_ContainsFunc_impl_Table_impl_Table_0 : List GOp := [oo 4 (.mv (cb  false))]
abbrev c_slices_ContainsFunc_impl_Table_impl_Table_1 : List GOp := [oo 5 (.mv (tt 0)), oo 6 (.mv (tt 1)), oo 7 (.call (ff 111) [tt 5, tt 6]), oo 8 (.bin .geq (tt 7) (ci 0)), oo 4 (.mv (tt 8))]
abbrev c_slices_ContainsFunc_impl_Table_impl_Table : GCode := .seq (.reg c_slices_ContainsFunc_impl_Table_impl_Table_0) (.seq (.reg c_slices_ContainsFunc_impl_Table_impl_Table_1) (.ret))
theorem c_slices_ContainsFunc_impl_Table_impl_Table_d : decFn Try.prog Try.f88 = some (9, [.t 4], c_slices_ContainsFunc_impl_Table_impl_Table) := by kernel_rfl
theorem c_slices_ContainsFunc_impl_Table_impl_Table_i {args : List Value} {G : GH} {K : Value → GH → Prop} (hn : args.length ≤ 9) (h : gW Try.prog c_slices_ContainsFunc_impl_Table_impl_Table (RetK [.t 4] K) (T0 args) G) : GC Try.prog 88 args G K := GC_intro mixed Try.func88 c_slices_ContainsFunc_impl_Table_impl_Table_d hn h
/-! slices.ContainsFunc[[]int64,int64] (2 params, 9 temporaries) : 0=s 1=f 2=s 3=f
-/
abbrev c_slices_ContainsFunc_int64_int64_0 : List GOp := [oo 4 (.mv (cb  false))]
abbrev c_slices_ContainsFunc_int64_int64_1 : List GOp := [oo 5 (.mv (tt 0)), oo 6 (.mv (tt 1)), oo 7 (.call (ff 99) [tt 5, tt 6]), oo 8 (.bin .geq (tt 7) (ci 0)), oo 4 (.mv (tt 8))]
abbrev c_slices_ContainsFunc_int64_int64 : GCode := .seq (.reg c_slices_ContainsFunc_int64_int64_0) (.seq (.reg c_slices_ContainsFunc_int64_int64_1) (.ret))
theorem c_slices_ContainsFunc_int64_int64_d : decFn Try.prog Try.f56 = some (9, [.t 4], c_slices_ContainsFunc_int64_int64) := by kernel_rfl
theorem c_slices_ContainsFunc_int64_int64_i {args : List Value} {G : GH} {K : Value → GH → Prop} (hn : args.length ≤ 9) (h : gW Try.prog c_slices_ContainsFunc_int64_int64 (RetK [.t 4] K) (T0 args) G) : GC Try.prog 56 args G K := GC_intro mixed Try.func56 c_slices_ContainsFunc_int64_int64_d hn h
/-! slices.Contains[[]int64,int64] (2 params, 9 temporaries) : 0=s 1=v 2=s 3=v
-/
abbrev c_slices_Contains_int64_int64_0 : List GOp := [oo 4 (.mv (cb  false))]
abbrev c_slices_Contains_int64_int64_1 : List GOp := [oo 5 (.mv (tt 0)), oo 6 (.mv (tt 1)), oo 7 (.call (ff 119) [tt 5, tt 6]), oo 8 (.bin .geq (tt 7) (ci 0)), oo 4 (.mv (tt 8))]
abbrev c_slices_Contains_int64_int64 : GCode := .seq (.reg c_slices_Contains_int64_int64_0) (.seq (.reg c_slices_Contains_int64_int64_1) (.ret))
theorem c_slices_Contains_int64_int64_d : decFn Try.prog Try.f110 = some (9, [.t 4], c_slices_Contains_int64_int64) := by kernel_rfl
theorem c_slices_Contains_int64_int64_i {args : List Value} {G : GH} {K : Value → GH → Prop} (hn : args.length ≤ 9) (h : gW Try.prog c_slices_Contains_int64_int64 (RetK [.t 4] K) (T0 args) G) : GC Try.prog 110 args G K := GC_intro mixed Try.func110 c_slices_Contains_int64_int64_d hn h
/-! slices.EqualFunc[[][]int64,[][]int64,[]int64,[]int64] (3 params, 32 temporaries) : 0=s1 1=s2 2=eq 3=s1 4=s2 5=eq 7=i 8=v1 9=v2
-/
abbrev c_slices_EqualFunc_int64_int64_int64_int64_0 : List GOp := [oo 6 (.mv (cb  false))]
abbrev c_slices_EqualFunc_int64_int64_int64_int64_1 : List GOp := [oo 10 (.mv (tt 0)), oo 11 (.len (tt 10)), oo 12 (.mv (tt 1)), oo 13 (.len (tt 12)), oo 14 (.bin .neq (tt 11) (tt 13))]
abbrev c_slices_EqualFunc_int64_int64_int64_int64_2 : List GOp := [oo 6 (.mv (cb  false))]
abbrev c_slices_EqualFunc_int64_int64_int64_int64_3 : List GOp := [oo 15 (.mv (tt 0)), oo 16 (.len (tt 15)), oo 17 (.mv (ci 0))]
abbrev c_slices_EqualFunc_int64_int64_int64_int64_4 : List GOp := [oo 18 (.bin .lss (tt 17) (tt 16))]
abbrev c_slices_EqualFunc_int64_int64_int64_int64_5 : List GOp := [oo 19 (.mv (tt 17)), oo 20 (.ia 1 (tt 15) (tt 17)), oo 21 (.ld (tt 20)), oo 7 (.mv (tt 19)), oo 8 (.mv (tt 21))]
abbrev c_slices_EqualFunc_int64_int64_int64_int64_6 : List GOp := [oo 22 (.mv (tt 1)), oo 23 (.mv (tt 7)), oo 24 (.ia 1 (tt 22) (tt 23)), oo 25 (.ld (tt 24)), oo 9 (.mv (tt 25))]
abbrev c_slices_EqualFunc_int64_int64_int64_int64_7 : List GOp := [oo 26 (.mv (tt 2)), oo 27 (.mv (tt 8)), oo 28 (.mv (tt 9)), oo 29 (.call (tt 26) [tt 27, tt 28]), oo 30 (.un .not (tt 29))]
abbrev c_slices_EqualFunc_int64_int64_int64_int64_8 : List GOp := [oo 6 (.mv (cb  false))]
abbrev c_slices_EqualFunc_int64_int64_int64_int64_9 : List GOp := [oo 31 (.bin .add (tt 17) (ci 1)), oo 17 (.mv (tt 31))]
abbrev c_slices_EqualFunc_int64_int64_int64_int64_l0 : GCode := .seq (.reg c_slices_EqualFunc_int64_int64_int64_int64_4) (.seq (.cond (tt 18) (.skip) (.exit 0)) (.seq (.blk 1 (.seq (.reg c_slices_EqualFunc_int64_int64_int64_int64_5) (.seq (.reg c_slices_EqualFunc_int64_int64_int64_int64_6) (.seq (.reg c_slices_EqualFunc_int64_int64_int64_int64_7) (.cond (tt 30) (.seq (.reg c_slices_EqualFunc_int64_int64_int64_int64_8) (.ret)) (.skip)))))) (.reg c_slices_EqualFunc_int64_int64_int64_int64_9)))
abbrev c_slices_EqualFunc_int64_int64_int64_int64_11 : List GOp := [oo 6 (.mv (cb  true))]
abbrev c_slices_EqualFunc_int64_int64_int64_int64 : GCode := .seq (.reg c_slices_EqualFunc_int64_int64_int64_int64_0) (.seq (.seq (.reg c_slices_EqualFunc_int64_int64_int64_int64_1) (.cond (tt 14) (.seq (.reg c_slices_EqualFunc_int64_int64_int64_int64_2) (.ret)) (.skip))) (.seq (.seq (.reg c_slices_EqualFunc_int64_int64_int64_int64_3) (.blk 0 (.loop c_slices_EqualFunc_int64_int64_int64_int64_l0))) (.seq (.reg c_slices_EqualFunc_int64_int64_int64_int64_11) (.ret))))
theorem c_slices_EqualFunc_int64_int64_int64_int64_d : decFn Try.prog Try.f104 = some (32, [.t 6], c_slices_EqualFunc_int64_int64_int64_int64) := by kernel_rfl
theorem c_slices_EqualFunc_int64_int64_int64_int64_i {args : List Value} {G : GH} {K : Value → GH → Prop} (hn : args.length ≤ 32) (h : gW Try.prog c_slices_EqualFunc_int64_int64_int64_int64 (RetK [.t 6] K) (T0 args) G) : GC Try.prog 104 args G K := GC_intro mixed Try.func104 c_slices_EqualFunc_int64_int64_int64_int64_d hn h
/-! slices.Equal[[]loop.example/g01005/impl.Arc,loop.example/g01005/impl.Arc] (2 params, 26 temporaries) : 0=s1 1=s2 2=s1 3=s2 5=i
-/
abbrev c_slices_Equal_impl_Arc_impl_Arc_0 : List GOp := [oo 4 (.mv (cb  false))]
abbrev c_slices_Equal_impl_Arc_impl_Arc_1 : List GOp := [oo 6 (.mv (tt 0)), oo 7 (.len (tt 6)), oo 8 (.mv (tt 1)), oo 9 (.len (tt 8)), oo 10 (.bin .neq (tt 7) (tt 9))]
abbrev c_slices_Equal_impl_Arc_impl_Arc_2 : List GOp := [oo 4 (.mv (cb  false))]
abbrev c_slices_Equal_impl_Arc_impl_Arc_3 : List GOp := [oo 11 (.mv (tt 0)), oo 12 (.len (tt 11)), oo 13 (.mv (ci 0))]
abbrev c_slices_Equal_impl_Arc_impl_Arc_4 : List GOp := [oo 14 (.bin .lss (tt 13) (tt 12))]
abbrev c_slices_Equal_impl_Arc_impl_Arc_5 : List GOp := [oo 15 (.mv (tt 13)), oo 5 (.mv (tt 15))]
abbrev c_slices_Equal_impl_Arc_impl_Arc_6 : List DOp := [dl 0 (oo 16 (.mv (tt 0))), dl 1 (oo 17 (.mv (tt 5))), dl 2 (oo 18 (.ia 3 (tt 16) (tt 17))), dl 3 (oo 19 (.ldn 3 (tt 18))), dl 4 (oo 20 (.mv (tt 1))), dl 5 (oo 21 (.mv (tt 5))), dl 6 (oo 22 (.ia 3 (tt 20) (tt 21))), dl 7 (oo 23 (.ldn 3 (tt 22))), dl 8 (oo 24 (.eqa true 3 (tt 19) (tt 23)))]
abbrev c_slices_Equal_impl_Arc_impl_Arc_7 : List GOp := [oo 4 (.mv (cb  false))]
abbrev c_slices_Equal_impl_Arc_impl_Arc_8 : List GOp := [oo 25 (.bin .add (tt 13) (ci 1)), oo 13 (.mv (tt 25))]
abbrev c_slices_Equal_impl_Arc_impl_Arc_l0 : GCode := .seq (.reg c_slices_Equal_impl_Arc_impl_Arc_4) (.seq (.cond (tt 14) (.skip) (.exit 0)) (.seq (.blk 1 (.seq (.reg c_slices_Equal_impl_Arc_impl_Arc_5) (.seq (.dreg c_slices_Equal_impl_Arc_impl_Arc_6) (.cond (tt 24) (.seq (.reg c_slices_Equal_impl_Arc_impl_Arc_7) (.ret)) (.skip))))) (.reg c_slices_Equal_impl_Arc_impl_Arc_8)))
abbrev c_slices_Equal_impl_Arc_impl_Arc_10 : List GOp := [oo 4 (.mv (cb  true))]
abbrev c_slices_Equal_impl_Arc_impl_Arc : GCode := .seq (.reg c_slices_Equal_impl_Arc_impl_Arc_0) (.seq (.seq (.reg c_slices_Equal_impl_Arc_impl_Arc_1) (.cond (tt 10) (.seq (.reg c_slices_Equal_impl_Arc_impl_Arc_2) (.ret)) (.skip))) (.seq (.seq (.reg c_slices_Equal_impl_Arc_impl_Arc_3) (.blk 0 (.loop c_slices_Equal_impl_Arc_impl_Arc_l0))) (.seq (.reg c_slices_Equal_impl_Arc_impl_Arc_10) (.ret))))
theorem c_slices_Equal_impl_Arc_impl_Arc_d : decFn Try.prog Try.f63 = some (26, [.t 4], c_slices_Equal_impl_Arc_impl_Arc) := by kernel_rfl
theorem c_slices_Equal_impl_Arc_impl_Arc_i {args : List Value} {G : GH} {K : Value → GH → Prop} (hn : args.length ≤ 26) (h : gW Try.prog c_slices_Equal_impl_Arc_impl_Arc (RetK [.t 4] K) (T0 args) G) : GC Try.prog 63 args G K := GC_intro mixed Try.func63 c_slices_Equal_impl_Arc_impl_Arc_d hn h
/-! slices.Equal[[]int64,int64] (2 params, 26 temporaries) : 0=s1 1=s2 2=s1 3=s2 5=i
-/
abbrev c_slices_Equal_int64_int64_0 : List GOp := [oo 4 (.mv (cb  false))]
abbrev c_slices_Equal_int64_int64_1 : List GOp := [oo 6 (.mv (tt 0)), oo 7 (.len (tt 6)), oo 8 (.mv (tt 1)), oo 9 (.len (tt 8)), oo 10 (.bin .neq (tt 7) (tt 9))]
abbrev c_slices_Equal_int64_int64_2 : List GOp := [oo 4 (.mv (cb  false))]
abbrev c_slices_Equal_int64_int64_3 : List GOp := [oo 11 (.mv (tt 0)), oo 12 (.len (tt 11)), oo 13 (.mv (ci 0))]
abbrev c_slices_Equal_int64_int64_4 : List GOp := [oo 14 (.bin .lss (tt 13) (tt 12))]
abbrev c_slices_Equal_int64_int64_5 : List GOp := [oo 15 (.mv (tt 13)), oo 5 (.mv (tt 15))]
abbrev c_slices_Equal_int64_int64_6 : List DOp := [dl 0 (oo 16 (.mv (tt 0))), dl 1 (oo 17 (.mv (tt 5))), dl 2 (oo 18 (.ia 1 (tt 16) (tt 17))), dl 3 (oo 19 (.ld (tt 18))), dl 4 (oo 20 (.mv (tt 1))), dl 5 (oo 21 (.mv (tt 5))), dl 6 (oo 22 (.ia 1 (tt 20) (tt 21))), dl 7 (oo 23 (.ld (tt 22))), dl 8 (oo 24 (.bin .neq (tt 19) (tt 23)))]
abbrev c_slices_Equal_int64_int64_7 : List GOp := [oo 4 (.mv (cb  false))]
abbrev c_slices_Equal_int64_int64_8 : List GOp := [oo 25 (.bin .add (tt 13) (ci 1)), oo 13 (.mv (tt 25))]
abbrev c_slices_Equal_int64_int64_l0 : GCode := .seq (.reg c_slices_Equal_int64_int64_4) (.seq (.cond (tt 14) (.skip) (.exit 0)) (.seq (.blk 1 (.seq (.reg c_slices_Equal_int64_int64_5) (.seq (.dreg c_slices_Equal_int64_int64_6) (.cond (tt 24) (.seq (.reg c_slices_Equal_int64_int64_7) (.ret)) (.skip))))) (.reg c_slices_Equal_int64_int64_8)))
abbrev c_slices_Equal_int64_int64_10 : List GOp := [oo 4 (.mv (cb  true))]
abbrev c_slices_Equal_int64_int64 : GCode := .seq (.reg c_slices_Equal_int64_int64_0) (.seq (.seq (.reg c_slices_Equal_int64_int64_1) (.cond (tt 10) (.seq (.reg c_slices_Equal_int64_int64_2) (.ret)) (.skip))) (.seq (.seq (.reg c_slices_Equal_int64_int64_3) (.blk 0 (.loop c_slices_Equal_int64_int64_l0))) (.seq (.reg c_slices_Equal_int64_int64_10) (.ret))))
theorem c_slices_Equal_int64_int64_d : decFn Try.prog Try.f69 = some (26, [.t 4], c_slices_Equal_int64_int64) := by kernel_rfl
theorem c_slices_Equal_int64_int64_i {args : List Value} {G : GH} {K : Value → GH → Prop} (hn : args.length ≤ 26) (h : gW Try.prog c_slices_Equal_int64_int64 (RetK [.t 4] K) (T0 args) G) : GC Try.prog 69 args G K := GC_intro mixed Try.func69 c_slices_Equal_int64_int64_d hn h
/-! slices.IndexFunc[[]loop.example/g01005/impl.Table,loop.example/g01005/impl.Table] (2 params, 19 temporaries) : 0=s 1=f 2=s 3=f 5=i
-/
abbrev c_slices_IndexFunc_impl_Table_impl_Table_0 : List GOp := [oo 4 (.mv (ci 0))]
abbrev c_slices_IndexFunc_impl_Table_impl_Table_1 : List GOp := [oo 6 (.mv (tt 0)), oo 7 (.len (tt 6)), oo 8 (.mv (ci 0))]
abbrev c_slices_IndexFunc_impl_Table_impl_Table_2 : List GOp := [oo 9 (.bin .lss (tt 8) (tt 7))]
abbrev c_slices_IndexFunc_impl_Table_impl_Table_3 : List GOp := [oo 10 (.mv (tt 8)), oo 5 (.mv (tt 10))]
abbrev c_slices_IndexFunc_impl_Table_impl_Table_4 : List GOp := [oo 11 (.mv (tt 1)), oo 12 (.mv (tt 0)), oo 13 (.mv (tt 5)), oo 14 (.ia 2 (tt 12) (tt 13)), oo 15 (.ldn 2 (tt 14)), oo 16 (.call (tt 11) [tt 15])]
abbrev c_slices_IndexFunc_impl_Table_impl_Table_5 : List GOp := [oo 17 (.mv (tt 5)), oo 4 (.mv (tt 17))]
abbrev c_slices_IndexFunc_impl_Table_impl_Table_6 : List GOp := [oo 18 (.bin .add (tt 8) (ci 1)), oo 8 (.mv (tt 18))]
abbrev c_slices_IndexFunc_impl_Table_impl_Table_l0 : GCode := .seq (.reg c_slices_IndexFunc_impl_Table_impl_Table_2) (.seq (.cond (tt 9) (.skip) (.exit 0)) (.seq (.blk 1 (.seq (.reg c_slices_IndexFunc_impl_Table_impl_Table_3) (.seq (.reg c_slices_IndexFunc_impl_Table_impl_Table_4) (.cond (tt 16) (.seq (.reg c_slices_IndexFunc_impl_Table_impl_Table_5) (.ret)) (.skip))))) (.reg c_slices_IndexFunc_impl_Table_impl_Table_6)))
abbrev c_slices_IndexFunc_impl_Table_impl_Table_8 : List GOp := [oo 4 (.mv (ci (-1)))]
abbrev c_slices_IndexFunc_impl_Table_impl_Table : GCode := .seq (.reg c_slices_IndexFunc_impl_Table_impl_Table_0) (.seq (.seq (.reg c_slices_IndexFunc_impl_Table_impl_Table_1) (.blk 0 (.loop c_slices_IndexFunc_impl_Table_impl_Table_l0))) (.seq (.reg c_slices_IndexFunc_impl_Table_impl_Table_8) (.ret)))
theorem c_slices_IndexFunc_impl_Table_impl_Table_d : decFn Try.prog Try.f111 = some (19, [.t 4], c_slices_IndexFunc_impl_Table_impl_Table) := by kernel_rfl
theorem c_slices_IndexFunc_impl_Table_impl_Table_i {args : List Value} {G : GH} {K : Value → GH → Prop} (hn : args.length ≤ 19) (h : gW Try.prog c_slices_IndexFunc_impl_Table_impl_Table (RetK [.t 4] K) (T0 args) G) : GC Try.prog 111 args G K := GC_intro mixed Try.func111 c_slices_IndexFunc_impl_Table_impl_Table_d hn h
/-! slices.IndexFunc[[]int64,int64] (2 params, 19 temporaries) : 0=s 1=f 2=s 3=f 5=i
-/
abbrev c_slices_IndexFunc_int64_int64_0 : List GOp := [oo 4 (.mv (ci 0))]
abbrev c_slices_IndexFunc_int64_int64_1 : List GOp := [oo 6 (.mv (tt 0)), oo 7 (.len (tt 6)), oo 8 (.mv (ci 0))]
abbrev c_slices_IndexFunc_int64_int64_2 : List GOp := [oo 9 (.bin .lss (tt 8) (tt 7))]
abbrev c_slices_IndexFunc_int64_int64_3 : List GOp := [oo 10 (.mv (tt 8)), oo 5 (.mv (tt 10))]
abbrev c_slices_IndexFunc_int64_int64_4 : List GOp := [oo 11 (.mv (tt 1)), oo 12 (.mv (tt 0)), oo 13 (.mv (tt 5)), oo 14 (.ia 1 (tt 12) (tt 13)), oo 15 (.ld (tt 14)), oo 16 (.call (tt 11) [tt 15])]
abbrev c_slices_IndexFunc_int64_int64_5 : List GOp := [oo 17 (.mv (tt 5)), oo 4 (.mv (tt 17))]
abbrev c_slices_IndexFunc_int64_int64_6 : List GOp := [oo 18 (.bin .add (tt 8) (ci 1)), oo 8 (.mv (tt 18))]
abbrev c_slices_IndexFunc_int64_int64_l0 : GCode := .seq (.reg c_slices_IndexFunc_int64_int64_2) (.seq (.cond (tt 9) (.skip) (.exit 0)) (.seq (.blk 1 (.seq (.reg c_slices_IndexFunc_int64_int64_3) (.seq (.reg c_slices_IndexFunc_int64_int64_4) (.cond (tt 16) (.seq (.reg c_slices_IndexFunc_int64_int64_5) (.ret)) (.skip))))) (.reg c_slices_IndexFunc_int64_int64_6)))
abbrev c_slices_IndexFunc_int64_int64_8 : List GOp := [oo 4 (.mv (ci (-1)))]
abbrev c_slices_IndexFunc_int64_int64 : GCode := .seq (.reg c_slices_IndexFunc_int64_int64_0) (.seq (.seq (.reg c_slices_IndexFunc_int64_int64_1) (.blk 0 (.loop c_slices_IndexFunc_int64_int64_l0))) (.seq (.reg c_slices_IndexFunc_int64_int64_8) (.ret)))
theorem c_slices_IndexFunc_int64_int64_d : decFn Try.prog Try.f99 = some (19, [.t 4], c_slices_IndexFunc_int64_int64) := by kernel_rfl
theorem c_slices_IndexFunc_int64_int64_i {args : List Value} {G : GH} {K : Value → GH → Prop} (hn : args.length ≤ 19) (h : gW Try.prog c_slices_IndexFunc_int64_int64 (RetK [.t 4] K) (T0 args) G) : GC Try.prog 99 args G K := GC_intro mixed Try.func99 c_slices_IndexFunc_int64_int64_d hn h
/-! slices.Index[[]int64,int64] (2 params, 19 temporaries) : 0=s 1=v 2=s 3=v 5=i
-/
abbrev c_slices_Index_int64_int64_0 : List GOp := [oo 4 (.mv (ci 0))]
abbrev c_slices_Index_int64_int64_1 : List GOp := [oo 6 (.mv (tt 0)), oo 7 (.len (tt 6)), oo 8 (.mv (ci 0))]
abbrev c_slices_Index_int64_int64_2 : List GOp := [oo 9 (.bin .lss (tt 8) (tt 7))]
abbrev c_slices_Index_int64_int64_3 : List GOp := [oo 10 (.mv (tt 8)), oo 5 (.mv (tt 10))]
abbrev c_slices_Index_int64_int64_4 : List GOp := [oo 11 (.mv (tt 1)), oo 12 (.mv (tt 0)), oo 13 (.mv (tt 5)), oo 14 (.ia 1 (tt 12) (tt 13)), oo 15 (.ld (tt 14)), oo 16 (.bin .eql (tt 11) (tt 15))]
abbrev c_slices_Index_int64_int64_5 : List GOp := [oo 17 (.mv (tt 5)), oo 4 (.mv (tt 17))]
abbrev c_slices_Index_int64_int64_6 : List GOp := [oo 18 (.bin .add (tt 8) (ci 1)), oo 8 (.mv (tt 18))]
abbrev c_slices_Index_int64_int64_l0 : GCode := .seq (.reg c_slices_Index_int64_int64_2) (.seq (.cond (tt 9) (.skip) (.exit 0)) (.seq (.blk 1 (.seq (.reg c_slices_Index_int64_int64_3) (.seq (.reg c_slices_Index_int64_int64_4) (.cond (tt 16) (.seq (.reg c_slices_Index_int64_int64_5) (.ret)) (.skip))))) (.reg c_slices_Index_int64_int64_6)))
abbrev c_slices_Index_int64_int64_8 : List GOp := [oo 4 (.mv (ci (-1)))]
abbrev c_slices_Index_int64_int64 : GCode := .seq (.reg c_slices_Index_int64_int64_0) (.seq (.seq (.reg c_slices_Index_int64_int64_1) (.blk 0 (.loop c_slices_Index_int64_int64_l0))) (.seq (.reg c_slices_Index_int64_int64_8) (.ret)))
theorem c_slices_Index_int64_int64_d : decFn Try.prog Try.f119 = some (19, [.t 4], c_slices_Index_int64_int64) := by kernel_rfl
theorem c_slices_Index_int64_int64_i {args : List Value} {G : GH} {K : Value → GH → Prop} (hn : args.length ≤ 19) (h : gW Try.prog c_slices_Index_int64_int64 (RetK [.t 4] K) (T0 args) G) : GC Try.prog 119 args G K := GC_intro mixed Try.func119 c_slices_Index_int64_int64_d hn h
/-! slices.Max[[]int64,int64] (1 params, 25 temporaries) : 0=x 1=x 3=m 4=i
-/
abbrev c_slices_Max_int64_int64_0 : List GOp := [oo 2 (.mv (ci 0))]
abbrev c_slices_Max_int64_int64_1 : List GOp := [oo 5 (.mv (tt 0)), oo 6 (.len (tt 5)), oo 7 (.bin .lss (tt 6) (ci 1))]
abbrev c_slices_Max_int64_int64_2 : List GOp := [oo 8 (.mi 9 (.const (.string ⟨#[115, 108, 105, 99, 101, 115, 46, 77, 97, 120, 58, 32, 101, 109, 112, 116, 121, 32, 108, 105, 115, 116]⟩))), on (.bad)]
abbrev c_slices_Max_int64_int64_3 : List GOp := [oo 9 (.mv (tt 0)), oo 10 (.ia 1 (tt 9) (ci 0)), oo 11 (.ld (tt 10)), oo 3 (.mv (tt 11))]
abbrev c_slices_Max_int64_int64_4 : List GOp := [oo 4 (.mv (ci 1))]
abbrev c_slices_Max_int64_int64_5 : List GOp := [oo 12 (.mv (tt 4)), oo 13 (.mv (tt 0)), oo 14 (.len (tt 13)), oo 15 (.bin .lss (tt 12) (tt 14))]
abbrev c_slices_Max_int64_int64_6 : List GOp := [oo 18 (.mv (tt 3)), oo 19 (.mv (tt 0)), oo 20 (.mv (tt 4)), oo 21 (.ia 1 (tt 19) (tt 20)), oo 22 (.ld (tt 21)), oo 23 (.mx [tt 18, tt 22]), oo 3 (.mv (tt 23))]
abbrev c_slices_Max_int64_int64_7 : List GOp := [oo 16 (.mv (tt 4)), oo 17 (.bin .add (tt 16) (ci 1)), oo 4 (.mv (tt 17))]
abbrev c_slices_Max_int64_int64_l0 : GCode := .seq (.seq (.reg c_slices_Max_int64_int64_5) (.cond (tt 15) (.skip) (.exit 0))) (.seq (.blk 1 (.reg c_slices_Max_int64_int64_6)) (.reg c_slices_Max_int64_int64_7))
abbrev c_slices_Max_int64_int64_9 : List GOp := [oo 24 (.mv (tt 3)), oo 2 (.mv (tt 24))]
abbrev c_slices_Max_int64_int64 : GCode := .seq (.reg c_slices_Max_int64_int64_0) (.seq (.seq (.reg c_slices_Max_int64_int64_1) (.cond (tt 7) (.reg c_slices_Max_int64_int64_2) (.skip))) (.seq (.reg c_slices_Max_int64_int64_3) (.seq (.seq (.reg c_slices_Max_int64_int64_4) (.blk 0 (.loop c_slices_Max_int64_int64_l0))) (.seq (.reg c_slices_Max_int64_int64_9) (.ret)))))
theorem c_slices_Max_int64_int64_d : decFn Try.prog Try.f59 = some (25, [.t 2], c_slices_Max_int64_int64) := by kernel_rfl
theorem c_slices_Max_int64_int64_i {args : List Value} {G : GH} {K : Value → GH → Prop} (hn : args.length ≤ 25) (h : gW Try.prog c_slices_Max_int64_int64 (RetK [.t 2] K) (T0 args) G) : GC Try.prog 59 args G K := GC_intro mixed Try.func59 c_slices_Max_int64_int64_d hn h
/-! slices.Min[[]int64,int64] (1 params, 25 temporaries) : 0=x 1=x 3=m 4=i
-/
abbrev c_slices_Min_int64_int64_0 : List GOp := [oo 2 (.mv (ci 0))]
abbrev c_slices_Min_int64_int64_1 : List GOp := [oo 5 (.mv (tt 0)), oo 6 (.len (tt 5)), oo 7 (.bin .lss (tt 6) (ci 1))]
abbrev c_slices_Min_int64_int64_2 : List GOp := [oo 8 (.mi 9 (.const (.string ⟨#[115, 108, 105, 99, 101, 115, 46, 77, 105, 110, 58, 32, 101, 109, 112, 116, 121, 32, 108, 105, 115, 116]⟩))), on (.bad)]
abbrev c_slices_Min_int64_int64_3 : List GOp := [oo 9 (.mv (tt 0)), oo 10 (.ia 1 (tt 9) (ci 0)), oo 11 (.ld (tt 10)), oo 3 (.mv (tt 11))]
abbrev c_slices_Min_int64_int64_4 : List GOp := [oo 4 (.mv (ci 1))]
abbrev c_slices_Min_int64_int64_5 : List GOp := [oo 12 (.mv (tt 4)), oo 13 (.mv (tt 0)), oo 14 (.len (tt 13)), oo 15 (.bin .lss (tt 12) (tt 14))]
abbrev c_slices_Min_int64_int64_6 : List GOp := [oo 18 (.mv (tt 3)), oo 19 (.mv (tt 0)), oo 20 (.mv (tt 4)), oo 21 (.ia 1 (tt 19) (tt 20)), oo 22 (.ld (tt 21)), oo 23 (.mn [tt 18, tt 22]), oo 3 (.mv (tt 23))]
abbrev c_slices_Min_int64_int64_7 : List GOp := [oo 16 (.mv (tt 4)), oo 17 (.bin .add (tt 16) (ci 1)), oo 4 (.mv (tt 17))]
abbrev c_slices_Min_int64_int64_l0 : GCode := .seq (.seq (.reg c_slices_Min_int64_int64_5) (.cond (tt 15) (.skip) (.exit 0))) (.seq (.blk 1 (.reg c_slices_Min_int64_int64_6)) (.reg c_slices_Min_int64_int64_7))
abbrev c_slices_Min_int64_int64_9 : List GOp := [oo 24 (.mv (tt 3)), oo 2 (.mv (tt 24))]
abbrev c_slices_Min_int64_int64 : GCode := .seq (.reg c_slices_Min_int64_int64_0) (.seq (.seq (.reg c_slices_Min_int64_int64_1) (.cond (tt 7) (.reg c_slices_Min_int64_int64_2) (.skip))) (.seq (.reg c_slices_Min_int64_int64_3) (.seq (.seq (.reg c_slices_Min_int64_int64_4) (.blk 0 (.loop c_slices_Min_int64_int64_l0))) (.seq (.reg c_slices_Min_int64_int64_9) (.ret)))))
theorem c_slices_Min_int64_int64_d : decFn Try.prog Try.f60 = some (25, [.t 2], c_slices_Min_int64_int64) := by kernel_rfl
theorem c_slices_Min_int64_int64_i {args : List Value} {G : GH} {K : Value → GH → Prop} (hn : args.length ≤ 25) (h : gW Try.prog c_slices_Min_int64_int64 (RetK [.t 2] K) (T0 args) G) : GC Try.prog 60 args G K := GC_intro mixed Try.func60 c_slices_Min_int64_int64_d hn h
/-! loop.example/g01005/spec.CutCapacity (2 params, 13 temporaries) : 0=n 1=side 2=n 3=side
-/
abbrev c_spec_CutCapacity_0 : List GOp := [oo 2 (.bx (tt 0)), oo 4 (.mv (ci 0)), oo 5 (.mv (ci 0))]
abbrev c_spec_CutCapacity_1 : List GOp := [oo 6 (.call (ff 72) [tt 2]), oo 7 (.un .not (tt 6))]
abbrev c_spec_CutCapacity_2 : List GOp := [oo 4 (.mv (ci 0)), oo 5 (.mv (ci 1))]
abbrev c_spec_CutCapacity_3 : List GOp := [oo 8 (.mv (tt 1)), oo 9 (.call (ff 83) [tt 2, tt 8]), oo 10 (.un .not (tt 9))]
abbrev c_spec_CutCapacity_4 : List GOp := [oo 4 (.mv (ci 0)), oo 5 (.mv (ci 6))]
abbrev c_spec_CutCapacity_5 : List GOp := [oo 11 (.mv (tt 1)), oo 12 (.call (ff 97) [tt 2, tt 11]), oo 4 (.mv (tt 12)), oo 5 (.mv (ci 0))]
abbrev c_spec_CutCapacity : GCode := .seq (.reg c_spec_CutCapacity_0) (.seq (.seq (.reg c_spec_CutCapacity_1) (.cond (tt 7) (.seq (.reg c_spec_CutCapacity_2) (.ret)) (.skip))) (.seq (.seq (.reg c_spec_CutCapacity_3) (.cond (tt 10) (.seq (.reg c_spec_CutCapacity_4) (.ret)) (.skip))) (.seq (.reg c_spec_CutCapacity_5) (.ret))))
theorem c_spec_CutCapacity_d : decFn Try.prog Try.f51 = some (13, [.t 4, .t 5], c_spec_CutCapacity) := by kernel_rfl
theorem c_spec_CutCapacity_i {args : List Value} {G : GH} {K : Value → GH → Prop} (hn : args.length ≤ 13) (h : gW Try.prog c_spec_CutCapacity (RetK [.t 4, .t 5] K) (T0 args) G) : GC Try.prog 51 args G K := GC_intro mixed Try.func51 c_spec_CutCapacity_d hn h
/-! loop.example/g01005/spec.FlowValue (2 params, 15 temporaries) : 0=n 1=flow 2=n 3=flow
-/
abbrev c_spec_FlowValue_0 : List GOp := [oo 2 (.bx (tt 0)), oo 4 (.mv (ci 0)), oo 5 (.mv (ci 0))]
abbrev c_spec_FlowValue_1 : List GOp := [oo 6 (.call (ff 72) [tt 2]), oo 7 (.un .not (tt 6))]
abbrev c_spec_FlowValue_2 : List GOp := [oo 4 (.mv (ci 0)), oo 5 (.mv (ci 1))]
abbrev c_spec_FlowValue_3 : List GOp := [oo 8 (.mv (tt 1)), oo 9 (.call (ff 81) [tt 2, tt 8]), oo 10 (.un .not (tt 9))]
abbrev c_spec_FlowValue_4 : List GOp := [oo 4 (.mv (ci 0)), oo 5 (.mv (ci 6))]
abbrev c_spec_FlowValue_5 : List GOp := [oo 11 (.mv (tt 1)), oo 12 (.fa 2 (tt 2)), oo 13 (.ld (tt 12)), oo 14 (.call (ff 85) [tt 2, tt 11, tt 13]), oo 4 (.mv (tt 14)), oo 5 (.mv (ci 0))]
abbrev c_spec_FlowValue : GCode := .seq (.reg c_spec_FlowValue_0) (.seq (.seq (.reg c_spec_FlowValue_1) (.cond (tt 7) (.seq (.reg c_spec_FlowValue_2) (.ret)) (.skip))) (.seq (.seq (.reg c_spec_FlowValue_3) (.cond (tt 10) (.seq (.reg c_spec_FlowValue_4) (.ret)) (.skip))) (.seq (.reg c_spec_FlowValue_5) (.ret))))
theorem c_spec_FlowValue_d : decFn Try.prog Try.f39 = some (15, [.t 4, .t 5], c_spec_FlowValue) := by kernel_rfl
theorem c_spec_FlowValue_i {args : List Value} {G : GH} {K : Value → GH → Prop} (hn : args.length ≤ 15) (h : gW Try.prog c_spec_FlowValue (RetK [.t 4, .t 5] K) (T0 args) G) : GC Try.prog 39 args G K := GC_intro mixed Try.func39 c_spec_FlowValue_d hn h
/-! loop.example/g01005/spec.IsCut (2 params, 10 temporaries) : 0=n 1=side 2=n 3=side
-/
abbrev c_spec_IsCut_0 : List GOp := [oo 2 (.bx (tt 0)), oo 4 (.mv (cb  false))]
abbrev c_spec_IsCut_1 : List GOp := [oo 5 (.call (ff 72) [tt 2]), oo 6 (.mv (tt 5)), og 7 6 true (.mv (tt 1)), og 8 6 true (.call (ff 83) [tt 2, tt 7]), oo 9 (.pick (tt 6) (tt 8) (cb  false)), oo 4 (.mv (tt 9))]
abbrev c_spec_IsCut : GCode := .seq (.reg c_spec_IsCut_0) (.seq (.reg c_spec_IsCut_1) (.ret))
theorem c_spec_IsCut_d : decFn Try.prog Try.f37 = some (10, [.t 4], c_spec_IsCut) := by kernel_rfl
theorem c_spec_IsCut_i {args : List Value} {G : GH} {K : Value → GH → Prop} (hn : args.length ≤ 10) (h : gW Try.prog c_spec_IsCut (RetK [.t 4] K) (T0 args) G) : GC Try.prog 37 args G K := GC_intro mixed Try.func37 c_spec_IsCut_d hn h
/-! loop.example/g01005/spec.IsFlow (2 params, 10 temporaries) : 0=n 1=flow 2=n 3=flow
-/
abbrev c_spec_IsFlow_0 : List GOp := [oo 2 (.bx (tt 0)), oo 4 (.mv (cb  false))]
abbrev c_spec_IsFlow_1 : List GOp := [oo 5 (.call (ff 72) [tt 2]), oo 6 (.mv (tt 5)), og 7 6 true (.mv (tt 1)), og 8 6 true (.call (ff 81) [tt 2, tt 7]), oo 9 (.pick (tt 6) (tt 8) (cb  false)), oo 4 (.mv (tt 9))]
abbrev c_spec_IsFlow : GCode := .seq (.reg c_spec_IsFlow_0) (.seq (.reg c_spec_IsFlow_1) (.ret))
theorem c_spec_IsFlow_d : decFn Try.prog Try.f35 = some (10, [.t 4], c_spec_IsFlow) := by kernel_rfl
theorem c_spec_IsFlow_i {args : List Value} {G : GH} {K : Value → GH → Prop} (hn : args.length ≤ 10) (h : gW Try.prog c_spec_IsFlow (RetK [.t 4] K) (T0 args) G) : GC Try.prog 35 args G K := GC_intro mixed Try.func35 c_spec_IsFlow_d hn h
/-! loop.example/g01005/spec.LoopRank (1 params, 71 temporaries) : 
-/
abbrev c_spec_LoopRank_0 : List GOp := [oo 1 (.bx (tt 0)), oo 2 (.mv (ci 0)), oo 3 (.mv (ci 0))]
abbrev c_spec_LoopRank_1 : List GOp := [oo 11 (.call (ff 72) [tt 1]), oo 12 (.un .not (tt 11))]
abbrev c_spec_LoopRank_2 : List GOp := [oo 2 (.mv (ci 0)), oo 3 (.mv (ci 1))]
abbrev c_spec_LoopRank_3 : List GOp := [oo 13 (.bs 1 []), oo 4 (.mv (tt 13))]
abbrev c_spec_LoopRank_4 : List GOp := [oo 5 (.mv (ci 0))]
abbrev c_spec_LoopRank_5 : List GOp := [oo 14 (.mv (tt 5)), oo 15 (.fa 0 (tt 1)), oo 16 (.ld (tt 15)), oo 17 (.bin .lss (tt 14) (tt 16))]
abbrev c_spec_LoopRank_6 : List GOp := [oo 20 (.mv (tt 4)), oo 21 (.mv (tt 5)), oo 22 (.bs 1 [tt 21]), oo 23 (.ap 1 8 [.int .i64 0] (tt 20) (tt 22)), oo 4 (.mv (tt 23))]
abbrev c_spec_LoopRank_7 : List GOp := [oo 18 (.mv (tt 5)), oo 19 (.bin .add (tt 18) (ci 1)), oo 5 (.mv (tt 19))]
abbrev c_spec_LoopRank_l0 : GCode := .seq (.seq (.reg c_spec_LoopRank_5) (.cond (tt 17) (.skip) (.exit 0))) (.seq (.blk 1 (.reg c_spec_LoopRank_6)) (.reg c_spec_LoopRank_7))
abbrev c_spec_LoopRank_9 : List GOp := [oo 6 (.mv (ci 0))]
abbrev c_spec_LoopRank_10 : List GOp := [oo 7 (.mv (ci 0))]
abbrev c_spec_LoopRank_11 : List GOp := [oo 24 (.mv (tt 7)), oo 25 (.fa 3 (tt 1)), oo 26 (.ld (tt 25)), oo 27 (.len (tt 26)), oo 28 (.bin .lss (tt 24) (tt 27))]
abbrev c_spec_LoopRank_12 : List GOp := [oo 31 (.mv (tt 4)), oo 32 (.fa 3 (tt 1)), oo 33 (.ld (tt 32)), oo 34 (.mv (tt 7)), oo 35 (.ia 3 (tt 33) (tt 34)), oo 36 (.fa 0 (tt 35)), oo 37 (.ld (tt 36)), oo 38 (.ia 1 (tt 31) (tt 37)), oo 39 (.ld (tt 38)), oo 8 (.mv (tt 39))]
abbrev c_spec_LoopRank_13 : List GOp := [oo 40 (.mv (tt 4)), oo 41 (.fa 3 (tt 1)), oo 42 (.ld (tt 41)), oo 43 (.mv (tt 7)), oo 44 (.ia 3 (tt 42) (tt 43)), oo 45 (.fa 1 (tt 44)), oo 46 (.ld (tt 45)), oo 47 (.ia 1 (tt 40) (tt 46)), oo 48 (.ld (tt 47)), oo 9 (.mv (tt 48))]
abbrev c_spec_LoopRank_14 : List GOp := [oo 49 (.mv (tt 8)), oo 50 (.mv (tt 9)), oo 51 (.bin .eql (tt 49) (tt 50))]
abbrev c_spec_LoopRank_15 : List GOp := [oo 52 (.mv (tt 6)), oo 53 (.bin .add (tt 52) (ci 1)), oo 6 (.mv (tt 53))]
abbrev c_spec_LoopRank_16 : List GOp := [oo 10 (.mv (ci 0))]
abbrev c_spec_LoopRank_17 : List GOp := [oo 54 (.mv (tt 10)), oo 55 (.mv (tt 4)), oo 56 (.len (tt 55)), oo 57 (.bin .lss (tt 54) (tt 56))]
abbrev c_spec_LoopRank_18 : List GOp := [oo 60 (.mv (tt 4)), oo 61 (.mv (tt 10)), oo 62 (.ia 1 (tt 60) (tt 61)), oo 63 (.ld (tt 62)), oo 64 (.mv (tt 9)), oo 65 (.bin .eql (tt 63) (tt 64))]
abbrev c_spec_LoopRank_19 : List GOp := [oo 66 (.mv (tt 4)), oo 67 (.mv (tt 10)), oo 68 (.mv (tt 8)), oo 69 (.ia 1 (tt 66) (tt 67)), on (.st 1 (tt 69) (tt 68))]
abbrev c_spec_LoopRank_20 : List GOp := [oo 58 (.mv (tt 10)), oo 59 (.bin .add (tt 58) (ci 1)), oo 10 (.mv (tt 59))]
abbrev c_spec_LoopRank_l1 : GCode := .seq (.seq (.reg c_spec_LoopRank_17) (.cond (tt 57) (.skip) (.exit 4))) (.seq (.blk 5 (.seq (.reg c_spec_LoopRank_18) (.cond (tt 65) (.reg c_spec_LoopRank_19) (.skip)))) (.reg c_spec_LoopRank_20))
abbrev c_spec_LoopRank_22 : List GOp := [oo 29 (.mv (tt 7)), oo 30 (.bin .add (tt 29) (ci 1)), oo 7 (.mv (tt 30))]
abbrev c_spec_LoopRank_l2 : GCode := .seq (.seq (.reg c_spec_LoopRank_11) (.cond (tt 28) (.skip) (.exit 2))) (.seq (.blk 3 (.seq (.reg c_spec_LoopRank_12) (.seq (.reg c_spec_LoopRank_13) (.seq (.seq (.reg c_spec_LoopRank_14) (.cond (tt 51) (.reg c_spec_LoopRank_15) (.skip))) (.seq (.reg c_spec_LoopRank_16) (.blk 4 (.loop c_spec_LoopRank_l1))))))) (.reg c_spec_LoopRank_22))
abbrev c_spec_LoopRank_24 : List GOp := [oo 70 (.mv (tt 6)), oo 2 (.mv (tt 70)), oo 3 (.mv (ci 0))]
abbrev c_spec_LoopRank : GCode := .seq (.reg c_spec_LoopRank_0) (.seq (.seq (.reg c_spec_LoopRank_1) (.cond (tt 12) (.seq (.reg c_spec_LoopRank_2) (.ret)) (.skip))) (.seq (.reg c_spec_LoopRank_3) (.seq (.seq (.reg c_spec_LoopRank_4) (.blk 0 (.loop c_spec_LoopRank_l0))) (.seq (.reg c_spec_LoopRank_9) (.seq (.seq (.reg c_spec_LoopRank_10) (.blk 2 (.loop c_spec_LoopRank_l2))) (.seq (.reg c_spec_LoopRank_24) (.ret)))))))
theorem c_spec_LoopRank_d : decFn Try.prog Try.f31 = some (71, [.t 2, .t 3], c_spec_LoopRank) := by kernel_rfl
theorem c_spec_LoopRank_i {args : List Value} {G : GH} {K : Value → GH → Prop} (hn : args.length ≤ 71) (h : gW Try.prog c_spec_LoopRank (RetK [.t 2, .t 3] K) (T0 args) G) : GC Try.prog 31 args G K := GC_intro mixed Try.func31 c_spec_LoopRank_d hn h
/-! loop.example/g01005/spec.SameNetwork (2 params, 52 temporaries) : 0=a 1=b 2=a 3=b 5=i
-/
abbrev c_spec_SameNetwork_0 : List GOp := [oo 2 (.bx (tt 0)), oo 3 (.bx (tt 1)), oo 4 (.mv (cb  false))]
abbrev c_spec_SameNetwork_1 : List GOp := [oo 6 (.fa 0 (tt 2)), oo 7 (.ld (tt 6)), oo 8 (.fa 0 (tt 3)), oo 9 (.ld (tt 8)), oo 10 (.bin .neq (tt 7) (tt 9)), oo 11 (.mv (tt 10)), og 12 11 false (.fa 1 (tt 2)), og 13 11 false (.ld (tt 12)), og 14 11 false (.fa 1 (tt 3)), og 15 11 false (.ld (tt 14)), og 16 11 false (.bin .neq (tt 13) (tt 15)), oo 17 (.pick (tt 11) (cb  true) (tt 16)), oo 18 (.mv (tt 17)), og 19 18 false (.fa 2 (tt 2)), og 20 18 false (.ld (tt 19)), og 21 18 false (.fa 2 (tt 3)), og 22 18 false (.ld (tt 21)), og 23 18 false (.bin .neq (tt 20) (tt 22)), oo 24 (.pick (tt 18) (cb  true) (tt 23)), oo 25 (.mv (tt 24)), og 26 25 false (.fa 3 (tt 2)), og 27 25 false (.ld (tt 26)), og 28 25 false (.len (tt 27)), og 29 25 false (.fa 3 (tt 3)), og 30 25 false (.ld (tt 29)), og 31 25 false (.len (tt 30)), og 32 25 false (.bin .neq (tt 28) (tt 31)), oo 33 (.pick (tt 25) (cb  true) (tt 32))]
abbrev c_spec_SameNetwork_2 : List GOp := [oo 4 (.mv (cb  false))]
abbrev c_spec_SameNetwork_3 : List GOp := [oo 5 (.mv (ci 0))]
abbrev c_spec_SameNetwork_4 : List GOp := [oo 34 (.mv (tt 5)), oo 35 (.fa 3 (tt 2)), oo 36 (.ld (tt 35)), oo 37 (.len (tt 36)), oo 38 (.bin .lss (tt 34) (tt 37))]
abbrev c_spec_SameNetwork_5 : List DOp := [dl 0 (oo 41 (.fa 3 (tt 2))), dl 1 (oo 42 (.ld (tt 41))), dl 2 (oo 43 (.mv (tt 5))), dl 3 (oo 44 (.ia 3 (tt 42) (tt 43))), dl 4 (oo 45 (.ldn 3 (tt 44))), dl 5 (oo 46 (.fa 3 (tt 3))), dl 6 (oo 47 (.ld (tt 46))), dl 7 (oo 48 (.mv (tt 5))), dl 8 (oo 49 (.ia 3 (tt 47) (tt 48))), dl 9 (oo 50 (.ldn 3 (tt 49))), dl 10 (oo 51 (.eqa true 3 (tt 45) (tt 50)))]
abbrev c_spec_SameNetwork_6 : List GOp := [oo 4 (.mv (cb  false))]
abbrev c_spec_SameNetwork_7 : List GOp := [oo 39 (.mv (tt 5)), oo 40 (.bin .add (tt 39) (ci 1)), oo 5 (.mv (tt 40))]
abbrev c_spec_SameNetwork_l0 : GCode := .seq (.seq (.reg c_spec_SameNetwork_4) (.cond (tt 38) (.skip) (.exit 0))) (.seq (.blk 1 (.seq (.dreg c_spec_SameNetwork_5) (.cond (tt 51) (.seq (.reg c_spec_SameNetwork_6) (.ret)) (.skip)))) (.reg c_spec_SameNetwork_7))
abbrev c_spec_SameNetwork_9 : List GOp := [oo 4 (.mv (cb  true))]
abbrev c_spec_SameNetwork : GCode := .seq (.reg c_spec_SameNetwork_0) (.seq (.seq (.reg c_spec_SameNetwork_1) (.cond (tt 33) (.seq (.reg c_spec_SameNetwork_2) (.ret)) (.skip))) (.seq (.seq (.reg c_spec_SameNetwork_3) (.blk 0 (.loop c_spec_SameNetwork_l0))) (.seq (.reg c_spec_SameNetwork_9) (.ret))))
theorem c_spec_SameNetwork_d : decFn Try.prog Try.f20 = some (52, [.t 4], c_spec_SameNetwork) := by kernel_rfl
theorem c_spec_SameNetwork_i {args : List Value} {G : GH} {K : Value → GH → Prop} (hn : args.length ≤ 52) (h : gW Try.prog c_spec_SameNetwork (RetK [.t 4] K) (T0 args) G) : GC Try.prog 20 args G K := GC_intro mixed Try.func20 c_spec_SameNetwork_d hn h
/-! loop.example/g01005/spec.SameTable (2 params, 6 temporaries) : 0=a 1=b 2=a 3=b
-/
abbrev c_spec_SameTable_0 : List GOp := [oo 2 (.bx (tt 0)), oo 3 (.bx (tt 1)), oo 4 (.mv (cb  false))]
abbrev c_spec_SameTable_1 : List GOp := [oo 5 (.call (ff 67) [tt 2, tt 3]), oo 4 (.mv (tt 5))]
abbrev c_spec_SameTable : GCode := .seq (.reg c_spec_SameTable_0) (.seq (.reg c_spec_SameTable_1) (.ret))
theorem c_spec_SameTable_d : decFn Try.prog Try.f25 = some (6, [.t 4], c_spec_SameTable) := by kernel_rfl
theorem c_spec_SameTable_i {args : List Value} {G : GH} {K : Value → GH → Prop} (hn : args.length ≤ 6) (h : gW Try.prog c_spec_SameTable (RetK [.t 4] K) (T0 args) G) : GC Try.prog 25 args G K := GC_intro mixed Try.func25 c_spec_SameTable_d hn h
/-! loop.example/g01005/spec.SpreadOf (1 params, 40 temporaries) : 0=x 1=x 4=low 5=high 6=i
-/
abbrev c_spec_SpreadOf_0 : List GOp := [oo 2 (.mv (ci 0)), oo 3 (.mv (ci 0))]
abbrev c_spec_SpreadOf_1 : List GOp := [oo 7 (.mv (tt 0)), oo 8 (.len (tt 7)), oo 9 (.bin .gtr (tt 8) (ci 12))]
abbrev c_spec_SpreadOf_2 : List GOp := [oo 2 (.mv (ci 0)), oo 3 (.mv (ci 2))]
abbrev c_spec_SpreadOf_3 : List GOp := [oo 4 (.mv (ci 1000000))]
abbrev c_spec_SpreadOf_4 : List GOp := [oo 5 (.mv (ci (-1000000)))]
abbrev c_spec_SpreadOf_5 : List GOp := [oo 6 (.mv (ci 0))]
abbrev c_spec_SpreadOf_6 : List GOp := [oo 10 (.mv (tt 6)), oo 11 (.mv (tt 0)), oo 12 (.len (tt 11)), oo 13 (.bin .lss (tt 10) (tt 12))]
abbrev c_spec_SpreadOf_7 : List GOp := [oo 16 (.mv (tt 0)), oo 17 (.mv (tt 6)), oo 18 (.ia 1 (tt 16) (tt 17)), oo 19 (.ld (tt 18)), oo 20 (.call (ff 53) [tt 19, (ci (-1000000)), (ci 1000000)]), oo 21 (.un .not (tt 20))]
abbrev c_spec_SpreadOf_8 : List GOp := [oo 2 (.mv (ci 0)), oo 3 (.mv (ci 2))]
abbrev c_spec_SpreadOf_9 : List GOp := [oo 22 (.mv (tt 4)), oo 23 (.mv (tt 0)), oo 24 (.mv (tt 6)), oo 25 (.ia 1 (tt 23) (tt 24)), oo 26 (.ld (tt 25)), oo 27 (.call (ff 54) [tt 22, tt 26]), oo 4 (.mv (tt 27))]
abbrev c_spec_SpreadOf_10 : List GOp := [oo 28 (.mv (tt 5)), oo 29 (.mv (tt 0)), oo 30 (.mv (tt 6)), oo 31 (.ia 1 (tt 29) (tt 30)), oo 32 (.ld (tt 31)), oo 33 (.call (ff 55) [tt 28, tt 32]), oo 5 (.mv (tt 33))]
abbrev c_spec_SpreadOf_11 : List GOp := [oo 14 (.mv (tt 6)), oo 15 (.bin .add (tt 14) (ci 1)), oo 6 (.mv (tt 15))]
abbrev c_spec_SpreadOf_l0 : GCode := .seq (.seq (.reg c_spec_SpreadOf_6) (.cond (tt 13) (.skip) (.exit 0))) (.seq (.blk 1 (.seq (.seq (.reg c_spec_SpreadOf_7) (.cond (tt 21) (.seq (.reg c_spec_SpreadOf_8) (.ret)) (.skip))) (.seq (.reg c_spec_SpreadOf_9) (.reg c_spec_SpreadOf_10)))) (.reg c_spec_SpreadOf_11))
abbrev c_spec_SpreadOf_13 : List GOp := [oo 34 (.mv (tt 0)), oo 35 (.len (tt 34)), oo 36 (.bin .eql (tt 35) (ci 0))]
abbrev c_spec_SpreadOf_14 : List GOp := [oo 2 (.mv (ci 0)), oo 3 (.mv (ci 0))]
abbrev c_spec_SpreadOf_15 : List GOp := [oo 37 (.mv (tt 5)), oo 38 (.mv (tt 4)), oo 39 (.bin .sub (tt 37) (tt 38)), oo 2 (.mv (tt 39)), oo 3 (.mv (ci 0))]
abbrev c_spec_SpreadOf : GCode := .seq (.reg c_spec_SpreadOf_0) (.seq (.seq (.reg c_spec_SpreadOf_1) (.cond (tt 9) (.seq (.reg c_spec_SpreadOf_2) (.ret)) (.skip))) (.seq (.reg c_spec_SpreadOf_3) (.seq (.reg c_spec_SpreadOf_4) (.seq (.seq (.reg c_spec_SpreadOf_5) (.blk 0 (.loop c_spec_SpreadOf_l0))) (.seq (.seq (.reg c_spec_SpreadOf_13) (.cond (tt 36) (.seq (.reg c_spec_SpreadOf_14) (.ret)) (.skip))) (.seq (.reg c_spec_SpreadOf_15) (.ret)))))))
theorem c_spec_SpreadOf_d : decFn Try.prog Try.f15 = some (40, [.t 2, .t 3], c_spec_SpreadOf) := by kernel_rfl
theorem c_spec_SpreadOf_i {args : List Value} {G : GH} {K : Value → GH → Prop} (hn : args.length ≤ 40) (h : gW Try.prog c_spec_SpreadOf (RetK [.t 2, .t 3] K) (T0 args) G) : GC Try.prog 15 args G K := GC_intro mixed Try.func15 c_spec_SpreadOf_d hn h
/-! loop.example/g01005/spec.ValidNetwork (1 params, 4 temporaries) : 0=n 1=n
-/
abbrev c_spec_ValidNetwork_0 : List GOp := [oo 1 (.bx (tt 0)), oo 2 (.mv (cb  false))]
abbrev c_spec_ValidNetwork_1 : List GOp := [oo 3 (.call (ff 72) [tt 1]), oo 2 (.mv (tt 3))]
abbrev c_spec_ValidNetwork : GCode := .seq (.reg c_spec_ValidNetwork_0) (.seq (.reg c_spec_ValidNetwork_1) (.ret))
theorem c_spec_ValidNetwork_d : decFn Try.prog Try.f29 = some (4, [.t 2], c_spec_ValidNetwork) := by kernel_rfl
theorem c_spec_ValidNetwork_i {args : List Value} {G : GH} {K : Value → GH → Prop} (hn : args.length ≤ 4) (h : gW Try.prog c_spec_ValidNetwork (RetK [.t 2] K) (T0 args) G) : GC Try.prog 29 args G K := GC_intro mixed Try.func29 c_spec_ValidNetwork_d hn h
/-! loop.example/g01005/spec.ValidTable (1 params, 4 temporaries) : 0=t 1=t
-/
abbrev c_spec_ValidTable_0 : List GOp := [oo 1 (.bx (tt 0)), oo 2 (.mv (cb  false))]
abbrev c_spec_ValidTable_1 : List GOp := [oo 3 (.call (ff 77) [tt 1]), oo 2 (.mv (tt 3))]
abbrev c_spec_ValidTable : GCode := .seq (.reg c_spec_ValidTable_0) (.seq (.reg c_spec_ValidTable_1) (.ret))
theorem c_spec_ValidTable_d : decFn Try.prog Try.f33 = some (4, [.t 2], c_spec_ValidTable) := by kernel_rfl
theorem c_spec_ValidTable_i {args : List Value} {G : GH} {K : Value → GH → Prop} (hn : args.length ≤ 4) (h : gW Try.prog c_spec_ValidTable (RetK [.t 2] K) (T0 args) G) : GC Try.prog 33 args G K := GC_intro mixed Try.func33 c_spec_ValidTable_d hn h
/-! loop.example/g01005/spec.ValidTables (1 params, 5 temporaries) : 0=list 1=list
-/
abbrev c_spec_ValidTables_0 : List GOp := [oo 2 (.mv (cb  false))]
abbrev c_spec_ValidTables_1 : List GOp := [oo 3 (.mv (tt 0)), oo 4 (.call (ff 87) [tt 3]), oo 2 (.mv (tt 4))]
abbrev c_spec_ValidTables : GCode := .seq (.reg c_spec_ValidTables_0) (.seq (.reg c_spec_ValidTables_1) (.ret))
theorem c_spec_ValidTables_d : decFn Try.prog Try.f42 = some (5, [.t 2], c_spec_ValidTables) := by kernel_rfl
theorem c_spec_ValidTables_i {args : List Value} {G : GH} {K : Value → GH → Prop} (hn : args.length ≤ 5) (h : gW Try.prog c_spec_ValidTables (RetK [.t 2] K) (T0 args) G) : GC Try.prog 42 args G K := GC_intro mixed Try.func42 c_spec_ValidTables_d hn h
/-! loop.example/g01005/spec.WeightedMean (2 params, 56 temporaries) : 0=g 1=x 2=g 3=x 6=code 7=sum 8=all 9=i 10=e
-/
abbrev c_spec_WeightedMean_0 : List GOp := [oo 2 (.bx (tt 0)), oo 4 (.mv (ci 0)), oo 5 (.mv (ci 0))]
abbrev c_spec_WeightedMean_1 : List GOp := [oo 11 (.mv (tt 1)), oo 12 (.call (ff 91) [tt 2, tt 11]), oo 6 (.mv (tt 12))]
abbrev c_spec_WeightedMean_2 : List GOp := [oo 13 (.mv (tt 6)), oo 14 (.bin .neq (tt 13) (ci 0))]
abbrev c_spec_WeightedMean_3 : List GOp := [oo 15 (.mv (tt 6)), oo 4 (.mv (ci 0)), oo 5 (.mv (tt 15))]
abbrev c_spec_WeightedMean_4 : List GOp := [oo 16 (.fa 1 (tt 2)), oo 17 (.ld (tt 16)), oo 18 (.len (tt 17)), oo 19 (.bin .eql (tt 18) (ci 0))]
abbrev c_spec_WeightedMean_5 : List GOp := [oo 4 (.mv (ci 0)), oo 5 (.mv (ci 6))]
abbrev c_spec_WeightedMean_6 : List GOp := [oo 7 (.mv (ci 0))]
abbrev c_spec_WeightedMean_7 : List GOp := [oo 8 (.mv (ci 0))]
abbrev c_spec_WeightedMean_8 : List GOp := [oo 9 (.mv (ci 0))]
abbrev c_spec_WeightedMean_9 : List GOp := [oo 20 (.mv (tt 9)), oo 21 (.fa 1 (tt 2)), oo 22 (.ld (tt 21)), oo 23 (.len (tt 22)), oo 24 (.bin .lss (tt 20) (tt 23))]
abbrev c_spec_WeightedMean_10 : List GOp := [oo 27 (.fa 1 (tt 2)), oo 28 (.ld (tt 27)), oo 29 (.mv (tt 9)), oo 30 (.ia 3 (tt 28) (tt 29)), oo 31 (.ldn 3 (tt 30)), oo 10 (.al [.int .i64 0, .int .i64 0, .int .i64 0]), on (.st 3 (tt 10) (tt 31))]
abbrev c_spec_WeightedMean_11 : List DOp := [dl 0 (oo 32 (.mv (tt 7))), dl 1 (oo 33 (.fa 2 (tt 10))), dl 2 (oo 34 (.ld (tt 33))), dl 3 (oo 35 (.mv (tt 1))), dl 4 (oo 36 (.fa 0 (tt 10))), dl 5 (oo 37 (.ld (tt 36))), dl 6 (oo 38 (.ia 1 (tt 35) (tt 37))), dl 7 (oo 39 (.ld (tt 38))), dl 8 (oo 40 (.mv (tt 1))), dl 9 (oo 41 (.fa 1 (tt 10))), dl 10 (oo 42 (.ld (tt 41))), dl 11 (oo 43 (.ia 1 (tt 40) (tt 42))), dl 12 (oo 44 (.ld (tt 43))), dl 13 (oo 45 (.bin .add (tt 39) (tt 44))), dl 14 (oo 46 (.bin .mul (tt 34) (tt 45))), dl 15 (oo 47 (.bin .add (tt 32) (tt 46))), dl 16 (oo 7 (.mv (tt 47)))]
abbrev c_spec_WeightedMean_12 : List GOp := [oo 48 (.mv (tt 8)), oo 49 (.fa 2 (tt 10)), oo 50 (.ld (tt 49)), oo 51 (.bin .mul (ci 2) (tt 50)), oo 52 (.bin .add (tt 48) (tt 51)), oo 8 (.mv (tt 52))]
abbrev c_spec_WeightedMean_13 : List GOp := [oo 25 (.mv (tt 9)), oo 26 (.bin .add (tt 25) (ci 1)), oo 9 (.mv (tt 26))]
abbrev c_spec_WeightedMean_l0 : GCode := .seq (.seq (.reg c_spec_WeightedMean_9) (.cond (tt 24) (.skip) (.exit 0))) (.seq (.blk 1 (.seq (.reg c_spec_WeightedMean_10) (.seq (.dreg c_spec_WeightedMean_11) (.reg c_spec_WeightedMean_12)))) (.reg c_spec_WeightedMean_13))
abbrev c_spec_WeightedMean_15 : List GOp := [oo 53 (.mv (tt 7)), oo 54 (.mv (tt 8)), oo 55 (.call (ff 92) [tt 53, tt 54]), oo 4 (.mv (tt 55)), oo 5 (.mv (ci 0))]
abbrev c_spec_WeightedMean : GCode := .seq (.reg c_spec_WeightedMean_0) (.seq (.reg c_spec_WeightedMean_1) (.seq (.seq (.reg c_spec_WeightedMean_2) (.cond (tt 14) (.seq (.reg c_spec_WeightedMean_3) (.ret)) (.skip))) (.seq (.seq (.reg c_spec_WeightedMean_4) (.cond (tt 19) (.seq (.reg c_spec_WeightedMean_5) (.ret)) (.skip))) (.seq (.reg c_spec_WeightedMean_6) (.seq (.reg c_spec_WeightedMean_7) (.seq (.seq (.reg c_spec_WeightedMean_8) (.blk 0 (.loop c_spec_WeightedMean_l0))) (.seq (.reg c_spec_WeightedMean_15) (.ret))))))))
theorem c_spec_WeightedMean_d : decFn Try.prog Try.f47 = some (56, [.t 4, .t 5], c_spec_WeightedMean) := by kernel_rfl
theorem c_spec_WeightedMean_i {args : List Value} {G : GH} {K : Value → GH → Prop} (hn : args.length ≤ 56) (h : gW Try.prog c_spec_WeightedMean (RetK [.t 4, .t 5] K) (T0 args) G) : GC Try.prog 47 args G K := GC_intro mixed Try.func47 c_spec_WeightedMean_d hn h
/-! loop.example/g01005/spec.l00Has (2 params, 18 temporaries) : 0=list 1=n 2=list 3=n 5=i
-/
abbrev c_spec_l00Has_0 : List GOp := [oo 4 (.mv (cb  false))]
abbrev c_spec_l00Has_1 : List GOp := [oo 5 (.mv (ci 0))]
abbrev c_spec_l00Has_2 : List GOp := [oo 6 (.mv (tt 5)), oo 7 (.mv (tt 0)), oo 8 (.len (tt 7)), oo 9 (.bin .lss (tt 6) (tt 8))]
abbrev c_spec_l00Has_3 : List GOp := [oo 12 (.mv (tt 0)), oo 13 (.mv (tt 5)), oo 14 (.ia 1 (tt 12) (tt 13)), oo 15 (.ld (tt 14)), oo 16 (.mv (tt 1)), oo 17 (.bin .eql (tt 15) (tt 16))]
abbrev c_spec_l00Has_4 : List GOp := [oo 4 (.mv (cb  true))]
abbrev c_spec_l00Has_5 : List GOp := [oo 10 (.mv (tt 5)), oo 11 (.bin .add (tt 10) (ci 1)), oo 5 (.mv (tt 11))]
abbrev c_spec_l00Has_l0 : GCode := .seq (.seq (.reg c_spec_l00Has_2) (.cond (tt 9) (.skip) (.exit 0))) (.seq (.blk 1 (.seq (.reg c_spec_l00Has_3) (.cond (tt 17) (.seq (.reg c_spec_l00Has_4) (.ret)) (.skip)))) (.reg c_spec_l00Has_5))
abbrev c_spec_l00Has_7 : List GOp := [oo 4 (.mv (cb  false))]
abbrev c_spec_l00Has : GCode := .seq (.reg c_spec_l00Has_0) (.seq (.seq (.reg c_spec_l00Has_1) (.blk 0 (.loop c_spec_l00Has_l0))) (.seq (.reg c_spec_l00Has_7) (.ret)))
theorem c_spec_l00Has_d : decFn Try.prog Try.f109 = some (18, [.t 4], c_spec_l00Has) := by kernel_rfl
theorem c_spec_l00Has_i {args : List Value} {G : GH} {K : Value → GH → Prop} (hn : args.length ≤ 18) (h : gW Try.prog c_spec_l00Has (RetK [.t 4] K) (T0 args) G) : GC Try.prog 109 args G K := GC_intro mixed Try.func109 c_spec_l00Has_d hn h
/-! loop.example/g01005/spec.l00In (3 params, 15 temporaries) : 0=n 1=low 2=high 3=n 4=low 5=high
-/
abbrev c_spec_l00In_0 : List GOp := [oo 6 (.mv (cb  false))]
abbrev c_spec_l00In_1 : List GOp := [oo 7 (.mv (tt 0)), oo 8 (.mv (tt 1)), oo 9 (.bin .geq (tt 7) (tt 8)), oo 10 (.mv (tt 9)), og 11 10 true (.mv (tt 0)), og 12 10 true (.mv (tt 2)), og 13 10 true (.bin .leq (tt 11) (tt 12)), oo 14 (.pick (tt 10) (tt 13) (cb  false)), oo 6 (.mv (tt 14))]
abbrev c_spec_l00In : GCode := .seq (.reg c_spec_l00In_0) (.seq (.reg c_spec_l00In_1) (.ret))
theorem c_spec_l00In_d : decFn Try.prog Try.f53 = some (15, [.t 6], c_spec_l00In) := by kernel_rfl
theorem c_spec_l00In_i {args : List Value} {G : GH} {K : Value → GH → Prop} (hn : args.length ≤ 15) (h : gW Try.prog c_spec_l00In (RetK [.t 6] K) (T0 args) G) : GC Try.prog 53 args G K := GC_intro mixed Try.func53 c_spec_l00In_d hn h
/-! loop.example/g01005/spec.l00Max (2 params, 10 temporaries) : 0=a 1=b 2=a 3=b
-/
abbrev c_spec_l00Max_0 : List GOp := [oo 4 (.mv (ci 0))]
abbrev c_spec_l00Max_1 : List GOp := [oo 5 (.mv (tt 0)), oo 6 (.mv (tt 1)), oo 7 (.bin .gtr (tt 5) (tt 6))]
abbrev c_spec_l00Max_2 : List GOp := [oo 8 (.mv (tt 0)), oo 4 (.mv (tt 8))]
abbrev c_spec_l00Max_3 : List GOp := [oo 9 (.mv (tt 1)), oo 4 (.mv (tt 9))]
abbrev c_spec_l00Max : GCode := .seq (.reg c_spec_l00Max_0) (.seq (.seq (.reg c_spec_l00Max_1) (.cond (tt 7) (.seq (.reg c_spec_l00Max_2) (.ret)) (.skip))) (.seq (.reg c_spec_l00Max_3) (.ret)))
theorem c_spec_l00Max_d : decFn Try.prog Try.f55 = some (10, [.t 4], c_spec_l00Max) := by kernel_rfl
theorem c_spec_l00Max_i {args : List Value} {G : GH} {K : Value → GH → Prop} (hn : args.length ≤ 10) (h : gW Try.prog c_spec_l00Max (RetK [.t 4] K) (T0 args) G) : GC Try.prog 55 args G K := GC_intro mixed Try.func55 c_spec_l00Max_d hn h
/-! loop.example/g01005/spec.l00Min (2 params, 10 temporaries) : 0=a 1=b 2=a 3=b
-/
abbrev c_spec_l00Min_0 : List GOp := [oo 4 (.mv (ci 0))]
abbrev c_spec_l00Min_1 : List GOp := [oo 5 (.mv (tt 0)), oo 6 (.mv (tt 1)), oo 7 (.bin .lss (tt 5) (tt 6))]
abbrev c_spec_l00Min_2 : List GOp := [oo 8 (.mv (tt 0)), oo 4 (.mv (tt 8))]
abbrev c_spec_l00Min_3 : List GOp := [oo 9 (.mv (tt 1)), oo 4 (.mv (tt 9))]
abbrev c_spec_l00Min : GCode := .seq (.reg c_spec_l00Min_0) (.seq (.seq (.reg c_spec_l00Min_1) (.cond (tt 7) (.seq (.reg c_spec_l00Min_2) (.ret)) (.skip))) (.seq (.reg c_spec_l00Min_3) (.ret)))
theorem c_spec_l00Min_d : decFn Try.prog Try.f54 = some (10, [.t 4], c_spec_l00Min) := by kernel_rfl
theorem c_spec_l00Min_i {args : List Value} {G : GH} {K : Value → GH → Prop} (hn : args.length ≤ 10) (h : gW Try.prog c_spec_l00Min (RetK [.t 4] K) (T0 args) G) : GC Try.prog 54 args G K := GC_intro mixed Try.func54 c_spec_l00Min_d hn h
/-! loop.example/g01005/spec.l00Rises (3 params, 38 temporaries) : 0=list 1=low 2=high 3=list 4=low 5=high 7=i
-/
abbrev c_spec_l00Rises_0 : List GOp := [oo 6 (.mv (cb  false))]
abbrev c_spec_l00Rises_1 : List GOp := [oo 7 (.mv (ci 0))]
abbrev c_spec_l00Rises_2 : List GOp := [oo 8 (.mv (tt 7)), oo 9 (.mv (tt 0)), oo 10 (.len (tt 9)), oo 11 (.bin .lss (tt 8) (tt 10))]
abbrev c_spec_l00Rises_3 : List DOp := [dl 0 (oo 14 (.mv (tt 0))), dl 1 (oo 15 (.mv (tt 7))), dl 2 (oo 16 (.ia 1 (tt 14) (tt 15))), dl 3 (oo 17 (.ld (tt 16))), dl 4 (oo 18 (.mv (tt 1))), dl 5 (oo 19 (.mv (tt 2))), dh 6 [] (oo 20 (.call (ff 53) [tt 17, tt 18, tt 19])), dl 7 (oo 21 (.un .not (tt 20))), dl 8 (oo 22 (.mv (tt 21))), dl 9 (og 23 22 false (.mv (tt 7))), dl 10 (og 24 22 false (.bin .gtr (tt 23) (ci 0))), dl 11 (og 25 22 false (.mv (tt 24))), dl 12 (og 26 25 true (.mv (tt 0))), dl 13 (og 27 25 true (.mv (tt 7))), dl 14 (og 28 25 true (.bin .sub (tt 27) (ci 1))), dl 15 (og 29 25 true (.ia 1 (tt 26) (tt 28))), dl 16 (og 30 25 true (.ld (tt 29))), dl 17 (og 31 25 true (.mv (tt 0))), dl 18 (og 32 25 true (.mv (tt 7))), dl 19 (og 33 25 true (.ia 1 (tt 31) (tt 32))), dl 20 (og 34 25 true (.ld (tt 33))), dl 21 (og 35 25 true (.bin .geq (tt 30) (tt 34))), dl 22 (og 36 22 false (.pick (tt 25) (tt 35) (cb  false))), dl 23 (oo 37 (.pick (tt 22) (cb  true) (tt 36)))]
abbrev c_spec_l00Rises_4 : List GOp := [oo 6 (.mv (cb  false))]
abbrev c_spec_l00Rises_5 : List GOp := [oo 12 (.mv (tt 7)), oo 13 (.bin .add (tt 12) (ci 1)), oo 7 (.mv (tt 13))]
abbrev c_spec_l00Rises_l0 : GCode := .seq (.seq (.reg c_spec_l00Rises_2) (.cond (tt 11) (.skip) (.exit 0))) (.seq (.blk 1 (.seq (.dreg c_spec_l00Rises_3) (.cond (tt 37) (.seq (.reg c_spec_l00Rises_4) (.ret)) (.skip)))) (.reg c_spec_l00Rises_5))
abbrev c_spec_l00Rises_7 : List GOp := [oo 6 (.mv (cb  true))]
abbrev c_spec_l00Rises : GCode := .seq (.reg c_spec_l00Rises_0) (.seq (.seq (.reg c_spec_l00Rises_1) (.blk 0 (.loop c_spec_l00Rises_l0))) (.seq (.reg c_spec_l00Rises_7) (.ret)))
theorem c_spec_l00Rises_d : decFn Try.prog Try.f106 = some (38, [.t 6], c_spec_l00Rises) := by kernel_rfl
theorem c_spec_l00Rises_i {args : List Value} {G : GH} {K : Value → GH → Prop} (hn : args.length ≤ 38) (h : gW Try.prog c_spec_l00Rises (RetK [.t 6] K) (T0 args) G) : GC Try.prog 106 args G K := GC_intro mixed Try.func106 c_spec_l00Rises_d hn h
/-! loop.example/g01005/spec.l00Same (2 params, 26 temporaries) : 0=a 1=b 2=a 3=b 5=i
-/
abbrev c_spec_l00Same_0 : List GOp := [oo 4 (.mv (cb  false))]
abbrev c_spec_l00Same_1 : List GOp := [oo 6 (.mv (tt 0)), oo 7 (.len (tt 6)), oo 8 (.mv (tt 1)), oo 9 (.len (tt 8)), oo 10 (.bin .neq (tt 7) (tt 9))]
abbrev c_spec_l00Same_2 : List GOp := [oo 4 (.mv (cb  false))]
abbrev c_spec_l00Same_3 : List GOp := [oo 5 (.mv (ci 0))]
abbrev c_spec_l00Same_4 : List GOp := [oo 11 (.mv (tt 5)), oo 12 (.mv (tt 0)), oo 13 (.len (tt 12)), oo 14 (.bin .lss (tt 11) (tt 13))]
abbrev c_spec_l00Same_5 : List DOp := [dl 0 (oo 17 (.mv (tt 0))), dl 1 (oo 18 (.mv (tt 5))), dl 2 (oo 19 (.ia 1 (tt 17) (tt 18))), dl 3 (oo 20 (.ld (tt 19))), dl 4 (oo 21 (.mv (tt 1))), dl 5 (oo 22 (.mv (tt 5))), dl 6 (oo 23 (.ia 1 (tt 21) (tt 22))), dl 7 (oo 24 (.ld (tt 23))), dl 8 (oo 25 (.bin .neq (tt 20) (tt 24)))]
abbrev c_spec_l00Same_6 : List GOp := [oo 4 (.mv (cb  false))]
abbrev c_spec_l00Same_7 : List GOp := [oo 15 (.mv (tt 5)), oo 16 (.bin .add (tt 15) (ci 1)), oo 5 (.mv (tt 16))]
abbrev c_spec_l00Same_l0 : GCode := .seq (.seq (.reg c_spec_l00Same_4) (.cond (tt 14) (.skip) (.exit 0))) (.seq (.blk 1 (.seq (.dreg c_spec_l00Same_5) (.cond (tt 25) (.seq (.reg c_spec_l00Same_6) (.ret)) (.skip)))) (.reg c_spec_l00Same_7))
abbrev c_spec_l00Same_9 : List GOp := [oo 4 (.mv (cb  true))]
abbrev c_spec_l00Same : GCode := .seq (.reg c_spec_l00Same_0) (.seq (.seq (.reg c_spec_l00Same_1) (.cond (tt 10) (.seq (.reg c_spec_l00Same_2) (.ret)) (.skip))) (.seq (.seq (.reg c_spec_l00Same_3) (.blk 0 (.loop c_spec_l00Same_l0))) (.seq (.reg c_spec_l00Same_9) (.ret))))
theorem c_spec_l00Same_d : decFn Try.prog Try.f102 = some (26, [.t 4], c_spec_l00Same) := by kernel_rfl
theorem c_spec_l00Same_i {args : List Value} {G : GH} {K : Value → GH → Prop} (hn : args.length ≤ 26) (h : gW Try.prog c_spec_l00Same (RetK [.t 4] K) (T0 args) G) : GC Try.prog 102 args G K := GC_intro mixed Try.func102 c_spec_l00Same_d hn h
/-! loop.example/g01005/spec.l01Div (2 params, 28 temporaries) : 0=a 1=b 2=a 3=b
-/
abbrev c_spec_l01Div_0 : List GOp := [oo 4 (.mv (ci 0))]
abbrev c_spec_l01Div_1 : List GOp := [oo 5 (.mv (tt 1)), oo 6 (.bin .lss (tt 5) (ci 0))]
abbrev c_spec_l01Div_2 : List GOp := [oo 7 (.mv (tt 0)), oo 8 (.un .neg (tt 7)), oo 0 (.mv (tt 8))]
abbrev c_spec_l01Div_3 : List GOp := [oo 9 (.mv (tt 1)), oo 10 (.un .neg (tt 9)), oo 1 (.mv (tt 10))]
abbrev c_spec_l01Div_4 : List GOp := [oo 11 (.mv (tt 0)), oo 12 (.bin .lss (tt 11) (ci 0))]
abbrev c_spec_l01Div_5 : List GOp := [oo 13 (.mv (tt 1)), oo 14 (.mv (tt 0)), oo 15 (.bin .mul (ci 2) (tt 14)), oo 16 (.bin .sub (tt 13) (tt 15)), oo 17 (.mv (tt 1)), oo 18 (.bin .mul (ci 2) (tt 17)), oo 19 (.bin .quo (tt 16) (tt 18)), oo 20 (.un .neg (tt 19)), oo 4 (.mv (tt 20))]
abbrev c_spec_l01Div_6 : List GOp := [oo 21 (.mv (tt 0)), oo 22 (.bin .mul (ci 2) (tt 21)), oo 23 (.mv (tt 1)), oo 24 (.bin .add (tt 22) (tt 23)), oo 25 (.mv (tt 1)), oo 26 (.bin .mul (ci 2) (tt 25)), oo 27 (.bin .quo (tt 24) (tt 26)), oo 4 (.mv (tt 27))]
abbrev c_spec_l01Div : GCode := .seq (.reg c_spec_l01Div_0) (.seq (.seq (.reg c_spec_l01Div_1) (.cond (tt 6) (.seq (.reg c_spec_l01Div_2) (.reg c_spec_l01Div_3)) (.skip))) (.seq (.seq (.reg c_spec_l01Div_4) (.cond (tt 12) (.seq (.reg c_spec_l01Div_5) (.ret)) (.skip))) (.seq (.reg c_spec_l01Div_6) (.ret))))
theorem c_spec_l01Div_d : decFn Try.prog Try.f92 = some (28, [.t 4], c_spec_l01Div) := by kernel_rfl
theorem c_spec_l01Div_i {args : List Value} {G : GH} {K : Value → GH → Prop} (hn : args.length ≤ 28) (h : gW Try.prog c_spec_l01Div (RetK [.t 4] K) (T0 args) G) : GC Try.prog 92 args G K := GC_intro mixed Try.func92 c_spec_l01Div_d hn h
/-! loop.example/g01005/spec.l04SameRows (2 params, 27 temporaries) : 0=a 1=b 2=a 3=b 5=i
-/
abbrev c_spec_l04SameRows_0 : List GOp := [oo 4 (.mv (cb  false))]
abbrev c_spec_l04SameRows_1 : List GOp := [oo 6 (.mv (tt 0)), oo 7 (.len (tt 6)), oo 8 (.mv (tt 1)), oo 9 (.len (tt 8)), oo 10 (.bin .neq (tt 7) (tt 9))]
abbrev c_spec_l04SameRows_2 : List GOp := [oo 4 (.mv (cb  false))]
abbrev c_spec_l04SameRows_3 : List GOp := [oo 5 (.mv (ci 0))]
abbrev c_spec_l04SameRows_4 : List GOp := [oo 11 (.mv (tt 5)), oo 12 (.mv (tt 0)), oo 13 (.len (tt 12)), oo 14 (.bin .lss (tt 11) (tt 13))]
abbrev c_spec_l04SameRows_5 : List DOp := [dl 0 (oo 17 (.mv (tt 0))), dl 1 (oo 18 (.mv (tt 5))), dl 2 (oo 19 (.ia 1 (tt 17) (tt 18))), dl 3 (oo 20 (.ld (tt 19))), dl 4 (oo 21 (.mv (tt 1))), dl 5 (oo 22 (.mv (tt 5))), dl 6 (oo 23 (.ia 1 (tt 21) (tt 22))), dl 7 (oo 24 (.ld (tt 23))), dh 8 [] (oo 25 (.call (ff 102) [tt 20, tt 24])), dl 9 (oo 26 (.un .not (tt 25)))]
abbrev c_spec_l04SameRows_6 : List GOp := [oo 4 (.mv (cb  false))]
abbrev c_spec_l04SameRows_7 : List GOp := [oo 15 (.mv (tt 5)), oo 16 (.bin .add (tt 15) (ci 1)), oo 5 (.mv (tt 16))]
abbrev c_spec_l04SameRows_l0 : GCode := .seq (.seq (.reg c_spec_l04SameRows_4) (.cond (tt 14) (.skip) (.exit 0))) (.seq (.blk 1 (.seq (.dreg c_spec_l04SameRows_5) (.cond (tt 26) (.seq (.reg c_spec_l04SameRows_6) (.ret)) (.skip)))) (.reg c_spec_l04SameRows_7))
abbrev c_spec_l04SameRows_9 : List GOp := [oo 4 (.mv (cb  true))]
abbrev c_spec_l04SameRows : GCode := .seq (.reg c_spec_l04SameRows_0) (.seq (.seq (.reg c_spec_l04SameRows_1) (.cond (tt 10) (.seq (.reg c_spec_l04SameRows_2) (.ret)) (.skip))) (.seq (.seq (.reg c_spec_l04SameRows_3) (.blk 0 (.loop c_spec_l04SameRows_l0))) (.seq (.reg c_spec_l04SameRows_9) (.ret))))
theorem c_spec_l04SameRows_d : decFn Try.prog Try.f103 = some (27, [.t 4], c_spec_l04SameRows) := by kernel_rfl
theorem c_spec_l04SameRows_i {args : List Value} {G : GH} {K : Value → GH → Prop} (hn : args.length ≤ 27) (h : gW Try.prog c_spec_l04SameRows (RetK [.t 4] K) (T0 args) G) : GC Try.prog 103 args G K := GC_intro mixed Try.func103 c_spec_l04SameRows_d hn h
/-! loop.example/g01005/spec.l16Ask (2 params, 12 temporaries) : 0=g 1=x 2=g 3=x
-/
abbrev c_spec_l16Ask_0 : List GOp := [oo 4 (.mv (ci 0))]
abbrev c_spec_l16Ask_1 : List GOp := [oo 5 (.mv (tt 0)), oo 6 (.call (ff 112) [tt 5]), oo 7 (.un .not (tt 6))]
abbrev c_spec_l16Ask_2 : List GOp := [oo 4 (.mv (ci 1))]
abbrev c_spec_l16Ask_3 : List GOp := [oo 8 (.mv (tt 0)), oo 9 (.mv (tt 1)), oo 10 (.call (ff 113) [tt 8, tt 9]), oo 11 (.un .not (tt 10))]
abbrev c_spec_l16Ask_4 : List GOp := [oo 4 (.mv (ci 2))]
abbrev c_spec_l16Ask_5 : List GOp := [oo 4 (.mv (ci 0))]
abbrev c_spec_l16Ask : GCode := .seq (.reg c_spec_l16Ask_0) (.seq (.seq (.reg c_spec_l16Ask_1) (.cond (tt 7) (.seq (.reg c_spec_l16Ask_2) (.ret)) (.skip))) (.seq (.seq (.reg c_spec_l16Ask_3) (.cond (tt 11) (.seq (.reg c_spec_l16Ask_4) (.ret)) (.skip))) (.seq (.reg c_spec_l16Ask_5) (.ret))))
theorem c_spec_l16Ask_d : decFn Try.prog Try.f91 = some (12, [.t 4], c_spec_l16Ask) := by kernel_rfl
theorem c_spec_l16Ask_i {args : List Value} {G : GH} {K : Value → GH → Prop} (hn : args.length ≤ 12) (h : gW Try.prog c_spec_l16Ask (RetK [.t 4] K) (T0 args) G) : GC Try.prog 91 args G K := GC_intro mixed Try.func91 c_spec_l16Ask_d hn h
/-! loop.example/g01005/spec.l16Before (2 params, 41 temporaries) : 0=a 1=b 2=a 3=b 5=i
-/
abbrev c_spec_l16Before_0 : List GOp := [oo 4 (.mv (cb  false))]
abbrev c_spec_l16Before_1 : List GOp := [oo 5 (.mv (ci 0))]
abbrev c_spec_l16Before_2 : List GOp := [oo 6 (.mv (tt 5)), oo 7 (.mv (tt 0)), oo 8 (.len (tt 7)), oo 9 (.bin .lss (tt 6) (tt 8)), oo 10 (.mv (tt 9)), og 11 10 true (.mv (tt 5)), og 12 10 true (.mv (tt 1)), og 13 10 true (.len (tt 12)), og 14 10 true (.bin .lss (tt 11) (tt 13)), oo 15 (.pick (tt 10) (tt 14) (cb  false))]
abbrev c_spec_l16Before_3 : List DOp := [dl 0 (oo 18 (.mv (tt 0))), dl 1 (oo 19 (.mv (tt 5))), dl 2 (oo 20 (.ia 1 (tt 18) (tt 19))), dl 3 (oo 21 (.ld (tt 20))), dl 4 (oo 22 (.mv (tt 1))), dl 5 (oo 23 (.mv (tt 5))), dl 6 (oo 24 (.ia 1 (tt 22) (tt 23))), dl 7 (oo 25 (.ld (tt 24))), dl 8 (oo 26 (.bin .neq (tt 21) (tt 25)))]
abbrev c_spec_l16Before_4 : List DOp := [dl 0 (oo 27 (.mv (tt 0))), dl 1 (oo 28 (.mv (tt 5))), dl 2 (oo 29 (.ia 1 (tt 27) (tt 28))), dl 3 (oo 30 (.ld (tt 29))), dl 4 (oo 31 (.mv (tt 1))), dl 5 (oo 32 (.mv (tt 5))), dl 6 (oo 33 (.ia 1 (tt 31) (tt 32))), dl 7 (oo 34 (.ld (tt 33))), dl 8 (oo 35 (.bin .lss (tt 30) (tt 34))), dl 9 (oo 4 (.mv (tt 35)))]
abbrev c_spec_l16Before_5 : List GOp := [oo 16 (.mv (tt 5)), oo 17 (.bin .add (tt 16) (ci 1)), oo 5 (.mv (tt 17))]
abbrev c_spec_l16Before_l0 : GCode := .seq (.seq (.reg c_spec_l16Before_2) (.cond (tt 15) (.skip) (.exit 0))) (.seq (.blk 1 (.seq (.dreg c_spec_l16Before_3) (.cond (tt 26) (.seq (.dreg c_spec_l16Before_4) (.ret)) (.skip)))) (.reg c_spec_l16Before_5))
abbrev c_spec_l16Before_7 : List GOp := [oo 36 (.mv (tt 0)), oo 37 (.len (tt 36)), oo 38 (.mv (tt 1)), oo 39 (.len (tt 38)), oo 40 (.bin .lss (tt 37) (tt 39)), oo 4 (.mv (tt 40))]
abbrev c_spec_l16Before : GCode := .seq (.reg c_spec_l16Before_0) (.seq (.seq (.reg c_spec_l16Before_1) (.blk 0 (.loop c_spec_l16Before_l0))) (.seq (.reg c_spec_l16Before_7) (.ret)))
theorem c_spec_l16Before_d : decFn Try.prog Try.f107 = some (41, [.t 4], c_spec_l16Before) := by kernel_rfl
theorem c_spec_l16Before_i {args : List Value} {G : GH} {K : Value → GH → Prop} (hn : args.length ≤ 41) (h : gW Try.prog c_spec_l16Before (RetK [.t 4] K) (T0 args) G) : GC Try.prog 107 args G K := GC_intro mixed Try.func107 c_spec_l16Before_d hn h
/-! loop.example/g01005/spec.l16Ok (1 params, 101 temporaries) : 
-/
abbrev c_spec_l16Ok_0 : List GOp := [oo 2 (.mv (cb  false))]
abbrev c_spec_l16Ok_1 : List GOp := [oo 5 (.mv (tt 0)), oo 6 (.nc (tt 5)), oo 7 (.fa 0 (tt 6)), oo 8 (.ld (tt 7)), oo 9 (.call (ff 53) [tt 8, (ci 1), (ci 12)]), oo 10 (.un .not (tt 9))]
abbrev c_spec_l16Ok_2 : List GOp := [oo 2 (.mv (cb  false))]
abbrev c_spec_l16Ok_3 : List GOp := [oo 3 (.mv (ci 0))]
abbrev c_spec_l16Ok_4 : List GOp := [oo 11 (.mv (tt 3)), oo 12 (.mv (tt 0)), oo 13 (.nc (tt 12)), oo 14 (.fa 1 (tt 13)), oo 15 (.ld (tt 14)), oo 16 (.len (tt 15)), oo 17 (.bin .lss (tt 11) (tt 16))]
abbrev c_spec_l16Ok_5 : List GOp := [oo 20 (.mv (tt 0)), oo 21 (.nc (tt 20)), oo 22 (.fa 1 (tt 21)), oo 23 (.ld (tt 22)), oo 24 (.mv (tt 3)), oo 25 (.ia 3 (tt 23) (tt 24)), oo 26 (.ldn 3 (tt 25)), oo 4 (.al [.int .i64 0, .int .i64 0, .int .i64 0]), on (.st 3 (tt 4) (tt 26))]
abbrev c_spec_l16Ok_6 : List DOp := [dl 0 (oo 27 (.fa 1 (tt 4))), dl 1 (oo 28 (.ld (tt 27))), dl 2 (oo 29 (.mv (tt 0))), dl 3 (oo 30 (.nc (tt 29))), dl 4 (oo 31 (.fa 0 (tt 30))), dl 5 (oo 32 (.ld (tt 31))), dl 6 (oo 33 (.bin .sub (tt 32) (ci 1))), dh 7 [5] (oo 34 (.call (ff 53) [tt 28, (ci 0), tt 33])), dl 8 (oo 35 (.un .not (tt 34))), dl 9 (oo 36 (.mv (tt 35))), dl 10 (og 37 36 false (.fa 0 (tt 4))), dl 11 (og 38 36 false (.ld (tt 37))), dl 12 (og 39 36 false (.fa 1 (tt 4))), dl 13 (og 40 36 false (.ld (tt 39))), dl 14 (og 41 36 false (.bin .sub (tt 40) (ci 1))), dh 15 [13, 5, 1] (og 42 36 false (.call (ff 53) [tt 38, (ci 0), tt 41])), dl 16 (og 43 36 false (.un .not (tt 42))), dl 17 (oo 44 (.pick (tt 36) (cb  true) (tt 43))), dl 18 (oo 45 (.mv (tt 44))), dl 19 (og 46 45 false (.fa 2 (tt 4))), dl 20 (og 47 45 false (.ld (tt 46))), dh 21 [13, 11, 5, 1] (og 48 45 false (.call (ff 53) [tt 47, (ci 1), (ci 9)])), dl 22 (og 49 45 false (.un .not (tt 48))), dl 23 (oo 50 (.pick (tt 45) (cb  true) (tt 49)))]
abbrev c_spec_l16Ok_7 : List GOp := [oo 2 (.mv (cb  false))]
abbrev c_spec_l16Ok_8 : List DOp := [dl 0 (oo 51 (.mv (tt 3))), dl 1 (oo 52 (.bin .gtr (tt 51) (ci 0))), dl 2 (oo 53 (.mv (tt 52))), dl 3 (og 54 53 true (.mv (tt 0))), dl 4 (og 55 53 true (.nc (tt 54))), dl 5 (og 56 53 true (.fa 1 (tt 55))), dl 6 (og 57 53 true (.ld (tt 56))), dl 7 (og 58 53 true (.mv (tt 3))), dl 8 (og 59 53 true (.bin .sub (tt 58) (ci 1))), dl 9 (og 60 53 true (.ia 3 (tt 57) (tt 59))), dl 10 (og 61 53 true (.fa 0 (tt 60))), dl 11 (og 62 53 true (.ld (tt 61))), dl 12 (og 63 53 true (.fa 0 (tt 4))), dl 13 (og 64 53 true (.ld (tt 63))), dl 14 (og 65 53 true (.bin .gtr (tt 62) (tt 64))), dl 15 (og 66 53 true (.mv (tt 65))), dl 16 (og 67 66 false (.mv (tt 0))), dl 17 (og 68 66 false (.nc (tt 67))), dl 18 (og 69 66 false (.fa 1 (tt 68))), dl 19 (og 70 66 false (.ld (tt 69))), dl 20 (og 71 66 false (.mv (tt 3))), dl 21 (og 72 66 false (.bin .sub (tt 71) (ci 1))), dl 22 (og 73 66 false (.ia 3 (tt 70) (tt 72))), dl 23 (og 74 66 false (.fa 0 (tt 73))), dl 24 (og 75 66 false (.ld (tt 74))), dl 25 (og 76 66 false (.fa 0 (tt 4))), dl 26 (og 77 66 false (.ld (tt 76))), dl 27 (og 78 66 false (.bin .eql (tt 75) (tt 77))), dl 28 (og 79 66 false (.mv (tt 78))), dl 29 (og 80 79 true (.mv (tt 0))), dl 30 (og 81 79 true (.nc (tt 80))), dl 31 (og 82 79 true (.fa 1 (tt 81))), dl 32 (og 83 79 true (.ld (tt 82))), dl 33 (og 84 79 true (.mv (tt 3))), dl 34 (og 85 79 true (.bin .sub (tt 84) (ci 1))), dl 35 (og 86 79 true (.ia 3 (tt 83) (tt 85))), dl 36 (og 87 79 true (.fa 1 (tt 86))), dl 37 (og 88 79 true (.ld (tt 87))), dl 38 (og 89 79 true (.fa 1 (tt 4))), dl 39 (og 90 79 true (.ld (tt 89))), dl 40 (og 91 79 true (.bin .geq (tt 88) (tt 90))), dl 41 (og 92 66 false (.pick (tt 79) (tt 91) (cb  false))), dl 42 (og 93 53 true (.pick (tt 66) (cb  true) (tt 92))), dl 43 (oo 94 (.pick (tt 53) (tt 93) (cb  false)))]
abbrev c_spec_l16Ok_9 : List GOp := [oo 2 (.mv (cb  false))]
abbrev c_spec_l16Ok_10 : List GOp := [oo 18 (.mv (tt 3)), oo 19 (.bin .add (tt 18) (ci 1)), oo 3 (.mv (tt 19))]
abbrev c_spec_l16Ok_l0 : GCode := .seq (.seq (.reg c_spec_l16Ok_4) (.cond (tt 17) (.skip) (.exit 0))) (.seq (.blk 1 (.seq (.reg c_spec_l16Ok_5) (.seq (.seq (.dreg c_spec_l16Ok_6) (.cond (tt 50) (.seq (.reg c_spec_l16Ok_7) (.ret)) (.skip))) (.seq (.dreg c_spec_l16Ok_8) (.cond (tt 94) (.seq (.reg c_spec_l16Ok_9) (.ret)) (.skip)))))) (.reg c_spec_l16Ok_10))
abbrev c_spec_l16Ok_12 : List GOp := [oo 95 (.mv (tt 0)), oo 96 (.nc (tt 95)), oo 97 (.fa 1 (tt 96)), oo 98 (.ld (tt 97)), oo 99 (.len (tt 98)), oo 100 (.bin .leq (tt 99) (ci 24)), oo 2 (.mv (tt 100))]
abbrev c_spec_l16Ok : GCode := .seq (.reg c_spec_l16Ok_0) (.seq (.seq (.reg c_spec_l16Ok_1) (.cond (tt 10) (.seq (.reg c_spec_l16Ok_2) (.ret)) (.skip))) (.seq (.seq (.reg c_spec_l16Ok_3) (.blk 0 (.loop c_spec_l16Ok_l0))) (.seq (.reg c_spec_l16Ok_12) (.ret))))
theorem c_spec_l16Ok_d : decFn Try.prog Try.f112 = some (101, [.t 2], c_spec_l16Ok) := by kernel_rfl
theorem c_spec_l16Ok_i {args : List Value} {G : GH} {K : Value → GH → Prop} (hn : args.length ≤ 101) (h : gW Try.prog c_spec_l16Ok (RetK [.t 2] K) (T0 args) G) : GC Try.prog 112 args G K := GC_intro mixed Try.func112 c_spec_l16Ok_d hn h
/-! loop.example/g01005/spec.l16Vector (2 params, 25 temporaries) : 0=g 1=x 2=g 3=x 5=i
-/
abbrev c_spec_l16Vector_0 : List GOp := [oo 4 (.mv (cb  false))]
abbrev c_spec_l16Vector_1 : List GOp := [oo 5 (.mv (ci 0))]
abbrev c_spec_l16Vector_2 : List GOp := [oo 6 (.mv (tt 5)), oo 7 (.mv (tt 1)), oo 8 (.len (tt 7)), oo 9 (.bin .lss (tt 6) (tt 8))]
abbrev c_spec_l16Vector_3 : List GOp := [oo 12 (.mv (tt 1)), oo 13 (.mv (tt 5)), oo 14 (.ia 1 (tt 12) (tt 13)), oo 15 (.ld (tt 14)), oo 16 (.call (ff 53) [tt 15, (ci (-1000000)), (ci 1000000)]), oo 17 (.un .not (tt 16))]
abbrev c_spec_l16Vector_4 : List GOp := [oo 4 (.mv (cb  false))]
abbrev c_spec_l16Vector_5 : List GOp := [oo 10 (.mv (tt 5)), oo 11 (.bin .add (tt 10) (ci 1)), oo 5 (.mv (tt 11))]
abbrev c_spec_l16Vector_l0 : GCode := .seq (.seq (.reg c_spec_l16Vector_2) (.cond (tt 9) (.skip) (.exit 0))) (.seq (.blk 1 (.seq (.reg c_spec_l16Vector_3) (.cond (tt 17) (.seq (.reg c_spec_l16Vector_4) (.ret)) (.skip)))) (.reg c_spec_l16Vector_5))
abbrev c_spec_l16Vector_7 : List GOp := [oo 18 (.mv (tt 1)), oo 19 (.len (tt 18)), oo 20 (.mv (tt 0)), oo 21 (.nc (tt 20)), oo 22 (.fa 0 (tt 21)), oo 23 (.ld (tt 22)), oo 24 (.bin .eql (tt 19) (tt 23)), oo 4 (.mv (tt 24))]
abbrev c_spec_l16Vector : GCode := .seq (.reg c_spec_l16Vector_0) (.seq (.seq (.reg c_spec_l16Vector_1) (.blk 0 (.loop c_spec_l16Vector_l0))) (.seq (.reg c_spec_l16Vector_7) (.ret)))
theorem c_spec_l16Vector_d : decFn Try.prog Try.f113 = some (25, [.t 4], c_spec_l16Vector) := by kernel_rfl
theorem c_spec_l16Vector_i {args : List Value} {G : GH} {K : Value → GH → Prop} (hn : args.length ≤ 25) (h : gW Try.prog c_spec_l16Vector (RetK [.t 4] K) (T0 args) G) : GC Try.prog 113 args G K := GC_intro mixed Try.func113 c_spec_l16Vector_d hn h
/-! loop.example/g01005/spec.l19Capacity (2 params, 50 temporaries) : 0=n 1=side 2=n 3=side 5=sum 6=i
-/
abbrev c_spec_l19Capacity_0 : List GOp := [oo 4 (.mv (ci 0))]
abbrev c_spec_l19Capacity_1 : List GOp := [oo 5 (.mv (ci 0))]
abbrev c_spec_l19Capacity_2 : List GOp := [oo 6 (.mv (ci 0))]
abbrev c_spec_l19Capacity_3 : List GOp := [oo 7 (.mv (tt 6)), oo 8 (.mv (tt 0)), oo 9 (.nc (tt 8)), oo 10 (.fa 3 (tt 9)), oo 11 (.ld (tt 10)), oo 12 (.len (tt 11)), oo 13 (.bin .lss (tt 7) (tt 12))]
abbrev c_spec_l19Capacity_4 : List GOp := [oo 16 (.mv (tt 1)), oo 17 (.mv (tt 0)), oo 18 (.nc (tt 17)), oo 19 (.fa 3 (tt 18)), oo 20 (.ld (tt 19)), oo 21 (.mv (tt 6)), oo 22 (.ia 3 (tt 20) (tt 21)), oo 23 (.fa 0 (tt 22)), oo 24 (.ld (tt 23)), oo 25 (.call (ff 109) [tt 16, tt 24]), oo 26 (.mv (tt 25)), og 27 26 true (.mv (tt 1)), og 28 26 true (.mv (tt 0)), og 29 26 true (.nc (tt 28)), og 30 26 true (.fa 3 (tt 29)), og 31 26 true (.ld (tt 30)), og 32 26 true (.mv (tt 6)), og 33 26 true (.ia 3 (tt 31) (tt 32)), og 34 26 true (.fa 1 (tt 33)), og 35 26 true (.ld (tt 34)), og 36 26 true (.call (ff 109) [tt 27, tt 35]), og 37 26 true (.un .not (tt 36)), oo 38 (.pick (tt 26) (tt 37) (cb  false))]
abbrev c_spec_l19Capacity_5 : List GOp := [oo 39 (.mv (tt 5)), oo 40 (.mv (tt 0)), oo 41 (.nc (tt 40)), oo 42 (.fa 3 (tt 41)), oo 43 (.ld (tt 42)), oo 44 (.mv (tt 6)), oo 45 (.ia 3 (tt 43) (tt 44)), oo 46 (.fa 2 (tt 45)), oo 47 (.ld (tt 46)), oo 48 (.bin .add (tt 39) (tt 47)), oo 5 (.mv (tt 48))]
abbrev c_spec_l19Capacity_6 : List GOp := [oo 14 (.mv (tt 6)), oo 15 (.bin .add (tt 14) (ci 1)), oo 6 (.mv (tt 15))]
abbrev c_spec_l19Capacity_l0 : GCode := .seq (.seq (.reg c_spec_l19Capacity_3) (.cond (tt 13) (.skip) (.exit 0))) (.seq (.blk 1 (.seq (.reg c_spec_l19Capacity_4) (.cond (tt 38) (.reg c_spec_l19Capacity_5) (.skip)))) (.reg c_spec_l19Capacity_6))
abbrev c_spec_l19Capacity_8 : List GOp := [oo 49 (.mv (tt 5)), oo 4 (.mv (tt 49))]
abbrev c_spec_l19Capacity : GCode := .seq (.reg c_spec_l19Capacity_0) (.seq (.reg c_spec_l19Capacity_1) (.seq (.seq (.reg c_spec_l19Capacity_2) (.blk 0 (.loop c_spec_l19Capacity_l0))) (.seq (.reg c_spec_l19Capacity_8) (.ret))))
theorem c_spec_l19Capacity_d : decFn Try.prog Try.f97 = some (50, [.t 4], c_spec_l19Capacity) := by kernel_rfl
theorem c_spec_l19Capacity_i {args : List Value} {G : GH} {K : Value → GH → Prop} (hn : args.length ≤ 50) (h : gW Try.prog c_spec_l19Capacity (RetK [.t 4] K) (T0 args) G) : GC Try.prog 97 args G K := GC_intro mixed Try.func97 c_spec_l19Capacity_d hn h
/-! loop.example/g01005/spec.l19Cut (2 params, 29 temporaries) : 0=n 1=side 2=n 3=side
-/
abbrev c_spec_l19Cut_0 : List GOp := [oo 4 (.mv (cb  false))]
abbrev c_spec_l19Cut_1 : List GOp := [oo 5 (.mv (tt 1)), oo 6 (.mv (tt 0)), oo 7 (.nc (tt 6)), oo 8 (.fa 0 (tt 7)), oo 9 (.ld (tt 8)), oo 10 (.bin .sub (tt 9) (ci 1)), oo 11 (.call (ff 106) [tt 5, (ci 0), tt 10]), oo 12 (.mv (tt 11)), og 13 12 true (.mv (tt 1)), og 14 12 true (.mv (tt 0)), og 15 12 true (.nc (tt 14)), og 16 12 true (.fa 1 (tt 15)), og 17 12 true (.ld (tt 16)), og 18 12 true (.call (ff 109) [tt 13, tt 17]), oo 19 (.pick (tt 12) (tt 18) (cb  false)), oo 20 (.mv (tt 19)), og 21 20 true (.mv (tt 1)), og 22 20 true (.mv (tt 0)), og 23 20 true (.nc (tt 22)), og 24 20 true (.fa 2 (tt 23)), og 25 20 true (.ld (tt 24)), og 26 20 true (.call (ff 109) [tt 21, tt 25]), og 27 20 true (.un .not (tt 26)), oo 28 (.pick (tt 20) (tt 27) (cb  false)), oo 4 (.mv (tt 28))]
abbrev c_spec_l19Cut : GCode := .seq (.reg c_spec_l19Cut_0) (.seq (.reg c_spec_l19Cut_1) (.ret))
theorem c_spec_l19Cut_d : decFn Try.prog Try.f83 = some (29, [.t 4], c_spec_l19Cut) := by kernel_rfl
theorem c_spec_l19Cut_i {args : List Value} {G : GH} {K : Value → GH → Prop} (hn : args.length ≤ 29) (h : gW Try.prog c_spec_l19Cut (RetK [.t 4] K) (T0 args) G) : GC Try.prog 83 args G K := GC_intro mixed Try.func83 c_spec_l19Cut_d hn h
/-! loop.example/g01005/spec.l19Excess (3 params, 51 temporaries) : 0=n 1=flow 2=node 3=n 4=flow 5=node 7=sum 8=i
-/
abbrev c_spec_l19Excess_0 : List GOp := [oo 6 (.mv (ci 0))]
abbrev c_spec_l19Excess_1 : List GOp := [oo 7 (.mv (ci 0))]
abbrev c_spec_l19Excess_2 : List GOp := [oo 8 (.mv (ci 0))]
abbrev c_spec_l19Excess_3 : List GOp := [oo 9 (.mv (tt 8)), oo 10 (.mv (tt 0)), oo 11 (.nc (tt 10)), oo 12 (.fa 3 (tt 11)), oo 13 (.ld (tt 12)), oo 14 (.len (tt 13)), oo 15 (.bin .lss (tt 9) (tt 14))]
abbrev c_spec_l19Excess_4 : List GOp := [oo 18 (.mv (tt 0)), oo 19 (.nc (tt 18)), oo 20 (.fa 3 (tt 19)), oo 21 (.ld (tt 20)), oo 22 (.mv (tt 8)), oo 23 (.ia 3 (tt 21) (tt 22)), oo 24 (.fa 1 (tt 23)), oo 25 (.ld (tt 24)), oo 26 (.mv (tt 2)), oo 27 (.bin .eql (tt 25) (tt 26))]
abbrev c_spec_l19Excess_5 : List GOp := [oo 28 (.mv (tt 7)), oo 29 (.mv (tt 1)), oo 30 (.mv (tt 8)), oo 31 (.ia 1 (tt 29) (tt 30)), oo 32 (.ld (tt 31)), oo 33 (.bin .add (tt 28) (tt 32)), oo 7 (.mv (tt 33))]
abbrev c_spec_l19Excess_6 : List GOp := [oo 34 (.mv (tt 0)), oo 35 (.nc (tt 34)), oo 36 (.fa 3 (tt 35)), oo 37 (.ld (tt 36)), oo 38 (.mv (tt 8)), oo 39 (.ia 3 (tt 37) (tt 38)), oo 40 (.fa 0 (tt 39)), oo 41 (.ld (tt 40)), oo 42 (.mv (tt 2)), oo 43 (.bin .eql (tt 41) (tt 42))]
abbrev c_spec_l19Excess_7 : List GOp := [oo 44 (.mv (tt 7)), oo 45 (.mv (tt 1)), oo 46 (.mv (tt 8)), oo 47 (.ia 1 (tt 45) (tt 46)), oo 48 (.ld (tt 47)), oo 49 (.bin .sub (tt 44) (tt 48)), oo 7 (.mv (tt 49))]
abbrev c_spec_l19Excess_8 : List GOp := [oo 16 (.mv (tt 8)), oo 17 (.bin .add (tt 16) (ci 1)), oo 8 (.mv (tt 17))]
abbrev c_spec_l19Excess_l0 : GCode := .seq (.seq (.reg c_spec_l19Excess_3) (.cond (tt 15) (.skip) (.exit 0))) (.seq (.blk 1 (.seq (.seq (.reg c_spec_l19Excess_4) (.cond (tt 27) (.reg c_spec_l19Excess_5) (.skip))) (.seq (.reg c_spec_l19Excess_6) (.cond (tt 43) (.reg c_spec_l19Excess_7) (.skip))))) (.reg c_spec_l19Excess_8))
abbrev c_spec_l19Excess_10 : List GOp := [oo 50 (.mv (tt 7)), oo 6 (.mv (tt 50))]
abbrev c_spec_l19Excess : GCode := .seq (.reg c_spec_l19Excess_0) (.seq (.reg c_spec_l19Excess_1) (.seq (.seq (.reg c_spec_l19Excess_2) (.blk 0 (.loop c_spec_l19Excess_l0))) (.seq (.reg c_spec_l19Excess_10) (.ret))))
theorem c_spec_l19Excess_d : decFn Try.prog Try.f85 = some (51, [.t 6], c_spec_l19Excess) := by kernel_rfl
theorem c_spec_l19Excess_i {args : List Value} {G : GH} {K : Value → GH → Prop} (hn : args.length ≤ 51) (h : gW Try.prog c_spec_l19Excess (RetK [.t 6] K) (T0 args) G) : GC Try.prog 85 args G K := GC_intro mixed Try.func85 c_spec_l19Excess_d hn h
/-! loop.example/g01005/spec.l19Flow (2 params, 64 temporaries) : 0=n 1=flow 2=n 3=flow 5=i 6=v
-/
abbrev c_spec_l19Flow_0 : List GOp := [oo 4 (.mv (cb  false))]
abbrev c_spec_l19Flow_1 : List GOp := [oo 7 (.mv (tt 1)), oo 8 (.len (tt 7)), oo 9 (.mv (tt 0)), oo 10 (.nc (tt 9)), oo 11 (.fa 3 (tt 10)), oo 12 (.ld (tt 11)), oo 13 (.len (tt 12)), oo 14 (.bin .neq (tt 8) (tt 13))]
abbrev c_spec_l19Flow_2 : List GOp := [oo 4 (.mv (cb  false))]
abbrev c_spec_l19Flow_3 : List GOp := [oo 5 (.mv (ci 0))]
abbrev c_spec_l19Flow_4 : List GOp := [oo 15 (.mv (tt 5)), oo 16 (.mv (tt 1)), oo 17 (.len (tt 16)), oo 18 (.bin .lss (tt 15) (tt 17))]
abbrev c_spec_l19Flow_5 : List DOp := [dl 0 (oo 21 (.mv (tt 1))), dl 1 (oo 22 (.mv (tt 5))), dl 2 (oo 23 (.ia 1 (tt 21) (tt 22))), dl 3 (oo 24 (.ld (tt 23))), dl 4 (oo 25 (.mv (tt 0))), dl 5 (oo 26 (.nc (tt 25))), dl 6 (oo 27 (.fa 3 (tt 26))), dl 7 (oo 28 (.ld (tt 27))), dl 8 (oo 29 (.mv (tt 5))), dl 9 (oo 30 (.ia 3 (tt 28) (tt 29))), dl 10 (oo 31 (.fa 2 (tt 30))), dl 11 (oo 32 (.ld (tt 31))), dh 12 [7] (oo 33 (.call (ff 53) [tt 24, (ci 0), tt 32])), dl 13 (oo 34 (.un .not (tt 33)))]
abbrev c_spec_l19Flow_6 : List GOp := [oo 4 (.mv (cb  false))]
abbrev c_spec_l19Flow_7 : List GOp := [oo 19 (.mv (tt 5)), oo 20 (.bin .add (tt 19) (ci 1)), oo 5 (.mv (tt 20))]
abbrev c_spec_l19Flow_l0 : GCode := .seq (.seq (.reg c_spec_l19Flow_4) (.cond (tt 18) (.skip) (.exit 0))) (.seq (.blk 1 (.seq (.dreg c_spec_l19Flow_5) (.cond (tt 34) (.seq (.reg c_spec_l19Flow_6) (.ret)) (.skip)))) (.reg c_spec_l19Flow_7))
abbrev c_spec_l19Flow_9 : List GOp := [oo 6 (.mv (ci 0))]
abbrev c_spec_l19Flow_10 : List GOp := [oo 35 (.mv (tt 6)), oo 36 (.mv (tt 0)), oo 37 (.nc (tt 36)), oo 38 (.fa 0 (tt 37)), oo 39 (.ld (tt 38)), oo 40 (.bin .lss (tt 35) (tt 39))]
abbrev c_spec_l19Flow_11 : List GOp := [oo 43 (.mv (tt 6)), oo 44 (.mv (tt 0)), oo 45 (.nc (tt 44)), oo 46 (.fa 1 (tt 45)), oo 47 (.ld (tt 46)), oo 48 (.bin .neq (tt 43) (tt 47)), oo 49 (.mv (tt 48)), og 50 49 true (.mv (tt 6)), og 51 49 true (.mv (tt 0)), og 52 49 true (.nc (tt 51)), og 53 49 true (.fa 2 (tt 52)), og 54 49 true (.ld (tt 53)), og 55 49 true (.bin .neq (tt 50) (tt 54)), oo 56 (.pick (tt 49) (tt 55) (cb  false)), oo 57 (.mv (tt 56)), og 58 57 true (.mv (tt 0)), og 59 57 true (.mv (tt 1)), og 60 57 true (.mv (tt 6)), og 61 57 true (.call (ff 85) [tt 58, tt 59, tt 60]), og 62 57 true (.bin .neq (tt 61) (ci 0)), oo 63 (.pick (tt 57) (tt 62) (cb  false))]
abbrev c_spec_l19Flow_12 : List GOp := [oo 4 (.mv (cb  false))]
abbrev c_spec_l19Flow_13 : List GOp := [oo 41 (.mv (tt 6)), oo 42 (.bin .add (tt 41) (ci 1)), oo 6 (.mv (tt 42))]
abbrev c_spec_l19Flow_l1 : GCode := .seq (.seq (.reg c_spec_l19Flow_10) (.cond (tt 40) (.skip) (.exit 2))) (.seq (.blk 3 (.seq (.reg c_spec_l19Flow_11) (.cond (tt 63) (.seq (.reg c_spec_l19Flow_12) (.ret)) (.skip)))) (.reg c_spec_l19Flow_13))
abbrev c_spec_l19Flow_15 : List GOp := [oo 4 (.mv (cb  true))]
abbrev c_spec_l19Flow : GCode := .seq (.reg c_spec_l19Flow_0) (.seq (.seq (.reg c_spec_l19Flow_1) (.cond (tt 14) (.seq (.reg c_spec_l19Flow_2) (.ret)) (.skip))) (.seq (.seq (.reg c_spec_l19Flow_3) (.blk 0 (.loop c_spec_l19Flow_l0))) (.seq (.seq (.reg c_spec_l19Flow_9) (.blk 2 (.loop c_spec_l19Flow_l1))) (.seq (.reg c_spec_l19Flow_15) (.ret)))))
theorem c_spec_l19Flow_d : decFn Try.prog Try.f81 = some (64, [.t 4], c_spec_l19Flow) := by kernel_rfl
theorem c_spec_l19Flow_i {args : List Value} {G : GH} {K : Value → GH → Prop} (hn : args.length ≤ 64) (h : gW Try.prog c_spec_l19Flow (RetK [.t 4] K) (T0 args) G) : GC Try.prog 81 args G K := GC_intro mixed Try.func81 c_spec_l19Flow_d hn h
/-! loop.example/g01005/spec.l19Ok (1 params, 147 temporaries) : 
-/
abbrev c_spec_l19Ok_0 : List GOp := [oo 2 (.mv (cb  false))]
abbrev c_spec_l19Ok_1 : List DOp := [dl 0 (oo 5 (.mv (tt 0))), dl 1 (oo 6 (.nc (tt 5))), dl 2 (oo 7 (.fa 0 (tt 6))), dl 3 (oo 8 (.ld (tt 7))), dh 4 [] (oo 9 (.call (ff 53) [tt 8, (ci 2), (ci 12)])), dl 5 (oo 10 (.un .not (tt 9))), dl 6 (oo 11 (.mv (tt 10))), dl 7 (og 12 11 false (.mv (tt 0))), dl 8 (og 13 11 false (.nc (tt 12))), dl 9 (og 14 11 false (.fa 1 (tt 13))), dl 10 (og 15 11 false (.ld (tt 14))), dl 11 (og 16 11 false (.mv (tt 0))), dl 12 (og 17 11 false (.nc (tt 16))), dl 13 (og 18 11 false (.fa 0 (tt 17))), dl 14 (og 19 11 false (.ld (tt 18))), dl 15 (og 20 11 false (.bin .sub (tt 19) (ci 1))), dh 16 [14, 3] (og 21 11 false (.call (ff 53) [tt 15, (ci 0), tt 20])), dl 17 (og 22 11 false (.un .not (tt 21))), dl 18 (oo 23 (.pick (tt 11) (cb  true) (tt 22))), dl 19 (oo 24 (.mv (tt 23))), dl 20 (og 25 24 false (.mv (tt 0))), dl 21 (og 26 24 false (.nc (tt 25))), dl 22 (og 27 24 false (.fa 2 (tt 26))), dl 23 (og 28 24 false (.ld (tt 27))), dl 24 (og 29 24 false (.mv (tt 0))), dl 25 (og 30 24 false (.nc (tt 29))), dl 26 (og 31 24 false (.fa 0 (tt 30))), dl 27 (og 32 24 false (.ld (tt 31))), dl 28 (og 33 24 false (.bin .sub (tt 32) (ci 1))), dh 29 [27, 14, 10, 3] (og 34 24 false (.call (ff 53) [tt 28, (ci 0), tt 33])), dl 30 (og 35 24 false (.un .not (tt 34))), dl 31 (oo 36 (.pick (tt 24) (cb  true) (tt 35))), dl 32 (oo 37 (.mv (tt 36))), dl 33 (og 38 37 false (.mv (tt 0))), dl 34 (og 39 37 false (.nc (tt 38))), dl 35 (og 40 37 false (.fa 1 (tt 39))), dl 36 (og 41 37 false (.ld (tt 40))), dl 37 (og 42 37 false (.mv (tt 0))), dl 38 (og 43 37 false (.nc (tt 42))), dl 39 (og 44 37 false (.fa 2 (tt 43))), dl 40 (og 45 37 false (.ld (tt 44))), dl 41 (og 46 37 false (.bin .eql (tt 41) (tt 45))), dl 42 (oo 47 (.pick (tt 37) (cb  true) (tt 46)))]
abbrev c_spec_l19Ok_2 : List GOp := [oo 2 (.mv (cb  false))]
abbrev c_spec_l19Ok_3 : List GOp := [oo 3 (.mv (ci 0))]
abbrev c_spec_l19Ok_4 : List GOp := [oo 48 (.mv (tt 3)), oo 49 (.mv (tt 0)), oo 50 (.nc (tt 49)), oo 51 (.fa 3 (tt 50)), oo 52 (.ld (tt 51)), oo 53 (.len (tt 52)), oo 54 (.bin .lss (tt 48) (tt 53))]
abbrev c_spec_l19Ok_5 : List GOp := [oo 57 (.mv (tt 0)), oo 58 (.nc (tt 57)), oo 59 (.fa 3 (tt 58)), oo 60 (.ld (tt 59)), oo 61 (.mv (tt 3)), oo 62 (.ia 3 (tt 60) (tt 61)), oo 63 (.ldn 3 (tt 62)), oo 4 (.al [.int .i64 0, .int .i64 0, .int .i64 0]), on (.st 3 (tt 4) (tt 63))]
abbrev c_spec_l19Ok_6 : List DOp := [dl 0 (oo 64 (.fa 0 (tt 4))), dl 1 (oo 65 (.ld (tt 64))), dl 2 (oo 66 (.mv (tt 0))), dl 3 (oo 67 (.nc (tt 66))), dl 4 (oo 68 (.fa 0 (tt 67))), dl 5 (oo 69 (.ld (tt 68))), dl 6 (oo 70 (.bin .sub (tt 69) (ci 1))), dh 7 [5] (oo 71 (.call (ff 53) [tt 65, (ci 0), tt 70])), dl 8 (oo 72 (.un .not (tt 71))), dl 9 (oo 73 (.mv (tt 72))), dl 10 (og 74 73 false (.fa 1 (tt 4))), dl 11 (og 75 73 false (.ld (tt 74))), dl 12 (og 76 73 false (.mv (tt 0))), dl 13 (og 77 73 false (.nc (tt 76))), dl 14 (og 78 73 false (.fa 0 (tt 77))), dl 15 (og 79 73 false (.ld (tt 78))), dl 16 (og 80 73 false (.bin .sub (tt 79) (ci 1))), dh 17 [15, 5, 1] (og 81 73 false (.call (ff 53) [tt 75, (ci 0), tt 80])), dl 18 (og 82 73 false (.un .not (tt 81))), dl 19 (oo 83 (.pick (tt 73) (cb  true) (tt 82))), dl 20 (oo 84 (.mv (tt 83))), dl 21 (og 85 84 false (.fa 0 (tt 4))), dl 22 (og 86 84 false (.ld (tt 85))), dl 23 (og 87 84 false (.fa 1 (tt 4))), dl 24 (og 88 84 false (.ld (tt 87))), dl 25 (og 89 84 false (.bin .eql (tt 86) (tt 88))), dl 26 (oo 90 (.pick (tt 84) (cb  true) (tt 89))), dl 27 (oo 91 (.mv (tt 90))), dl 28 (og 92 91 false (.fa 2 (tt 4))), dl 29 (og 93 91 false (.ld (tt 92))), dh 30 [24, 22, 15, 11, 5, 1] (og 94 91 false (.call (ff 53) [tt 93, (ci 0), (ci 1000000)])), dl 31 (og 95 91 false (.un .not (tt 94))), dl 32 (oo 96 (.pick (tt 91) (cb  true) (tt 95)))]
abbrev c_spec_l19Ok_7 : List GOp := [oo 2 (.mv (cb  false))]
abbrev c_spec_l19Ok_8 : List DOp := [dl 0 (oo 97 (.mv (tt 3))), dl 1 (oo 98 (.bin .gtr (tt 97) (ci 0))), dl 2 (oo 99 (.mv (tt 98))), dl 3 (og 100 99 true (.mv (tt 0))), dl 4 (og 101 99 true (.nc (tt 100))), dl 5 (og 102 99 true (.fa 3 (tt 101))), dl 6 (og 103 99 true (.ld (tt 102))), dl 7 (og 104 99 true (.mv (tt 3))), dl 8 (og 105 99 true (.bin .sub (tt 104) (ci 1))), dl 9 (og 106 99 true (.ia 3 (tt 103) (tt 105))), dl 10 (og 107 99 true (.fa 0 (tt 106))), dl 11 (og 108 99 true (.ld (tt 107))), dl 12 (og 109 99 true (.fa 0 (tt 4))), dl 13 (og 110 99 true (.ld (tt 109))), dl 14 (og 111 99 true (.bin .gtr (tt 108) (tt 110))), dl 15 (og 112 99 true (.mv (tt 111))), dl 16 (og 113 112 false (.mv (tt 0))), dl 17 (og 114 112 false (.nc (tt 113))), dl 18 (og 115 112 false (.fa 3 (tt 114))), dl 19 (og 116 112 false (.ld (tt 115))), dl 20 (og 117 112 false (.mv (tt 3))), dl 21 (og 118 112 false (.bin .sub (tt 117) (ci 1))), dl 22 (og 119 112 false (.ia 3 (tt 116) (tt 118))), dl 23 (og 120 112 false (.fa 0 (tt 119))), dl 24 (og 121 112 false (.ld (tt 120))), dl 25 (og 122 112 false (.fa 0 (tt 4))), dl 26 (og 123 112 false (.ld (tt 122))), dl 27 (og 124 112 false (.bin .eql (tt 121) (tt 123))), dl 28 (og 125 112 false (.mv (tt 124))), dl 29 (og 126 125 true (.mv (tt 0))), dl 30 (og 127 125 true (.nc (tt 126))), dl 31 (og 128 125 true (.fa 3 (tt 127))), dl 32 (og 129 125 true (.ld (tt 128))), dl 33 (og 130 125 true (.mv (tt 3))), dl 34 (og 131 125 true (.bin .sub (tt 130) (ci 1))), dl 35 (og 132 125 true (.ia 3 (tt 129) (tt 131))), dl 36 (og 133 125 true (.fa 1 (tt 132))), dl 37 (og 134 125 true (.ld (tt 133))), dl 38 (og 135 125 true (.fa 1 (tt 4))), dl 39 (og 136 125 true (.ld (tt 135))), dl 40 (og 137 125 true (.bin .geq (tt 134) (tt 136))), dl 41 (og 138 112 false (.pick (tt 125) (tt 137) (cb  false))), dl 42 (og 139 99 true (.pick (tt 112) (cb  true) (tt 138))), dl 43 (oo 140 (.pick (tt 99) (tt 139) (cb  false)))]
abbrev c_spec_l19Ok_9 : List GOp := [oo 2 (.mv (cb  false))]
abbrev c_spec_l19Ok_10 : List GOp := [oo 55 (.mv (tt 3)), oo 56 (.bin .add (tt 55) (ci 1)), oo 3 (.mv (tt 56))]
abbrev c_spec_l19Ok_l0 : GCode := .seq (.seq (.reg c_spec_l19Ok_4) (.cond (tt 54) (.skip) (.exit 0))) (.seq (.blk 1 (.seq (.reg c_spec_l19Ok_5) (.seq (.seq (.dreg c_spec_l19Ok_6) (.cond (tt 96) (.seq (.reg c_spec_l19Ok_7) (.ret)) (.skip))) (.seq (.dreg c_spec_l19Ok_8) (.cond (tt 140) (.seq (.reg c_spec_l19Ok_9) (.ret)) (.skip)))))) (.reg c_spec_l19Ok_10))
abbrev c_spec_l19Ok_12 : List GOp := [oo 141 (.mv (tt 0)), oo 142 (.nc (tt 141)), oo 143 (.fa 3 (tt 142)), oo 144 (.ld (tt 143)), oo 145 (.len (tt 144)), oo 146 (.bin .leq (tt 145) (ci 24)), oo 2 (.mv (tt 146))]
abbrev c_spec_l19Ok : GCode := .seq (.reg c_spec_l19Ok_0) (.seq (.seq (.dreg c_spec_l19Ok_1) (.cond (tt 47) (.seq (.reg c_spec_l19Ok_2) (.ret)) (.skip))) (.seq (.seq (.reg c_spec_l19Ok_3) (.blk 0 (.loop c_spec_l19Ok_l0))) (.seq (.reg c_spec_l19Ok_12) (.ret))))
theorem c_spec_l19Ok_d : decFn Try.prog Try.f72 = some (147, [.t 2], c_spec_l19Ok) := by kernel_rfl
theorem c_spec_l19Ok_i {args : List Value} {G : GH} {K : Value → GH → Prop} (hn : args.length ≤ 147) (h : gW Try.prog c_spec_l19Ok (RetK [.t 2] K) (T0 args) G) : GC Try.prog 72 args G K := GC_intro mixed Try.func72 c_spec_l19Ok_d hn h
/-! loop.example/g01005/spec.l20List (1 params, 18 temporaries) : 0=list 1=list 3=i
-/
abbrev c_spec_l20List_0 : List GOp := [oo 2 (.mv (cb  false))]
abbrev c_spec_l20List_1 : List GOp := [oo 3 (.mv (ci 0))]
abbrev c_spec_l20List_2 : List GOp := [oo 4 (.mv (tt 3)), oo 5 (.mv (tt 0)), oo 6 (.len (tt 5)), oo 7 (.bin .lss (tt 4) (tt 6))]
abbrev c_spec_l20List_3 : List GOp := [oo 10 (.mv (tt 0)), oo 11 (.mv (tt 3)), oo 12 (.ia 2 (tt 10) (tt 11)), oo 13 (.call (ff 77) [tt 12]), oo 14 (.un .not (tt 13))]
abbrev c_spec_l20List_4 : List GOp := [oo 2 (.mv (cb  false))]
abbrev c_spec_l20List_5 : List GOp := [oo 8 (.mv (tt 3)), oo 9 (.bin .add (tt 8) (ci 1)), oo 3 (.mv (tt 9))]
abbrev c_spec_l20List_l0 : GCode := .seq (.seq (.reg c_spec_l20List_2) (.cond (tt 7) (.skip) (.exit 0))) (.seq (.blk 1 (.seq (.reg c_spec_l20List_3) (.cond (tt 14) (.seq (.reg c_spec_l20List_4) (.ret)) (.skip)))) (.reg c_spec_l20List_5))
abbrev c_spec_l20List_7 : List GOp := [oo 15 (.mv (tt 0)), oo 16 (.len (tt 15)), oo 17 (.bin .leq (tt 16) (ci 6)), oo 2 (.mv (tt 17))]
abbrev c_spec_l20List : GCode := .seq (.reg c_spec_l20List_0) (.seq (.seq (.reg c_spec_l20List_1) (.blk 0 (.loop c_spec_l20List_l0))) (.seq (.reg c_spec_l20List_7) (.ret)))
theorem c_spec_l20List_d : decFn Try.prog Try.f87 = some (18, [.t 2], c_spec_l20List) := by kernel_rfl
theorem c_spec_l20List_i {args : List Value} {G : GH} {K : Value → GH → Prop} (hn : args.length ≤ 18) (h : gW Try.prog c_spec_l20List (RetK [.t 2] K) (T0 args) G) : GC Try.prog 87 args G K := GC_intro mixed Try.func87 c_spec_l20List_d hn h
/-! loop.example/g01005/spec.l20Ok (1 params, 89 temporaries) : 
-/
abbrev c_spec_l20Ok_0 : List GOp := [oo 2 (.mv (cb  false))]
abbrev c_spec_l20Ok_1 : List GOp := [oo 5 (.mv (tt 0)), oo 6 (.nc (tt 5)), oo 7 (.fa 0 (tt 6)), oo 8 (.ld (tt 7)), oo 9 (.call (ff 106) [tt 8, (ci 0), (ci 7)]), oo 10 (.un .not (tt 9)), oo 11 (.mv (tt 10)), og 12 11 false (.mv (tt 0)), og 13 11 false (.nc (tt 12)), og 14 11 false (.fa 1 (tt 13)), og 15 11 false (.ld (tt 14)), og 16 11 false (.len (tt 15)), og 17 11 false (.bin .gtr (tt 16) (ci 24)), oo 18 (.pick (tt 11) (cb  true) (tt 17))]
abbrev c_spec_l20Ok_2 : List GOp := [oo 2 (.mv (cb  false))]
abbrev c_spec_l20Ok_3 : List GOp := [oo 3 (.mv (ci 0))]
abbrev c_spec_l20Ok_4 : List GOp := [oo 19 (.mv (tt 3)), oo 20 (.mv (tt 0)), oo 21 (.nc (tt 20)), oo 22 (.fa 1 (tt 21)), oo 23 (.ld (tt 22)), oo 24 (.len (tt 23)), oo 25 (.bin .lss (tt 19) (tt 24))]
abbrev c_spec_l20Ok_5 : List DOp := [dl 0 (oo 28 (.mv (tt 0))), dl 1 (oo 29 (.nc (tt 28))), dl 2 (oo 30 (.fa 1 (tt 29))), dl 3 (oo 31 (.ld (tt 30))), dl 4 (oo 32 (.mv (tt 3))), dl 5 (oo 33 (.ia 1 (tt 31) (tt 32))), dl 6 (oo 34 (.ld (tt 33))), dl 7 (oo 35 (.len (tt 34))), dl 8 (oo 36 (.mv (tt 0))), dl 9 (oo 37 (.nc (tt 36))), dl 10 (oo 38 (.fa 0 (tt 37))), dl 11 (oo 39 (.ld (tt 38))), dl 12 (oo 40 (.len (tt 39))), dl 13 (oo 41 (.bin .neq (tt 35) (tt 40))), dl 14 (oo 42 (.mv (tt 41))), dl 15 (og 43 42 false (.mv (tt 3))), dl 16 (og 44 42 false (.bin .gtr (tt 43) (ci 0))), dl 17 (og 45 42 false (.mv (tt 44))), dl 18 (og 46 45 true (.mv (tt 0))), dl 19 (og 47 45 true (.nc (tt 46))), dl 20 (og 48 45 true (.fa 1 (tt 47))), dl 21 (og 49 45 true (.ld (tt 48))), dl 22 (og 50 45 true (.mv (tt 3))), dl 23 (og 51 45 true (.bin .sub (tt 50) (ci 1))), dl 24 (og 52 45 true (.ia 1 (tt 49) (tt 51))), dl 25 (og 53 45 true (.ld (tt 52))), dl 26 (og 54 45 true (.mv (tt 0))), dl 27 (og 55 45 true (.nc (tt 54))), dl 28 (og 56 45 true (.fa 1 (tt 55))), dl 29 (og 57 45 true (.ld (tt 56))), dl 30 (og 58 45 true (.mv (tt 3))), dl 31 (og 59 45 true (.ia 1 (tt 57) (tt 58))), dl 32 (og 60 45 true (.ld (tt 59))), dh 33 [29, 21, 11, 6, 3] (og 61 45 true (.call (ff 107) [tt 53, tt 60])), dl 34 (og 62 45 true (.un .not (tt 61))), dl 35 (og 63 42 false (.pick (tt 45) (tt 62) (cb  false))), dl 36 (oo 64 (.pick (tt 42) (cb  true) (tt 63)))]
abbrev c_spec_l20Ok_6 : List GOp := [oo 2 (.mv (cb  false))]
abbrev c_spec_l20Ok_7 : List GOp := [oo 4 (.mv (ci 0))]
abbrev c_spec_l20Ok_8 : List GOp := [oo 65 (.mv (tt 4)), oo 66 (.mv (tt 0)), oo 67 (.nc (tt 66)), oo 68 (.fa 1 (tt 67)), oo 69 (.ld (tt 68)), oo 70 (.mv (tt 3)), oo 71 (.ia 1 (tt 69) (tt 70)), oo 72 (.ld (tt 71)), oo 73 (.len (tt 72)), oo 74 (.bin .lss (tt 65) (tt 73))]
abbrev c_spec_l20Ok_9 : List GOp := [oo 77 (.mv (tt 0)), oo 78 (.nc (tt 77)), oo 79 (.fa 1 (tt 78)), oo 80 (.ld (tt 79)), oo 81 (.mv (tt 3)), oo 82 (.ia 1 (tt 80) (tt 81)), oo 83 (.ld (tt 82)), oo 84 (.mv (tt 4)), oo 85 (.ia 1 (tt 83) (tt 84)), oo 86 (.ld (tt 85)), oo 87 (.call (ff 53) [tt 86, (ci 0), (ci 3)]), oo 88 (.un .not (tt 87))]
abbrev c_spec_l20Ok_10 : List GOp := [oo 2 (.mv (cb  false))]
abbrev c_spec_l20Ok_11 : List GOp := [oo 75 (.mv (tt 4)), oo 76 (.bin .add (tt 75) (ci 1)), oo 4 (.mv (tt 76))]
abbrev c_spec_l20Ok_l0 : GCode := .seq (.seq (.reg c_spec_l20Ok_8) (.cond (tt 74) (.skip) (.exit 2))) (.seq (.blk 3 (.seq (.reg c_spec_l20Ok_9) (.cond (tt 88) (.seq (.reg c_spec_l20Ok_10) (.ret)) (.skip)))) (.reg c_spec_l20Ok_11))
abbrev c_spec_l20Ok_13 : List GOp := [oo 26 (.mv (tt 3)), oo 27 (.bin .add (tt 26) (ci 1)), oo 3 (.mv (tt 27))]
abbrev c_spec_l20Ok_l1 : GCode := .seq (.seq (.reg c_spec_l20Ok_4) (.cond (tt 25) (.skip) (.exit 0))) (.seq (.blk 1 (.seq (.seq (.dreg c_spec_l20Ok_5) (.cond (tt 64) (.seq (.reg c_spec_l20Ok_6) (.ret)) (.skip))) (.seq (.reg c_spec_l20Ok_7) (.blk 2 (.loop c_spec_l20Ok_l0))))) (.reg c_spec_l20Ok_13))
abbrev c_spec_l20Ok_15 : List GOp := [oo 2 (.mv (cb  true))]
abbrev c_spec_l20Ok : GCode := .seq (.reg c_spec_l20Ok_0) (.seq (.seq (.reg c_spec_l20Ok_1) (.cond (tt 18) (.seq (.reg c_spec_l20Ok_2) (.ret)) (.skip))) (.seq (.seq (.reg c_spec_l20Ok_3) (.blk 0 (.loop c_spec_l20Ok_l1))) (.seq (.reg c_spec_l20Ok_15) (.ret))))
theorem c_spec_l20Ok_d : decFn Try.prog Try.f77 = some (89, [.t 2], c_spec_l20Ok) := by kernel_rfl
theorem c_spec_l20Ok_i {args : List Value} {G : GH} {K : Value → GH → Prop} (hn : args.length ≤ 89) (h : gW Try.prog c_spec_l20Ok (RetK [.t 2] K) (T0 args) G) : GC Try.prog 77 args G K := GC_intro mixed Try.func77 c_spec_l20Ok_d hn h
/-! loop.example/g01005/spec.l20Same (2 params, 25 temporaries) : 0=a 1=b 2=a 3=b
-/
abbrev c_spec_l20Same_0 : List GOp := [oo 4 (.mv (cb  false))]
abbrev c_spec_l20Same_1 : List DOp := [dl 0 (oo 5 (.mv (tt 0))), dl 1 (oo 6 (.nc (tt 5))), dl 2 (oo 7 (.fa 0 (tt 6))), dl 3 (oo 8 (.ld (tt 7))), dl 4 (oo 9 (.mv (tt 1))), dl 5 (oo 10 (.nc (tt 9))), dl 6 (oo 11 (.fa 0 (tt 10))), dl 7 (oo 12 (.ld (tt 11))), dh 8 [] (oo 13 (.call (ff 102) [tt 8, tt 12])), dl 9 (oo 14 (.mv (tt 13))), dl 10 (og 15 14 true (.mv (tt 0))), dl 11 (og 16 14 true (.nc (tt 15))), dl 12 (og 17 14 true (.fa 1 (tt 16))), dl 13 (og 18 14 true (.ld (tt 17))), dl 14 (og 19 14 true (.mv (tt 1))), dl 15 (og 20 14 true (.nc (tt 19))), dl 16 (og 21 14 true (.fa 1 (tt 20))), dl 17 (og 22 14 true (.ld (tt 21))), dh 18 [7, 3] (og 23 14 true (.call (ff 103) [tt 18, tt 22])), dl 19 (oo 24 (.pick (tt 14) (tt 23) (cb  false))), dl 20 (oo 4 (.mv (tt 24)))]
abbrev c_spec_l20Same : GCode := .seq (.reg c_spec_l20Same_0) (.seq (.dreg c_spec_l20Same_1) (.ret))
theorem c_spec_l20Same_d : decFn Try.prog Try.f67 = some (25, [.t 4], c_spec_l20Same) := by kernel_rfl
theorem c_spec_l20Same_i {args : List Value} {G : GH} {K : Value → GH → Prop} (hn : args.length ≤ 25) (h : gW Try.prog c_spec_l20Same (RetK [.t 4] K) (T0 args) G) : GC Try.prog 67 args G K := GC_intro mixed Try.func67 c_spec_l20Same_d hn h
end Go.Proofs.Ytpcnfkamlfplmaa.Gh
