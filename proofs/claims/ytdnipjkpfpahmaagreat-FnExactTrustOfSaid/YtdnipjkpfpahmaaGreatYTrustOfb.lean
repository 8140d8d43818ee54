/- Code trees that the law TrustOf reaches: each is what the decoding gives (checked by the kernel). -/
import Derived.Test.YtdnipjkpfpahmaaGreatYTrustOfa
namespace Go.Proofs.YtdnipjkpfpahmaaGreat.Gh
open Go Go.RowKit Go.Proofs
set_option linter.unusedVariables false
set_option linter.unusedSimpArgs false
set_option maxHeartbeats 4000000

abbrev c_spec_l17Counts_1 : List GOp := [oo 14 (.mv (tt 0)), oo 15 (.nc (tt 14)), oo 16 (.fa 0 (tt 15)), oo 17 (.call (ff 70) [tt 16, (ci 0)]), oo 18 (.len (tt 17)), oo 6 (.mv (tt 18))]
abbrev c_spec_l17Counts_2 : List GOp := [oo 19 (.mv (tt 6)), oo 20 (.mk 1 8 [.int .i64 0] (tt 19) (tt 19)), oo 7 (.mv (tt 20))]
abbrev c_spec_l17Counts_3 : List GOp := [oo 21 (.mv (tt 6)), oo 22 (.mk 1 8 [.int .i64 0] (tt 21) (tt 21)), oo 8 (.mv (tt 22))]
abbrev c_spec_l17Counts_4 : List GOp := [oo 23 (.mv (tt 0)), oo 24 (.mv (tt 1)), oo 25 (.call (ff 46) [tt 23, tt 24]), oo 9 (.mv (tt 25))]
abbrev c_spec_l17Counts_5 : List GOp := [oo 26 (.mv (tt 0)), oo 27 (.nc (tt 26)), oo 28 (.fa 0 (tt 27)), oo 29 (.call (ff 70) [tt 28, (ci 1)]), oo 10 (.mv (tt 29))]
abbrev c_spec_l17Counts_6 : List GOp := [oo 11 (.mv (ci 0))]
abbrev c_spec_l17Counts_7 : List GOp := [oo 30 (.mv (tt 11)), oo 31 (.mv (tt 10)), oo 32 (.len (tt 31)), oo 33 (.bin .lss (tt 30) (tt 32))]
abbrev c_spec_l17Counts_8 : List GOp := [oo 37 (.mv (tt 0)), oo 38 (.mv (tt 10)), oo 39 (.mv (tt 11)), oo 40 (.ia 1 (tt 38) (tt 39)), oo 41 (.ld (tt 40)), oo 42 (.call (ff 110) [tt 37, tt 41]), oo 36 (.mv (tt 42)), oo 43 (.ex 0 (tt 36)), oo 44 (.ex 1 (tt 36)), oo 12 (.mv (tt 43)), oo 13 (.mv (tt 44))]
abbrev c_spec_l17Counts_9 : List GOp := [oo 45 (.mv (tt 9)), oo 46 (.mv (tt 10)), oo 47 (.mv (tt 11)), oo 48 (.ia 1 (tt 46) (tt 47)), oo 49 (.ld (tt 48)), oo 50 (.call (ff 111) [tt 45, tt 49])]
abbrev c_spec_l17Counts_10 : List GOp := [oo 51 (.mv (tt 8)), oo 52 (.mv (tt 12)), oo 53 (.ia 1 (tt 51) (tt 52)), oo 54 (.ld (tt 53)), oo 55 (.bin .add (tt 54) (ci 1)), oo 56 (.ia 1 (tt 51) (tt 52)), on (.st 1 (tt 56) (tt 55))]
abbrev c_spec_l17Counts_11 : List GOp := [oo 57 (.mv (tt 8)), oo 58 (.mv (tt 13)), oo 59 (.ia 1 (tt 57) (tt 58)), oo 60 (.ld (tt 59)), oo 61 (.bin .add (tt 60) (ci 1)), oo 62 (.ia 1 (tt 57) (tt 58)), on (.st 1 (tt 62) (tt 61))]
abbrev c_spec_l17Counts_12 : List GOp := [oo 63 (.mv (tt 7)), oo 64 (.mv (tt 12)), oo 65 (.ia 1 (tt 63) (tt 64)), oo 66 (.ld (tt 65)), oo 67 (.bin .add (tt 66) (ci 1)), oo 68 (.ia 1 (tt 63) (tt 64)), on (.st 1 (tt 68) (tt 67))]
abbrev c_spec_l17Counts_13 : List GOp := [oo 69 (.mv (tt 7)), oo 70 (.mv (tt 13)), oo 71 (.ia 1 (tt 69) (tt 70)), oo 72 (.ld (tt 71)), oo 73 (.bin .add (tt 72) (ci 1)), oo 74 (.ia 1 (tt 69) (tt 70)), on (.st 1 (tt 74) (tt 73))]
abbrev c_spec_l17Counts_14 : List GOp := [oo 34 (.mv (tt 11)), oo 35 (.bin .add (tt 34) (ci 1)), oo 11 (.mv (tt 35))]
abbrev c_spec_l17Counts_l0 : GCode := .seq (.seq (.reg c_spec_l17Counts_7) (.cond (tt 33) (.skip) (.exit 0))) (.seq (.blk 1 (.seq (.reg c_spec_l17Counts_8) (.seq (.reg c_spec_l17Counts_9) (.cond (tt 50) (.seq (.reg c_spec_l17Counts_10) (.reg c_spec_l17Counts_11)) (.seq (.reg c_spec_l17Counts_12) (.reg c_spec_l17Counts_13)))))) (.reg c_spec_l17Counts_14))
abbrev c_spec_l17Counts_16 : List GOp := [oo 75 (.mv (tt 7)), oo 76 (.mv (tt 8)), oo 4 (.mv (tt 75)), oo 5 (.mv (tt 76))]
abbrev c_spec_l17Counts : GCode := .seq (.reg c_spec_l17Counts_0) (.seq (.reg c_spec_l17Counts_1) (.seq (.reg c_spec_l17Counts_2) (.seq (.reg c_spec_l17Counts_3) (.seq (.reg c_spec_l17Counts_4) (.seq (.reg c_spec_l17Counts_5) (.seq (.seq (.reg c_spec_l17Counts_6) (.blk 0 (.loop c_spec_l17Counts_l0))) (.seq (.reg c_spec_l17Counts_16) (.ret))))))))
theorem c_spec_l17Counts_d : decFn Tryz.prog Tryz.f60 = some (77, [.t 4, .t 5], c_spec_l17Counts) := by kernel_rfl
theorem c_spec_l17Counts_i {args : List Value} {G : GH} {K : Value → GH → Prop} (hn : args.length ≤ 77) (h : gW Tryz.prog c_spec_l17Counts (RetK [.t 4, .t 5] K) (T0 args) G) : GC Tryz.prog 60 args G K := GC_intro mixed Tryz.func60 c_spec_l17Counts_d hn h
abbrev c_spec_l17Ends_0 : List GOp := [oo 4 (.mv (ci 0)), oo 5 (.mv (ci 0))]
abbrev c_spec_l17Ends_1 : List GOp := [oo 7 (.mv (tt 0)), oo 8 (.nc (tt 7)), oo 9 (.fa 0 (tt 8)), oo 10 (.mv (tt 1)), oo 11 (.call (ff 149) [tt 9, tt 10]), oo 6 (.mv (tt 11))]
abbrev c_spec_l17Ends_2 : List DOp := [dl 0 (oo 12 (.mv (tt 6))), dl 1 (oo 13 (.ia 1 (tt 12) (ci 1))), dl 2 (oo 14 (.ld (tt 13))), dl 3 (oo 15 (.mv (tt 6))), dl 4 (oo 16 (.ia 1 (tt 15) (ci 0))), dl 5 (oo 17 (.ld (tt 16))), dl 6 (oo 4 (.mv (tt 14))), dl 7 (oo 5 (.mv (tt 17)))]
abbrev c_spec_l17Ends : GCode := .seq (.reg c_spec_l17Ends_0) (.seq (.reg c_spec_l17Ends_1) (.seq (.dreg c_spec_l17Ends_2) (.ret)))
theorem c_spec_l17Ends_d : decFn Tryz.prog Tryz.f110 = some (18, [.t 4, .t 5], c_spec_l17Ends) := by kernel_rfl
theorem c_spec_l17Ends_i {args : List Value} {G : GH} {K : Value → GH → Prop} (hn : args.length ≤ 18) (h : gW Tryz.prog c_spec_l17Ends (RetK [.t 4, .t 5] K) (T0 args) G) : GC Tryz.prog 110 args G K := GC_intro mixed Tryz.func110 c_spec_l17Ends_d hn h

end Go.Proofs.YtdnipjkpfpahmaaGreat.Gh
