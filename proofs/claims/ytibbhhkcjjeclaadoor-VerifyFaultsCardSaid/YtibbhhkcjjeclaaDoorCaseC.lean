/- Part of a proof: texts W1Flt2 of the engine and what is proved with it; nothing is assumed. -/
import Derived.Test.YtibbhhkcjjeclaaDoorCase
set_option linter.unusedVariables false
set_option linter.unusedSimpArgs false
namespace Go.A1.A1Flt
open Go.Eng
set_option maxRecDepth 100000
theorem case_0_2 (a0 a1 : Int) : exFun (alt a0 a1 0 2) G0 (run F G0 200 200) 200 [.int .i64 a0 0, .int .i64 a1 0] .e 0 isT = True := by kernel_rfl
theorem case_1_0 (a0 a1 : Int) : exFun (alt a0 a1 1 0) G0 (run F G0 200 200) 200 [.int .i64 a0 0, .int .i64 a1 0] .e 0 isT = True := by kernel_rfl
theorem case_1_6 (a0 a1 : Int) : exFun (alt a0 a1 1 6) G0 (run F G0 200 200) 200 [.int .i64 a0 0, .int .i64 a1 0] .e 0 isT = True := by kernel_rfl
theorem case_2_4 (a0 a1 : Int) : exFun (alt a0 a1 2 4) G0 (run F G0 200 200) 200 [.int .i64 a0 0, .int .i64 a1 0] .e 0 isT = True := by kernel_rfl
theorem case_3_2 (a0 a1 : Int) : exFun (alt a0 a1 3 2) G0 (run F G0 200 200) 200 [.int .i64 a0 0, .int .i64 a1 0] .e 0 isT = True := by kernel_rfl
theorem case_4_0 (a0 a1 : Int) : exFun (alt a0 a1 4 0) G0 (run F G0 200 200) 200 [.int .i64 a0 0, .int .i64 a1 0] .e 0 isT = True := by kernel_rfl
theorem case_4_6 (a0 a1 : Int) : exFun (alt a0 a1 4 6) G0 (run F G0 200 200) 200 [.int .i64 a0 0, .int .i64 a1 0] .e 0 isT = True := by kernel_rfl
theorem case_5_4 (a0 a1 : Int) : exFun (alt a0 a1 5 4) G0 (run F G0 200 200) 200 [.int .i64 a0 0, .int .i64 a1 0] .e 0 isT = True := by kernel_rfl
theorem case_6_2 (a0 a1 : Int) : exFun (alt a0 a1 6 2) G0 (run F G0 200 200) 200 [.int .i64 a0 0, .int .i64 a1 0] .e 0 isT = True := by kernel_rfl
theorem case_7_0 (a0 a1 : Int) : exFun (alt a0 a1 7 0) G0 (run F G0 200 200) 200 [.int .i64 a0 0, .int .i64 a1 0] .e 0 isT = True := by kernel_rfl
theorem case_7_6 (a0 a1 : Int) : exFun (alt a0 a1 7 6) G0 (run F G0 200 200) 200 [.int .i64 a0 0, .int .i64 a1 0] .e 0 isT = True := by kernel_rfl
theorem case_8_4 (a0 a1 : Int) : exFun (alt a0 a1 8 4) G0 (run F G0 200 200) 200 [.int .i64 a0 0, .int .i64 a1 0] .e 0 isT = True := by kernel_rfl
theorem case_9_2 (a0 a1 : Int) : exFun (alt a0 a1 9 2) G0 (run F G0 200 200) 200 [.int .i64 a0 0, .int .i64 a1 0] .e 0 isT = True := by kernel_rfl
theorem case_10_0 (a0 a1 : Int) : exFun (alt a0 a1 10 0) G0 (run F G0 200 200) 200 [.int .i64 a0 0, .int .i64 a1 0] .e 0 isT = True := by kernel_rfl
theorem case_10_6 (a0 a1 : Int) : exFun (alt a0 a1 10 6) G0 (run F G0 200 200) 200 [.int .i64 a0 0, .int .i64 a1 0] .e 0 isT = True := by kernel_rfl
theorem case_11_4 (a0 a1 : Int) : exFun (alt a0 a1 11 4) G0 (run F G0 200 200) 200 [.int .i64 a0 0, .int .i64 a1 0] .e 0 isT = True := by kernel_rfl
theorem case_12_2 (a0 a1 : Int) : exFun (alt a0 a1 12 2) G0 (run F G0 200 200) 200 [.int .i64 a0 0, .int .i64 a1 0] .e 0 isT = True := by kernel_rfl
theorem case_13_0 (a0 a1 : Int) : exFun (alt a0 a1 13 0) G0 (run F G0 200 200) 200 [.int .i64 a0 0, .int .i64 a1 0] .e 0 isT = True := by kernel_rfl
theorem case_13_6 (a0 a1 : Int) : exFun (alt a0 a1 13 6) G0 (run F G0 200 200) 200 [.int .i64 a0 0, .int .i64 a1 0] .e 0 isT = True := by kernel_rfl
theorem case_14_4 (a0 a1 : Int) : exFun (alt a0 a1 14 4) G0 (run F G0 200 200) 200 [.int .i64 a0 0, .int .i64 a1 0] .e 0 isT = True := by kernel_rfl
theorem case_15_2 (a0 a1 : Int) : exFun (alt a0 a1 15 2) G0 (run F G0 200 200) 200 [.int .i64 a0 0, .int .i64 a1 0] .e 0 isT = True := by kernel_rfl
end Go.A1.A1Flt

