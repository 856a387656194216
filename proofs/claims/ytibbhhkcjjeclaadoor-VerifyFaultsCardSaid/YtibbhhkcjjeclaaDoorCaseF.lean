/- Part of a proof: texts W1Flt5 of the engine and what is proved with it; nothing is assumed. -/
import Derived.Test.YtibbhhkcjjeclaaDoorCase
set_option linter.unusedVariables false
set_option linter.unusedSimpArgs false
namespace Go.A1.A1Flt
open Go.Eng
set_option maxRecDepth 100000
theorem case_0_5 (a0 a1 : Int) : exFun (alt a0 a1 0 5) G0 (run F G0 200 200) 200 [.int .i64 a0 0, .int .i64 a1 0] .e 0 isT = True := by kernel_rfl
theorem case_1_3 (a0 a1 : Int) : exFun (alt a0 a1 1 3) G0 (run F G0 200 200) 200 [.int .i64 a0 0, .int .i64 a1 0] .e 0 isT = True := by kernel_rfl
theorem case_2_1 (a0 a1 : Int) : exFun (alt a0 a1 2 1) G0 (run F G0 200 200) 200 [.int .i64 a0 0, .int .i64 a1 0] .e 0 isT = True := by kernel_rfl
theorem case_2_7 (a0 a1 : Int) : exFun (alt a0 a1 2 7) G0 (run F G0 200 200) 200 [.int .i64 a0 0, .int .i64 a1 0] .e 0 isT = True := by kernel_rfl
theorem case_3_5 (a0 a1 : Int) : exFun (alt a0 a1 3 5) G0 (run F G0 200 200) 200 [.int .i64 a0 0, .int .i64 a1 0] .e 0 isT = True := by kernel_rfl
theorem case_4_3 (a0 a1 : Int) : exFun (alt a0 a1 4 3) G0 (run F G0 200 200) 200 [.int .i64 a0 0, .int .i64 a1 0] .e 0 isT = True := by kernel_rfl
theorem case_5_1 (a0 a1 : Int) : exFun (alt a0 a1 5 1) G0 (run F G0 200 200) 200 [.int .i64 a0 0, .int .i64 a1 0] .e 0 isT = True := by kernel_rfl
theorem case_5_7 (a0 a1 : Int) : exFun (alt a0 a1 5 7) G0 (run F G0 200 200) 200 [.int .i64 a0 0, .int .i64 a1 0] .e 0 isT = True := by kernel_rfl
theorem case_6_5 (a0 a1 : Int) : exFun (alt a0 a1 6 5) G0 (run F G0 200 200) 200 [.int .i64 a0 0, .int .i64 a1 0] .e 0 isT = True := by kernel_rfl
theorem case_7_3 (a0 a1 : Int) : exFun (alt a0 a1 7 3) G0 (run F G0 200 200) 200 [.int .i64 a0 0, .int .i64 a1 0] .e 0 isT = True := by kernel_rfl
theorem case_8_1 (a0 a1 : Int) : exFun (alt a0 a1 8 1) G0 (run F G0 200 200) 200 [.int .i64 a0 0, .int .i64 a1 0] .e 0 isT = True := by kernel_rfl
theorem case_8_7 (a0 a1 : Int) : exFun (alt a0 a1 8 7) G0 (run F G0 200 200) 200 [.int .i64 a0 0, .int .i64 a1 0] .e 0 isT = True := by kernel_rfl
theorem case_9_5 (a0 a1 : Int) : exFun (alt a0 a1 9 5) G0 (run F G0 200 200) 200 [.int .i64 a0 0, .int .i64 a1 0] .e 0 isT = True := by kernel_rfl
theorem case_10_3 (a0 a1 : Int) : exFun (alt a0 a1 10 3) G0 (run F G0 200 200) 200 [.int .i64 a0 0, .int .i64 a1 0] .e 0 isT = True := by kernel_rfl
theorem case_11_1 (a0 a1 : Int) : exFun (alt a0 a1 11 1) G0 (run F G0 200 200) 200 [.int .i64 a0 0, .int .i64 a1 0] .e 0 isT = True := by kernel_rfl
theorem case_11_7 (a0 a1 : Int) : exFun (alt a0 a1 11 7) G0 (run F G0 200 200) 200 [.int .i64 a0 0, .int .i64 a1 0] .e 0 isT = True := by kernel_rfl
theorem case_12_5 (a0 a1 : Int) : exFun (alt a0 a1 12 5) G0 (run F G0 200 200) 200 [.int .i64 a0 0, .int .i64 a1 0] .e 0 isT = True := by kernel_rfl
theorem case_13_3 (a0 a1 : Int) : exFun (alt a0 a1 13 3) G0 (run F G0 200 200) 200 [.int .i64 a0 0, .int .i64 a1 0] .e 0 isT = True := by kernel_rfl
theorem case_14_1 (a0 a1 : Int) : exFun (alt a0 a1 14 1) G0 (run F G0 200 200) 200 [.int .i64 a0 0, .int .i64 a1 0] .e 0 isT = True := by kernel_rfl
theorem case_14_7 (a0 a1 : Int) : exFun (alt a0 a1 14 7) G0 (run F G0 200 200) 200 [.int .i64 a0 0, .int .i64 a1 0] .e 0 isT = True := by kernel_rfl
theorem case_15_5 (a0 a1 : Int) : exFun (alt a0 a1 15 5) G0 (run F G0 200 200) 200 [.int .i64 a0 0, .int .i64 a1 0] .e 0 isT = True := by kernel_rfl
end Go.A1.A1Flt

