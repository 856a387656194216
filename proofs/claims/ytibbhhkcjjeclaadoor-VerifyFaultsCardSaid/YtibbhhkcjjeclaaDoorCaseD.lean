/- Part of a proof: texts W1Flt3 of the engine and what is proved with it; nothing is assumed. -/
import Derived.Test.YtibbhhkcjjeclaaDoorCase
set_option linter.unusedVariables false
set_option linter.unusedSimpArgs false
namespace Go.A1.A1Flt
open Go.Eng
set_option maxRecDepth 100000
theorem case_0_3 (a0 a1 : Int) : exFun (alt a0 a1 0 3) G0 (run F G0 200 200) 200 [.int .i64 a0 0, .int .i64 a1 0] .e 0 isT = True := by kernel_rfl
theorem case_1_1 (a0 a1 : Int) : exFun (alt a0 a1 1 1) G0 (run F G0 200 200) 200 [.int .i64 a0 0, .int .i64 a1 0] .e 0 isT = True := by kernel_rfl
theorem case_1_7 (a0 a1 : Int) : exFun (alt a0 a1 1 7) G0 (run F G0 200 200) 200 [.int .i64 a0 0, .int .i64 a1 0] .e 0 isT = True := by kernel_rfl
theorem case_2_5 (a0 a1 : Int) : exFun (alt a0 a1 2 5) G0 (run F G0 200 200) 200 [.int .i64 a0 0, .int .i64 a1 0] .e 0 isT = True := by kernel_rfl
theorem case_3_3 (a0 a1 : Int) : exFun (alt a0 a1 3 3) G0 (run F G0 200 200) 200 [.int .i64 a0 0, .int .i64 a1 0] .e 0 isT = True := by kernel_rfl
theorem case_4_1 (a0 a1 : Int) : exFun (alt a0 a1 4 1) G0 (run F G0 200 200) 200 [.int .i64 a0 0, .int .i64 a1 0] .e 0 isT = True := by kernel_rfl
theorem case_4_7 (a0 a1 : Int) : exFun (alt a0 a1 4 7) G0 (run F G0 200 200) 200 [.int .i64 a0 0, .int .i64 a1 0] .e 0 isT = True := by kernel_rfl
theorem case_5_5 (a0 a1 : Int) : exFun (alt a0 a1 5 5) G0 (run F G0 200 200) 200 [.int .i64 a0 0, .int .i64 a1 0] .e 0 isT = True := by kernel_rfl
theorem case_6_3 (a0 a1 : Int) : exFun (alt a0 a1 6 3) G0 (run F G0 200 200) 200 [.int .i64 a0 0, .int .i64 a1 0] .e 0 isT = True := by kernel_rfl
theorem case_7_1 (a0 a1 : Int) : exFun (alt a0 a1 7 1) G0 (run F G0 200 200) 200 [.int .i64 a0 0, .int .i64 a1 0] .e 0 isT = True := by kernel_rfl
theorem case_7_7 (a0 a1 : Int) : exFun (alt a0 a1 7 7) G0 (run F G0 200 200) 200 [.int .i64 a0 0, .int .i64 a1 0] .e 0 isT = True := by kernel_rfl
theorem case_8_5 (a0 a1 : Int) : exFun (alt a0 a1 8 5) G0 (run F G0 200 200) 200 [.int .i64 a0 0, .int .i64 a1 0] .e 0 isT = True := by kernel_rfl
theorem case_9_3 (a0 a1 : Int) : exFun (alt a0 a1 9 3) G0 (run F G0 200 200) 200 [.int .i64 a0 0, .int .i64 a1 0] .e 0 isT = True := by kernel_rfl
theorem case_10_1 (a0 a1 : Int) : exFun (alt a0 a1 10 1) G0 (run F G0 200 200) 200 [.int .i64 a0 0, .int .i64 a1 0] .e 0 isT = True := by kernel_rfl
theorem case_10_7 (a0 a1 : Int) : exFun (alt a0 a1 10 7) G0 (run F G0 200 200) 200 [.int .i64 a0 0, .int .i64 a1 0] .e 0 isT = True := by kernel_rfl
theorem case_11_5 (a0 a1 : Int) : exFun (alt a0 a1 11 5) G0 (run F G0 200 200) 200 [.int .i64 a0 0, .int .i64 a1 0] .e 0 isT = True := by kernel_rfl
theorem case_12_3 (a0 a1 : Int) : exFun (alt a0 a1 12 3) G0 (run F G0 200 200) 200 [.int .i64 a0 0, .int .i64 a1 0] .e 0 isT = True := by kernel_rfl
theorem case_13_1 (a0 a1 : Int) : exFun (alt a0 a1 13 1) G0 (run F G0 200 200) 200 [.int .i64 a0 0, .int .i64 a1 0] .e 0 isT = True := by kernel_rfl
theorem case_13_7 (a0 a1 : Int) : exFun (alt a0 a1 13 7) G0 (run F G0 200 200) 200 [.int .i64 a0 0, .int .i64 a1 0] .e 0 isT = True := by kernel_rfl
theorem case_14_5 (a0 a1 : Int) : exFun (alt a0 a1 14 5) G0 (run F G0 200 200) 200 [.int .i64 a0 0, .int .i64 a1 0] .e 0 isT = True := by kernel_rfl
theorem case_15_3 (a0 a1 : Int) : exFun (alt a0 a1 15 3) G0 (run F G0 200 200) 200 [.int .i64 a0 0, .int .i64 a1 0] .e 0 isT = True := by kernel_rfl
end Go.A1.A1Flt

