/- Part of a proof: texts W1Flt0 of the engine and what is proved with it; nothing is assumed. -/
import Derived.Test.YtibbhhkcjjeclaaDoorCase
set_option linter.unusedVariables false
set_option linter.unusedSimpArgs false
namespace Go.A1.A1Flt
open Go.Eng
set_option maxRecDepth 100000
theorem case_0_0 (a0 a1 : Int) : exFun (alt a0 a1 0 0) G0 (run F G0 200 200) 200 [.int .i64 a0 0, .int .i64 a1 0] .e 0 isT = True := by kernel_rfl
theorem case_0_6 (a0 a1 : Int) : exFun (alt a0 a1 0 6) G0 (run F G0 200 200) 200 [.int .i64 a0 0, .int .i64 a1 0] .e 0 isT = True := by kernel_rfl
theorem case_1_4 (a0 a1 : Int) : exFun (alt a0 a1 1 4) G0 (run F G0 200 200) 200 [.int .i64 a0 0, .int .i64 a1 0] .e 0 isT = True := by kernel_rfl
theorem case_2_2 (a0 a1 : Int) : exFun (alt a0 a1 2 2) G0 (run F G0 200 200) 200 [.int .i64 a0 0, .int .i64 a1 0] .e 0 isT = True := by kernel_rfl
theorem case_3_0 (a0 a1 : Int) : exFun (alt a0 a1 3 0) G0 (run F G0 200 200) 200 [.int .i64 a0 0, .int .i64 a1 0] .e 0 isT = True := by kernel_rfl
theorem case_3_6 (a0 a1 : Int) : exFun (alt a0 a1 3 6) G0 (run F G0 200 200) 200 [.int .i64 a0 0, .int .i64 a1 0] .e 0 isT = True := by kernel_rfl
theorem case_4_4 (a0 a1 : Int) : exFun (alt a0 a1 4 4) G0 (run F G0 200 200) 200 [.int .i64 a0 0, .int .i64 a1 0] .e 0 isT = True := by kernel_rfl
theorem case_5_2 (a0 a1 : Int) : exFun (alt a0 a1 5 2) G0 (run F G0 200 200) 200 [.int .i64 a0 0, .int .i64 a1 0] .e 0 isT = True := by kernel_rfl
theorem case_6_0 (a0 a1 : Int) : exFun (alt a0 a1 6 0) G0 (run F G0 200 200) 200 [.int .i64 a0 0, .int .i64 a1 0] .e 0 isT = True := by kernel_rfl
theorem case_6_6 (a0 a1 : Int) : exFun (alt a0 a1 6 6) G0 (run F G0 200 200) 200 [.int .i64 a0 0, .int .i64 a1 0] .e 0 isT = True := by kernel_rfl
theorem case_7_4 (a0 a1 : Int) : exFun (alt a0 a1 7 4) G0 (run F G0 200 200) 200 [.int .i64 a0 0, .int .i64 a1 0] .e 0 isT = True := by kernel_rfl
theorem case_8_2 (a0 a1 : Int) : exFun (alt a0 a1 8 2) G0 (run F G0 200 200) 200 [.int .i64 a0 0, .int .i64 a1 0] .e 0 isT = True := by kernel_rfl
theorem case_9_0 (a0 a1 : Int) : exFun (alt a0 a1 9 0) G0 (run F G0 200 200) 200 [.int .i64 a0 0, .int .i64 a1 0] .e 0 isT = True := by kernel_rfl
theorem case_9_6 (a0 a1 : Int) : exFun (alt a0 a1 9 6) G0 (run F G0 200 200) 200 [.int .i64 a0 0, .int .i64 a1 0] .e 0 isT = True := by kernel_rfl
theorem case_10_4 (a0 a1 : Int) : exFun (alt a0 a1 10 4) G0 (run F G0 200 200) 200 [.int .i64 a0 0, .int .i64 a1 0] .e 0 isT = True := by kernel_rfl
theorem case_11_2 (a0 a1 : Int) : exFun (alt a0 a1 11 2) G0 (run F G0 200 200) 200 [.int .i64 a0 0, .int .i64 a1 0] .e 0 isT = True := by kernel_rfl
theorem case_12_0 (a0 a1 : Int) : exFun (alt a0 a1 12 0) G0 (run F G0 200 200) 200 [.int .i64 a0 0, .int .i64 a1 0] .e 0 isT = True := by kernel_rfl
theorem case_12_6 (a0 a1 : Int) : exFun (alt a0 a1 12 6) G0 (run F G0 200 200) 200 [.int .i64 a0 0, .int .i64 a1 0] .e 0 isT = True := by kernel_rfl
theorem case_13_4 (a0 a1 : Int) : exFun (alt a0 a1 13 4) G0 (run F G0 200 200) 200 [.int .i64 a0 0, .int .i64 a1 0] .e 0 isT = True := by kernel_rfl
theorem case_14_2 (a0 a1 : Int) : exFun (alt a0 a1 14 2) G0 (run F G0 200 200) 200 [.int .i64 a0 0, .int .i64 a1 0] .e 0 isT = True := by kernel_rfl
theorem case_15_0 (a0 a1 : Int) : exFun (alt a0 a1 15 0) G0 (run F G0 200 200) 200 [.int .i64 a0 0, .int .i64 a1 0] .e 0 isT = True := by kernel_rfl
theorem case_15_6 (a0 a1 : Int) : exFun (alt a0 a1 15 6) G0 (run F G0 200 200) 200 [.int .i64 a0 0, .int .i64 a1 0] .e 0 isT = True := by kernel_rfl
end Go.A1.A1Flt

