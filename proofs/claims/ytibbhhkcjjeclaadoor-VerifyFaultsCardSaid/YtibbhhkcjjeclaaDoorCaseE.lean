/- Part of a proof: texts W1Flt4 of the engine and what is proved with it; nothing is assumed. -/
import Derived.Test.YtibbhhkcjjeclaaDoorCase
set_option linter.unusedVariables false
set_option linter.unusedSimpArgs false
namespace Go.A1.A1Flt
open Go.Eng
set_option maxRecDepth 100000
theorem case_0_4 (a0 a1 : Int) : exFun (alt a0 a1 0 4) G0 (run F G0 200 200) 200 [.int .i64 a0 0, .int .i64 a1 0] .e 0 isT = True := by kernel_rfl
theorem case_1_2 (a0 a1 : Int) : exFun (alt a0 a1 1 2) G0 (run F G0 200 200) 200 [.int .i64 a0 0, .int .i64 a1 0] .e 0 isT = True := by kernel_rfl
theorem case_2_0 (a0 a1 : Int) : exFun (alt a0 a1 2 0) G0 (run F G0 200 200) 200 [.int .i64 a0 0, .int .i64 a1 0] .e 0 isT = True := by kernel_rfl
theorem case_2_6 (a0 a1 : Int) : exFun (alt a0 a1 2 6) G0 (run F G0 200 200) 200 [.int .i64 a0 0, .int .i64 a1 0] .e 0 isT = True := by kernel_rfl
theorem case_3_4 (a0 a1 : Int) : exFun (alt a0 a1 3 4) G0 (run F G0 200 200) 200 [.int .i64 a0 0, .int .i64 a1 0] .e 0 isT = True := by kernel_rfl
theorem case_4_2 (a0 a1 : Int) : exFun (alt a0 a1 4 2) G0 (run F G0 200 200) 200 [.int .i64 a0 0, .int .i64 a1 0] .e 0 isT = True := by kernel_rfl
theorem case_5_0 (a0 a1 : Int) : exFun (alt a0 a1 5 0) G0 (run F G0 200 200) 200 [.int .i64 a0 0, .int .i64 a1 0] .e 0 isT = True := by kernel_rfl
theorem case_5_6 (a0 a1 : Int) : exFun (alt a0 a1 5 6) G0 (run F G0 200 200) 200 [.int .i64 a0 0, .int .i64 a1 0] .e 0 isT = True := by kernel_rfl
theorem case_6_4 (a0 a1 : Int) : exFun (alt a0 a1 6 4) G0 (run F G0 200 200) 200 [.int .i64 a0 0, .int .i64 a1 0] .e 0 isT = True := by kernel_rfl
theorem case_7_2 (a0 a1 : Int) : exFun (alt a0 a1 7 2) G0 (run F G0 200 200) 200 [.int .i64 a0 0, .int .i64 a1 0] .e 0 isT = True := by kernel_rfl
theorem case_8_0 (a0 a1 : Int) : exFun (alt a0 a1 8 0) G0 (run F G0 200 200) 200 [.int .i64 a0 0, .int .i64 a1 0] .e 0 isT = True := by kernel_rfl
theorem case_8_6 (a0 a1 : Int) : exFun (alt a0 a1 8 6) G0 (run F G0 200 200) 200 [.int .i64 a0 0, .int .i64 a1 0] .e 0 isT = True := by kernel_rfl
theorem case_9_4 (a0 a1 : Int) : exFun (alt a0 a1 9 4) G0 (run F G0 200 200) 200 [.int .i64 a0 0, .int .i64 a1 0] .e 0 isT = True := by kernel_rfl
theorem case_10_2 (a0 a1 : Int) : exFun (alt a0 a1 10 2) G0 (run F G0 200 200) 200 [.int .i64 a0 0, .int .i64 a1 0] .e 0 isT = True := by kernel_rfl
theorem case_11_0 (a0 a1 : Int) : exFun (alt a0 a1 11 0) G0 (run F G0 200 200) 200 [.int .i64 a0 0, .int .i64 a1 0] .e 0 isT = True := by kernel_rfl
theorem case_11_6 (a0 a1 : Int) : exFun (alt a0 a1 11 6) G0 (run F G0 200 200) 200 [.int .i64 a0 0, .int .i64 a1 0] .e 0 isT = True := by kernel_rfl
theorem case_12_4 (a0 a1 : Int) : exFun (alt a0 a1 12 4) G0 (run F G0 200 200) 200 [.int .i64 a0 0, .int .i64 a1 0] .e 0 isT = True := by kernel_rfl
theorem case_13_2 (a0 a1 : Int) : exFun (alt a0 a1 13 2) G0 (run F G0 200 200) 200 [.int .i64 a0 0, .int .i64 a1 0] .e 0 isT = True := by kernel_rfl
theorem case_14_0 (a0 a1 : Int) : exFun (alt a0 a1 14 0) G0 (run F G0 200 200) 200 [.int .i64 a0 0, .int .i64 a1 0] .e 0 isT = True := by kernel_rfl
theorem case_14_6 (a0 a1 : Int) : exFun (alt a0 a1 14 6) G0 (run F G0 200 200) 200 [.int .i64 a0 0, .int .i64 a1 0] .e 0 isT = True := by kernel_rfl
theorem case_15_4 (a0 a1 : Int) : exFun (alt a0 a1 15 4) G0 (run F G0 200 200) 200 [.int .i64 a0 0, .int .i64 a1 0] .e 0 isT = True := by kernel_rfl
end Go.A1.A1Flt

